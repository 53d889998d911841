/- What functions compute. No condition. -/
import Derived.Test.YtmbbjhopngejaaaGreatX13
set_option linter.all false
open List renaming replicate → Za, set_cons_zero → Zb, set_cons_succ → Zc, forall_mem_map → Ze, length_map → Zf, not_mem_nil → Zh, replicate_succ → Zi, mem_cons → Zk, length_filter_le → Zl, set_set → Zn
open Go.Vm.V renaming int → Zd, agg → Zj, ofScalar → Zm, ofValue → Zo, cells → Zp, ref → Zq
open Int renaming toNat_natCast → Zg
namespace Go.Proofs.YtmbbjhopngejaaaGreat
open Go Go.Vm Tryz
set_option maxHeartbeats 8000000
def c0i {α:Type} (p:α→Bool) (l:List α) (j:Nat):List α:=(l.take j).filter fun x=> !p x
def c4l {α:Type} (f:α→V) (p:α→Bool) (l:List α) (j:Nat):List V:=(c0i p l j).map f++(Za (j - (c0i p l j).length) ST2++(l.drop j).map f)
theorem d2k {α:Type} (p:α→Bool) (l:List α) (j:Nat):(c0i p l j).length≤j:=ql7 (Zl ..) (by rw [qlj];omega)
theorem d3l {α:Type} {f:α→V} {p:α→Bool} {l:List α} {j:Nat} (hj:j≤l.length):(c4l f p l j).length=l.length:=by
  have:=d2k p l j;simp only [aQ,fQ,c4l,List.length_append,Zf,List.length_replicate,List.length_drop];omega
theorem f6x {α:Type} {f:α→V} {p:α→Bool} {l:List α} {j:Nat} {x:α} (hx:l[j]? =some x):(c4l f p l j)[j]? =some (f x):=by
  have:=d2k p l j;rw [c4l,qli (by rw [qlu];omega),qli (by simp),qlu,qmh,qmz,qma,qmt,Nat.add_zero,hx];rfl
section
variable {α:Type} {p:α→Bool} {l:List α} {j:Nat} {x:α} (hx:l[j]? =some x)
include hx
theorem c8m (hp:p x=true):c0i p l (j+1)=c0i p l j:=by
  rw [c0i,qlx,hx,List.filter_append];simp [hp,c0i]
theorem d20 (hp:p x=false):c0i p l (j+1)=c0i p l j++[x]:=by
  rw [c0i,qlx,hx,List.filter_append];simp [hp,c0i]
end
theorem d9k (n:Nat) (R:List V):Za n ST2++ST2::R=Za (n+1) ST2++R:=by
  rw [List.replicate_succ',ql5,List.singleton_append]
section
variable {α:Type} {f:α→V} {p:α→Bool} {l:List α} {j:Nat} {x:α} (hx:l[j]? =some x)
include hx
theorem d9d (y:V):(c4l f p l j).set j y=(c0i p l j).map f++(Za (j - (c0i p l j).length) ST2++y::(l.drop (j+1)).map f):=by
  have h:=d2k p l j;have hl:=(qlc.1 hx).1;rw [c4l,qmn _ _ (by rw [qlu];exact h),qlu,qmn _ _ (by simp),qmh,qmz,List.drop_eq_getElem_cons hl,qm5,Zb]
theorem d80 (hp:p x=true) (y:V):((c4l f p l j).set j y).set j ST2=c4l f p l (j+1):=by
  have h:=d2k p l j;rw [Zn,d9d hx,c4l,c8m hx hp,d9k,show j - (c0i p l j).length+1=j+1 - (c0i p l j).length by omega]
theorem g5n (hp:p x=false) (hc:(c0i p l j).length < j) (y:V):(((c4l f p l j).set j y).set (c0i p l j).length (f x)).set j ST2=c4l f p l (j+1):=by
  obtain ⟨d,hd⟩:∃d,j - (c0i p l j).length=d+1:=⟨j - (c0i p l j).length - 1,by omega⟩;have hn:(c0i p l (j+1)).length=(c0i p l j).length+1:=by rw [d20 hx hp];simp
  rw [d9d hx,hd,qmn _ _ (by rw [qlu];exact qly _),qlu,qmz,Zi,qm3,Zb,
    qmn _ _ (by rw [qlu];omega),qlu,hd,Zc,qmn _ _ (by simp),qmh,qmz,Zb,
    c4l,d20 hx hp,qln,ql1,show j+1 - ((c0i p l j).length+1)=d+1 by omega,d9k,qmu,ql5]
  rfl
end
theorem f6c {α:Type} {f:α→V} {p:α→Bool} {l:List α} {j:Nat} (hj:l.length≤j) (hk:j≤l.length):c4l f p l j=(l.filter fun x=> !p x).map f++Za (l.length - (l.filter fun x=> !p x).length) ST2∧c0i p l j=l.filter fun x=> !p x:=by
  have e:c0i p l j=l.filter fun x=> !p x:=by rw [c0i,ql3 hj]
  refine ⟨?_,e⟩;rw [c4l,e,ql4 hj,show j=l.length by omega];simp
theorem f8a {α:Type} {f:α→V} {p:α→Bool} {l:List α} {j:Nat} (hc:(c0i p l j).length < j) (y:V):((c4l f p l j).set j y).getD (c0i p l j).length .any=Zj [.any,.any]:=by
  rw [qlo,qld (by omega),c4l,qli (by rw [qlu];exact qly _),qlu,qmz,qls (by rw [qmh];omega),List.getElem?_replicate,if_pos (by omega)];rfl
theorem d2b {α:Type} {f:α→V} (p:α→Bool) (l:List α) (j:Nat) (hf:∀z,(f z).noRef=true):(c4l f p l j).all V.noRef=true:=by
  simp only [c4l,List.all_append,List.all_map,Bool.and_eq_true,List.all_eq_true];exact ⟨fun a _=>hf a,fun a ha=>by rw [qmf ha];rfl,fun a _=>hf a⟩
theorem d1r {α:Type} {f:α→V} (p:α→Bool) (l:List α) (j:Nat) (hf:∀z,(f z).cells.length=2):∀z∈c4l f p l j,z.cells.length=2:=by
  intro z hz;simp only [c4l,List.mem_append,List.mem_map] at hz;rcases hz with ⟨y,_,rfl⟩ | h | ⟨y,_,rfl⟩
  · exact hf y
  · rw [qmf h];rfl
  · exact hf y
theorem c8v {m:Nat} {s:St} (id j:Nat) (xs:List V) (u v:V) (k:Kd) (hO:s.O[id]? =some (.arr xs k)) (hj:xs[j]? =some (.agg [u,v])):b44 m s {s with O:=s.O.set id (.arr (xs.set j ST2) k)}:=
  b8a id _ _ xs (xs.set j ST2) k hO (.inl ⟨rfl,rfl⟩) (by rw [c2p hj,c03 hj];exact WkL.app (WkL.refl _) (WkL.app (a:=[u,v]) (a':=[.any,.any]) ⟨.inr (.inr rfl),.inr (.inr rfl),trivial⟩ (WkL.refl _))) qlr (c5n hj rfl)
theorem g5f (u v:V):∀n,WkL ((Za n (Zj [u,v])).flatMap Zp) ((Za n ST2).flatMap Zp)
  | 0=>trivial
  | n+1=>by
    rw [Zi,Zi,ql2,ql2];exact WkL.app (a:=[u,v]) (a':=[.any,.any]) ⟨.inr (.inr rfl),.inr (.inr rfl),trivial⟩ (g5f u v n)
theorem f0o {m:Nat} {s:St} (id n:Nat) (xs:List V) (u v:V) (k:Kd) (hO:s.O[id]? =some (.arr (xs++Za n (.agg [u,v])) k)):b44 m s {s with O:=s.O.set id (.arr (xs++Za n ST2) k)}:=
  b8a id _ _ (xs++Za n (.agg [u,v])) (xs++Za n ST2) k hO (.inl ⟨rfl,rfl⟩) (by rw [qmw,qmw];exact WkL.app (WkL.refl _) (g5f u v n)) (by simp) (fun q hq z hz=>by
    rcases qll.1 hz with h | h
    · exact hq z (qmb _ h)
    · have e:=qmf h
      rw [e,←hq (.agg [u,v]) (qmq _ (List.mem_replicate.2 ⟨(List.mem_replicate.1 h).1,rfl⟩))];rfl)
theorem c52 (l:List TW) (g:Nat) (caps:List V) (p:TW→Bool) (hl:l.length≤1048576) (hc:Caps caps) (hg:∀x0 x1,(x0,x1)∈l→Con prog g (Zj [Zd .i64 x0,V.sl (x1.map (Zd .i64))]::caps) [] (.bool (p (x0,x1))) []):Con prog 119 [sQ rQc l,.fn g caps] [] (.int .i64 (b2r p 0 l)) []:=by
 apply zcn [.tmp 4] [] func119 ntmps119;intro _ _ _;have T:=tq5 Y3 Y4 Y30 Y41 Y81;have F:=Fc.mk True.intro;apply yR [0,1];apply b0e;intros;apply yR [0,1,7,8];apply b0g;intros;apply b05 (fun i=>⟨[(0,sQ rQc l),(1,.fn g caps),(7,.int .i64 l.length),(8,.int .i64 (Nat.cast i))],[],false,19,0⟩) (fun i=>i≤l.length∧b2r p i (l.drop i)=b2r p 0 l) (fun i=>l.length - i) 0
 ·refine b18 [0,1,7,8] ?_;simp only [b0r,b0k,b0i,b0f,b0n,Nat.reduceEqDiff,reduceIte];rfl
 ·exact ⟨qle _,rfl⟩
 ·rintro i hok5 Q5 n5 e5 r5;obtain ⟨hi1,hR⟩:=hok5;apply yR [0,1,7,8,9];apply b0e;intros;apply b0c _ rfl
  ·intro hc0;have hlt:i < l.length:=by omega
   obtain ⟨⟨x0,x1⟩,hx⟩:∃x:TW,l[i]? =some x:=⟨l[i]'(by omega),qla (by omega)⟩;have hst:=b5j (p:=p) hx;apply zn [0,1,7,8];apply b0e;intros;apply b0g;intros;have F:=Fc.mk (gdm hx);apply yR [0,1,5,7,8];apply b1l [0,1,5,7,8,16];intro _ k12;apply (zq8);apply (f9c);apply zcc (hg x0 x1 (qlb hx));apply k12 _;apply (zk);apply b0c _ rfl
   ·intro hc1;apply yR [4];apply (zr);exact b0h rfl (by rw [←hR,hst,if_pos hc1]) (.inl rfl)
   ·intro hc1;apply zn [0,1,7,8];apply (yV);apply n5 _ (i+1)
    ·apply b4e [0,1,7,8] [];rfl
    ·exact ⟨by omega,by rw [←hR,hst,if_neg (by simp [hc1])]⟩
    ·show _ < _;omega
  ·intro hc0;apply zn [];apply yR [4];apply (zr);exact b0h rfl (by rw [←hR,b6g (by omega)]) (.inl rfl)
set_option maxRecDepth 100000 in
theorem b9a (l:List TW) (g:Nat) (caps:List V) (p:TW→Bool) (hl:l.length≤1048576) (hc:Caps caps) (hg:∀x0 x1,(x0,x1)∈l→Con prog g (Zj [Zd .i64 x0,V.sl (x1.map (Zd .i64))]::caps) [] (.bool (p (x0,x1))) []) (hne:∀x∈l,x.2≠[]):Con prog 60 [.ref 0,.fn g caps] [fQ rQc l] (.ref 1) [.dead,.arr ((l.filter (fun x=> !p x)).map rQc) (thK (l.filter (fun x=> !p x)).length)]:=by
 apply zcn [.tmp 4] [] func60 ntmps60;intro _ _ _;have T:=tq5 Y3 Y4 Y30 Y41 Y81;have F:=Fc.mk True.intro;apply yR [0,1];apply b1l [0,1,5];intro _ k2;apply (zq2);apply zcc (c52 l g caps p hl hc hg);apply (b2h);apply k2 _;apply (zk);apply b0e;intros;apply yR [0,1,5,12];apply b0c _ rfl
 ·intro hc0;have hfil:=d1a hc0;apply b0e;intro _ n6 _ _;apply (yV);apply n6
  ·apply b0m (b0a [4] _);simp only [b0r,b0k,b0i,b0f,b0n,Nat.reduceEqDiff,reduceIte];exact b0m (g27 0 4 (l.map rQc) (b1w l.length) rfl rfl) (c68 0 (l.map rQc).length 4 (l.map rQc) (by simp) (by rw [qlu];rfl) (qly _) (fun e=>by rw [qlt.1 e];rfl) rfl rfl)
  try simp only [b04,b09,Nat.reduceEqDiff,reduceIte,Zb,Zc]
  apply (zr);rw [hfil];have htl:List.take l.length (l.map rQc)=l.map rQc:=ql3 (by rw [qlu];exact qly _);exact c94 rfl (by simp [b43,b5u,b9z,c1c]) (by simp) rfl (by simp [b43,b5u,b9z,c1c,htl]) (by simp [Blk.kindIs,b7i]) rfl
 ·intro hc0;obtain ⟨k0,hk1,hk2,hk3,⟨z0,z1⟩,hz,hpz⟩:=c2o hc0;rw [Nat.zero_add] at hk2;have hk4:(c0i p l k0)=l.take k0:=by have e:=hk3;rw [←c0i,c8m hz hpz] at e;exact e
  have hk5:(c0i p l (k0+1))=l.take k0:=hk3;have hK0:(c0i p l (k0+1)).length=k0:=by rw [hk5,qlj];omega
  have hfd:b1w l.length=.deep:=by unfold b1w;rw [if_neg (by omega)]
  have hR0:(c4l rQc p l k0)=l.map rQc:=by rw [c4l,hk4,qlj,Nat.min_eq_left (by omega),qmz,List.replicate_zero,List.nil_append,←qmu,List.take_append_drop]
  have hR1:(l.map rQc).set k0 ST2=(c4l rQc p l (k0+1)):=by have e:=d80 (f:=rQc) hz hpz ST2;rw [hR0,Zn] at e;exact e
  apply zn [0,1,5];apply b0e;intros;have F:=Fc.mk hk2;apply yR [0,1,5,6];apply b0g;intros;apply b05 (fun j=>⟨[(0,.ref 0),(1,.fn g caps),(5,.int .i64 (Nat.cast (c0i p l j).length)),(6,.int .i64 (Nat.cast j))],[.arr (c4l rQc p l j) .deep],false,42,0⟩) (fun j=>(c0i p l j).length < j∧j≤l.length) (fun j=>l.length - j) (k0+1)
  ·refine b0m (b0a [0,1,5,6] _) ?_;simp only [b0r,b0k,b0i,b0f,b0n,Nat.reduceEqDiff,reduceIte];rw [hK0,←hR1];refine b0m (b4e [0,1,5,6] [0] (b:=rfl)) ?_;refine b0m (c0v 0 l.length (l.map rQc) rfl) ?_;exact b0m (c8v 0 k0 (l.map rQc) (Zd .i64 z0) (V.sl (z1.map (Zd .i64))) .deep rfl (by rw [qma,hz];rfl)) (b2o _ _)
  ·exact ⟨by rw [hK0];omega,hk1⟩
  ·rintro j hok11 Q11 n11 e11 r11;obtain ⟨hj1,hj2⟩:=hok11;apply b0e;intro _ n12 _ _;apply yR [0,1,5,6,19];apply b0c _ rfl
   ·intro hc1;have hlt:j < l.length:=by rw [d3l hj2] at hc1;simpa using hc1
    obtain ⟨⟨x0,x1⟩,hx⟩:∃x:TW,l[j]? =some x:=⟨l[j]'(by omega),qla (by omega)⟩;have hrx:=f6x (f:=rQc) (p:=p) hx;have hxe:=hne _ (qlb hx);simp only [] at hxe;have hxn:x1.map (Zd .i64)≠[]:=fun e=>hxe (List.map_eq_nil_iff.1 e)
    have hrl:=d3l (f:=rQc) (p:=p) hj2;have hgj:((c4l rQc p l j).set j (Zj [Zd .i64 x0,Zq 1])).getD j .any=Zj [Zd .i64 x0,Zq 1]:=d8m (by rw [hrl];exact hlt);have hgy:=f8a (f:=rQc) hj1 (Zj [Zd .i64 x0,Zq 1]);have hcz0:=c5n (y:=Zj [Zd .i64 x0,Zq 1]) hrx rfl 2 (d1r p l j fun _=>rfl);simp only [Zp] at hcz0;have hcz:=eq_true hcz0;apply b6m;apply n12
    ·apply b0m (b0a [0,1,5,6] _);simp only [b0r,b0k,b0i,b0f,b0n,Nat.reduceEqDiff,reduceIte];exact c80 0 j _ [Zd .i64 x0] (x1.map (Zd .i64)) .deep .flat rfl (.inl rfl) hrx hxn (.inr ⟨rfl,by rw [qmp,qlk];intro a _;rfl⟩) rfl
    try simp only [b04,b09,Nat.reduceEqDiff,reduceIte,Zb,Zc]
    apply b0e;intro _ n15 _ _;apply b0g;intros;have F:=fq6 hk2 hgj hgy hrl @qlr.{0} hcz;apply yR [0,1,5,6,7];apply b1l [0,1,5,6,7,29];intro _ k18;apply (g4b);apply zcc (hg x0 x1 (qlb hx));apply (zU);apply k18 _;apply (zk);apply b0c _ rfl
    ·intro hc2;have hde:((((c4l rQc p l j).set j (Zj [Zd .i64 x0,Zq 1])).set (c0i p l j).length (Zj [Zd .i64 x0,V.sl (x1.map (Zd .i64))])).set j ST2)=(c4l rQc p l (j+1)):=g5n (f:=rQc) hx hc2 hj1 _;have hcn:(((c0i p l j).length:Nat):Int)+1=(((c0i p l (j+1)).length:Nat):Int):=by rw [d20 hx hc2,qln];rfl
     apply yR [0,1,5,6];apply (yV);apply n15
     ·apply b0m (b0a [0,1,5,6] _);simp only [b0r,b0k,b0i,b0f,b0n,Nat.reduceEqDiff,reduceIte];refine b0m (c8v 0 j _ (Zd .i64 x0) (Zq 1) .part rfl ?_) (c8w 0 _ _ _ rfl (.inl ⟨rfl,rfl⟩) ?_)
      ·first | exact qlf (by rw [hrl];exact hlt) | (rw [qld (show (c0i p l j).length≠j by omega)];exact qlf (by rw [hrl];exact hlt))
      ·rw [hde];exact d2b p l (j+1) fun _=>rfl
     try simp only [b04,b09,Nat.reduceEqDiff,reduceIte,Zb,Zc]
     apply (yV);apply n11 _ (j+1)
     ·apply b4e [0,1,5,6] [0];rw [hde,hcn];rfl
     ·exact ⟨by rw [d20 hx hc2,qln,ql1];omega,hlt⟩
     ·show _ < _;omega
    ·intro hc2;have hde:(((c4l rQc p l j).set j (Zj [Zd .i64 x0,Zq 1])).set j ST2)=(c4l rQc p l (j+1)):=d80 (f:=rQc) hx hc2 _;have hcn:(((c0i p l j).length:Nat):Int)=(((c0i p l (j+1)).length:Nat):Int):=by rw [c8m hx hc2]
     apply (zx);apply n15
     ·apply b0m (b0a [0,1,5,6] _);simp only [b0r,b0k,b0i,b0f,b0n,Nat.reduceEqDiff,reduceIte];refine b0m (c8v 0 j _ (Zd .i64 x0) (Zq 1) .part rfl ?_) (c8w 0 _ _ _ rfl (.inl ⟨rfl,rfl⟩) ?_)
      ·first | exact qlf (by rw [hrl];exact hlt) | (rw [qld (show (c0i p l j).length≠j by omega)];exact qlf (by rw [hrl];exact hlt))
      ·rw [hde];exact d2b p l (j+1) fun _=>rfl
     try simp only [b04,b09,Nat.reduceEqDiff,reduceIte,Zb,Zc]
     apply (yV);apply n11 _ (j+1)
     ·apply b4e [0,1,5,6] [0];rw [hde,hcn];rfl
     ·exact ⟨by rw [c8m hx hc2];omega,hlt⟩
     ·show _ < _;omega
   ·intro hc1;have hjl:l.length≤j:=by rw [d3l hj2] at hc1;simpa using hc1
    obtain ⟨he1,he2⟩:=f6c (f:=rQc) (p:=p) hjl hj2;have hfle:(l.filter (fun x=> !p x)).length≤l.length:=Zl ..;rw [he1,he2];have hel:((l.filter (fun x=> !p x)).map rQc++Za (l.length - (l.filter (fun x=> !p x)).length) ST2).length=l.length:=by rw [qln,qlu,qmh];omega
    have hec1:∀x∈((l.filter (fun x=> !p x)).map rQc++Za (l.length - (l.filter (fun x=> !p x)).length) ST2),x.cells.length=2:=by rw [←he1];exact d1r p l j fun _=>rfl
    have hec0:=hec1;simp only [Zp] at hec0;have hec:=eq_true hec0;have het:((l.filter (fun x=> !p x)).map rQc++Za (l.length - (l.filter (fun x=> !p x)).length) ST2).take (l.filter (fun x=> !p x)).length=(l.filter (fun x=> !p x)).map rQc:=List.take_left' (qlu _);have hed:((l.filter (fun x=> !p x)).map rQc++Za (l.length - (l.filter (fun x=> !p x)).length) ST2).drop ((l.filter (fun x=> !p x)).length+(l.length - (l.filter (fun x=> !p x)).length))=[]:=ql4 (by rw [hel];omega);have hel2:((l.filter (fun x=> !p x)).map rQc++Za (l.length - (l.filter (fun x=> !p x)).length) (Zj [Zd .i64 0,V.sl []])).length=l.length:=by rw [qln,qlu,qmh];omega
    have hez0:∀x∈((l.filter (fun x=> !p x)).map rQc++Za (l.length - (l.filter (fun x=> !p x)).length) (Zj [Zd .i64 0,V.sl []])),x.cells.length=2:=by intro x hx;rcases qll.1 hx with h | h;exact hec1 x (qmb _ h);rw [qmf h];rfl
    simp only [Zp] at hez0;have hez:=eq_true hez0;apply zn [0,5];have F:=fq7 hk2 hel het hed hec hel2 hez;apply yR [0,5];apply b0e;intro _ n25 _ _;apply (yV);apply n25
    ·apply b0m (b0a [4] _);simp only [b0r,b0k,b0i,b0f,b0n,Nat.reduceEqDiff,reduceIte];exact b0m (f0o 0 (l.length - (l.filter (fun x=> !p x)).length) ((l.filter (fun x=> !p x)).map rQc) (Zd .i64 0) (V.sl []) .deep rfl) (c68 0 (l.filter (fun x=> !p x)).length 4 ((l.filter (fun x=> !p x)).map rQc++Za (l.length - (l.filter (fun x=> !p x)).length) ST2) (by simp) (by rw [hel,hfd];rfl) (by rw [hel];exact hfle) (fun e=>by rw [qlt.1 e,List.map_nil,List.nil_append,qlk];intro a ha;rw [qmf ha];rfl) rfl rfl)
    try simp only [b04,b09,Nat.reduceEqDiff,reduceIte,Zb,Zc]
    apply (zr);exact c94 rfl (by simp [b43,b5u,b9z,c1c]) (by simp) rfl (by simp [b43,b5u,b9z,c1c,het]) (by simp [Blk.kindIs,b7i]) rfl
theorem g5m {names:List ByteArray} {j:Nat} {s:ByteArray} (h:names.Pairwise fun a b=>b2v a b=true) (hj:names[j]? =some s):inS s (names.take j)=false:=by
  rw [inS,List.any_eq_false];intro _ hy hq;obtain ⟨i,hi,rfl⟩:=ql0.1 hy;rw [qlj] at hi;rw [List.getElem_take,decide_eq_true_eq] at hq;have:=b85 h (qla (show i < names.length by omega)) hj (by omega);rw [hq,b7c] at this;cases this
theorem g1w:thK 0=.thin:=rfl
theorem g3v {n:Int} {ss:List TS} {fl:List TA} {ins:List TI} {ws:List TW} (hp:CtlProp n ss fl ins ws) {x:TW} (hx:x∈ws):x.2≠[]:=by
  intro e;have h:=(hp.want x hx).2;rw [e] at h;exact absurd h (by decide)
theorem d9p (x0:Int) (x1:List Int) (m:Int):Con prog 61 [.agg [Zd .i64 x0,V.sl (x1.map (Zd .i64))],.pv [.int .i64 m] 0 0] [] (.bool (decide (x0=m))) []:=by
 apply zcn [.tmp 3] [] func61 ntmps61;intro _ _ _;have T:=tq3 Y3 Y41 Y81;have F:=Fc.mk True.intro;apply yR [1,2];apply yR [3];apply (zr);exact b0h rfl (by first | rfl | simp) (.inl rfl)
set_option maxRecDepth 100000 in
theorem d0m (n:Int) (ss:List TS) (fl:List TA) (ins:List TI) (ws:List TW) (m:Int) (hs:ss.length≤1048576) (hl:fl.length≤1048576) (hls:∀t∈fl,t.1.size≤9223372036854775807) (hil:ins.length≤1048576) (hin:∀x∈ins,x.2.2.2.length≤1048576) (his:∀x∈ins,∀s∈x.2.2.2,s.size≤9223372036854775807) (hwl:ws.length≤1048576) (hwn:∀x∈ws,x.2.length≤1048576):Con prog 19 [tQ n ss,kQ fl ins ws,.int .i64 m] [] (.tup [.agg [.ref 0,.ref 1,.ref 2],.bool (atB n ss fl ins ws m)]) [aQ rQa (b3r (atB n ss fl ins ws m) (b7q fl (f3v ins m))),fQ rQb (b3r (atB n ss fl ins ws m) (g3j ins m)),.arr ((b3r (atB n ss fl ins ws m) (c7w ws m)).map rQc) (thK (b3r (atB n ss fl ins ws m) (c7w ws m)).length)]:=by
 apply zcn [.cell 6 32,.tmp 7] [(60,[0])] func19 ntmps19;intro _ _ _;have T:=tqa (c2r Y3 Y4 Y9 Y24 Y26 Y28 Y29 Y30 Y32 Y41 Y48 Y69) (tq5 Y72 Y81 Y96 Y98 b7w);have F:=Fc.mk True.intro;apply yR [3,4,5,6];apply b0e;intros;apply c5h [4,5,6,25] (b45 n ss hs) (b4z n ss fl ins ws hs hl hls hil hin his hwl hwn) (b5p ins m hil);apply b0c _ rfl
 ·intro hc0;have hB:(atB n ss fl ins ws m)=false:=by
   rw [atB];cases hq:(b3g n ss fl ins ws) with
   |false=>rfl
   |true=>(have ht:=b5b hq;simp [hq,ht] at hc0;simp;omega)
  apply b0e;intro _ n5 _ _;apply (yV);apply n5
  ·apply b0m (b0a [6,7] _);simp only [b0r,b0k,b0i,b0f,b0n,Nat.reduceEqDiff,reduceIte];exact f5f 9 _ rfl
  try simp only [b04,b09,Nat.reduceEqDiff,reduceIte,Zb,Zc]
  apply (zq3);simp only [aQ,fQ,hB,b3e,List.map_nil,List.length_nil,b5t,g1w];exact rta
 ·intro hc0;have hB:(atB n ss fl ins ws m)=true:=by
   rw [atB];cases hq:(b3g n ss fl ins ws) with
   |false=>simp [hq] at hc0
   |true=>(have ht:=b5b hq;simp [hq,ht] at hc0;simp;omega)
  have hB2:=hB;rw [atB,qlg,decide_eq_true_eq] at hB2;have hp:=(b36 n ss fl ins ws).1 hB2.1;obtain ⟨k,t,hk1,hk2,hk3⟩:=b83 hB2.2;obtain ⟨t0,t1,t2,t3⟩:=t;have hkl:k < ins.length:=(qlc.1 hk1).1;obtain ⟨hfn,hfi⟩:=d9e hk3 hk1;simp only [] at hfn hfi;have hnl:=hin _ (qlb hk1);simp only [] at hnl;have hinc:=hp.inc.each _ (qlb hk1);have hsrt:t3.Pairwise (fun a b=>b2v a b=true):=hinc.srt;have hsI1:(ins.map rQb).set k (Zj [Zd .i64 t0,Zd .i64 t1,V.bool true,V.sl (t3.map V.str)])=(ins.set k (t0,t1,true,t3)).map rQb:=by have e:=qmx (f:=rQb) (l:=ins) (i:=k) (a:=(t0,t1,true,t3));exact e.symm
  have hgI:(ins.set k (t0,t1,true,t3))[k]? =some (t0,t1,true,t3):=qlf hkl;have hlI:(ins.set k (t0,t1,true,t3)).length=ins.length:=qlr;have hsI2:((ins.set k (t0,t1,true,t3)).map rQb).set k (Zj [Zd .i64 t0,Zd .i64 t1,V.bool true,V.sl []])=(ins.set k (t0,t1,true,[])).map rQb:=by have e:=qmx (f:=rQb) (l:=ins.set k (t0,t1,true,t3)) (i:=k) (a:=(t0,t1,true,[]));rw [Zn] at e;exact e.symm
  apply zn [4,5,6];have F:=fq7 hk3 @qlh (gdm hk1) hsI1 (gdm hgI) hlI hsI2;apply yRc [4,5,6,8] (c1i fl ins ws hl hil hin hwl hwn);apply yRc [4,5,6,8,9] (b5p ins m hil);apply b0e;intro _ n9 _ _;apply yR [4,5,6,8,9,37,38,39];apply b0g;intros;apply b05 (fun j=>⟨[(4,.ptr 0 0 0),(5,.ptr 1 0 0),(6,.ptr 5 0 0),(8,.ptr 9 0 0),(9,.int .i64 (Nat.cast k)),(37,.sl (t3.map V.str)),(38,.int .i64 t3.length),(39,.int .i64 (Nat.cast j))],[.box (kQ fl ins ws) .shal,.box (.int .i64 m) .flat,eQ,eQ,eQ,bQ 2 3 4,aQ rQa (b7q fl (t3.take j)),fQ rQb ins,fQ rQc ws,bQ 6 7 8],false,78,0⟩) (fun j=>j≤t3.length) (fun j=>t3.length - j) 0
  ·apply b1a [4,5,6,8,9,37,38,39] [1,2,3,4,5,6,7,8,9,13];rw [qm4,f6h];rfl
  ·exact qle _
  ·rintro j hok12 Q12 n12 e12 r12;have hj1:j≤t3.length:=hok12;apply yR [4,5,6,8,9,37,38,39,40];apply b0e;intros;apply b0c _ rfl
   ·intro hc1;have hlt:j < t3.length:=by omega
    obtain ⟨s,hs⟩:∃s,t3[j]? =some s:=⟨_,qla hlt⟩;obtain ⟨q,⟨a0,a1,a2,a3,a4⟩,hf1,hf2,hf3⟩:=c02 ((c4t fl s).2 (hp.names _ (qlb hk1) s (qlb hs)));simp only [] at hf2;subst hf2;have hnw:=g5m hsrt hs;have hfa:=f5j hf1 hnw;have hql:q < fl.length:=(qlc.1 hf1).1;have hfl:(b7q fl (t3.take j)).length=fl.length:=b7y ..;have hstp:=g3n (names:=t3) (fun i b hi e=>c4i hp.srt hi hf1 e) hs hf1 rfl;apply zn [4,5,6,8,9,37,38,39];apply b0e;intros;apply b0g;intros;have F:=b9p hk3 @qlh (gdm hk1) hsI1 (gdm hgI) hlI hsI2 (gdm hs) hf3 @qlh (gdm hfa) hfl;apply yR [4,5,6,8,9,11,37,38,39];apply b0e;intro _ n19 _ _;apply b1b (by kernel_rfl);intro _ q20 k20;show b13 _ _ _ _ 8 (Array.replicate 8 false) _;refine zdU q20 true 0 43 ?_;refine b00 q20 true 1 44 ?_;refine zdU q20 true 2 45 ?_;refine b00 q20 true 3 46 ?_;refine zdU q20 true 4 47 ?_;apply zoc 5 (b6w fl a0 hl);apply b2l q20 true 6 49 rfl rfl (by kernel_rfl) (by kernel_rfl);apply Exists.intro;apply And.intro
    ·intro t hn gx ho K' k';have g44:=gx 44 (by decide);have g48:=gx 48 (by decide);simp only [c3m,b0f,b0n,b0j,Nat.reduceEqDiff,reduceIte] at g44 g48;first | have row0:=b0v (i:=0) (ho rfl) rfl | have row0:t.n+0=t.n:=rfl
     first | have row1:=b0v (i:=1) (ho rfl) rfl | have row1:t.n+0=t.n:=rfl
     first | have row2:=b0v (i:=2) (ho rfl) rfl | have row2:t.n+0=t.n:=rfl
     first | have row3:=b0v (i:=3) (ho rfl) rfl | have row3:t.n+0=t.n:=rfl
     first | have row4:=b0v (i:=4) (ho rfl) rfl | have row4:t.n+0=t.n:=rfl
     first | have row5:=b0v (i:=5) (ho rfl) rfl | have row5:t.n+0=t.n:=rfl
     first | have row6:=b0v (i:=6) (ho rfl) rfl | have row6:t.n+0=t.n:=rfl
     first | have row7:=b0v (i:=7) (ho rfl) rfl | have row7:t.n+0=t.n:=rfl
     first | have row8:=b0v (i:=8) (ho rfl) rfl | have row8:t.n+0=t.n:=rfl
     first | have row9:=b0v (i:=9) (ho rfl) rfl | have row9:t.n+0=t.n:=rfl
     first | have row10:=b0v (i:=10) (ho rfl) rfl | have row10:t.n+0=t.n:=rfl
     first | have row11:=b0v (i:=11) (ho rfl) rfl | have row11:t.n+0=t.n:=rfl
     first | have row12:=b0v (i:=12) (ho rfl) rfl | have row12:t.n+0=t.n:=rfl
     first | have row13:=b0v (i:=13) (ho rfl) rfl | have row13:t.n+0=t.n:=rfl
     first | have row14:=b0v (i:=14) (ho rfl) rfl | have row14:t.n+0=t.n:=rfl
     first | have row15:=b0v (i:=15) (ho rfl) rfl | have row15:t.n+0=t.n:=rfl
     first | have row16:=b0v (i:=16) (ho rfl) rfl | have row16:t.n+0=t.n:=rfl
     first | have row17:=b0v (i:=17) (ho rfl) rfl | have row17:t.n+0=t.n:=rfl
     first | have row18:=b0v (i:=18) (ho rfl) rfl | have row18:t.n+0=t.n:=rfl
     first | have row19:=b0v (i:=19) (ho rfl) rfl | have row19:t.n+0=t.n:=rfl
     have hdl:49 < t.n:=by rw [hn];show 49 < 78;decide
     clear hn;refine .inl ?_;simp only [zE,zL,zN,hdl,b0x,b0s,Nat.reduceEqDiff,reduceIte,implies_true,forall_const,reduceCtorEq,Zo,Zm,V.un,V.gd,b1c,aop,g44,g48,row0,row1,row2,row3,row4,row5,row6,row7,row8,row9,row10,row11,row12,row13,row14,row15,row16,row17,row18,row19,Zk,Zh,or_false,forall_eq_or_imp,forall_eq,b3i,b1k,Blk.row,Go.Vm.V.cells,Ze,Zf,Zg,Int.reduceToNat,TypeDesc.slice.injEq,Nat.reduceAdd,Nat.reduceLeDiff,Nat.reduceLT,Nat.reduceMul,underlying28,Ty.c28,Ty.a28,underlying98,Ty.c98,Ty.a98,hk3,b3u hk1,hsI1,b3u hgI,hlI,hsI2,b3u hs,hf3,b3u hfa,hfl];repeat (refine ai (by first | omega | (intros;omega) | (intros;simp_all;done) | (intros;simp_all;omega)) ?_)
     exact k'
    simp only [b0j];apply b0q 7;apply b0b (by kernel_rfl);apply k20 _;apply n19 _ _ (b0a [4,5,6,8,9,12,37,38,39] _);apply (zk);apply yR [4,5,6,8,9,12,37,38,39,54];apply b0c _ rfl
    ·intro hc2;have hfe:f0v (a0,a1,a2,a3,a4)=(a0,a1,a2,a3,0):=by simp [f0v,g3i,hc2]
     rw [hfe] at hstp;have hsm:((b7q fl (t3.take j)).map rQa).set q (Zj [V.str a0,Zd .i64 a1,Zd .i64 a2,Zd .i64 a3,Zd .i64 0])=(b7q fl (t3.take (j+1))).map rQa:=by rw [←hstp,qmx]
     have F:=fqa (g0a hk3 @qlh (gdm hk1) hsI1 (gdm hgI) hlI hsI2 (gdm hs) hf3 @qlh (gdm hfa)) (fq2 hfl hsm);apply yQ [4,5,6,8,9,37,38,39];apply (yV);apply n12 _ (j+1)
     ·apply b1a [4,5,6,8,9,37,38,39] [0,1,2,3,4,5,6,7,8,9];rfl
     ·exact hlt
     ·show _ < _;omega
    ·intro hc2;have hfe:f0v (a0,a1,a2,a3,a4)=(a0,a1,a2,a3,4):=by simp [f0v,g3i,hc2]
     rw [hfe] at hstp;have hsm:((b7q fl (t3.take j)).map rQa).set q (Zj [V.str a0,Zd .i64 a1,Zd .i64 a2,Zd .i64 a3,Zd .i64 4])=(b7q fl (t3.take (j+1))).map rQa:=by rw [←hstp,qmx]
     have F:=fqa (g0a hk3 @qlh (gdm hk1) hsI1 (gdm hgI) hlI hsI2 (gdm hs) hf3 @qlh (gdm hfa)) (fq2 hfl hsm);apply yQ [4,5,6,8,9,37,38,39];apply (yV);apply n12 _ (j+1)
     ·apply b1a [4,5,6,8,9,37,38,39] [0,1,2,3,4,5,6,7,8,9];rfl
     ·exact hlt
     ·show _ < _;omega
   ·intro hc1;have hje:t3.take j=t3:=ql3 (by omega);rw [hje];apply (zx);apply n9
    ·apply b0m (b0a [5,6,8,9] _);simp only [b0r,b0k,b0i,b0f,b0n,Nat.reduceEqDiff,reduceIte];exact c0v 7 ins.length _ rfl
    try simp only [b04,b09,Nat.reduceEqDiff,reduceIte,Zb,Zc]
    apply b0e;intro _ n27 _ _;apply b1b (by kernel_rfl);intro _ q28 k28;show b13 _ _ _ _ 12 (Array.replicate 12 false) _;refine zdU q28 true 0 62 ?_;refine b00 q28 true 1 63 ?_;refine zdU q28 true 2 64 ?_;refine zdU q28 false 3 65 ?_;refine zdU q28 false 5 67 ?_;apply b2l q28 true 6 68 rfl rfl (by kernel_rfl) (by kernel_rfl);apply Exists.intro;apply And.intro
    ·intro t hn gx ho K' k';have g63:=gx 63 (by decide);have g64:=gx 64 (by decide);simp only [c3m,b0f,b0n,b0j,Nat.reduceEqDiff,reduceIte] at g63 g64;first | have row0:=b0v (i:=0) (ho rfl) rfl | have row0:t.n+0=t.n:=rfl
     first | have row1:=b0v (i:=1) (ho rfl) rfl | have row1:t.n+0=t.n:=rfl
     first | have row2:=b0v (i:=2) (ho rfl) rfl | have row2:t.n+0=t.n:=rfl
     first | have row3:=b0v (i:=3) (ho rfl) rfl | have row3:t.n+0=t.n:=rfl
     first | have row4:=b0v (i:=4) (ho rfl) rfl | have row4:t.n+0=t.n:=rfl
     first | have row5:=b0v (i:=5) (ho rfl) rfl | have row5:t.n+0=t.n:=rfl
     first | have row6:=b0v (i:=6) (ho rfl) rfl | have row6:t.n+0=t.n:=rfl
     first | have row7:=b0v (i:=7) (ho rfl) rfl | have row7:t.n+0=t.n:=rfl
     first | have row8:=b0v (i:=8) (ho rfl) rfl | have row8:t.n+0=t.n:=rfl
     first | have row9:=b0v (i:=9) (ho rfl) rfl | have row9:t.n+0=t.n:=rfl
     first | have row10:=b0v (i:=10) (ho rfl) rfl | have row10:t.n+0=t.n:=rfl
     first | have row11:=b0v (i:=11) (ho rfl) rfl | have row11:t.n+0=t.n:=rfl
     first | have row12:=b0v (i:=12) (ho rfl) rfl | have row12:t.n+0=t.n:=rfl
     first | have row13:=b0v (i:=13) (ho rfl) rfl | have row13:t.n+0=t.n:=rfl
     first | have row14:=b0v (i:=14) (ho rfl) rfl | have row14:t.n+0=t.n:=rfl
     first | have row15:=b0v (i:=15) (ho rfl) rfl | have row15:t.n+0=t.n:=rfl
     first | have row16:=b0v (i:=16) (ho rfl) rfl | have row16:t.n+0=t.n:=rfl
     first | have row17:=b0v (i:=17) (ho rfl) rfl | have row17:t.n+0=t.n:=rfl
     first | have row18:=b0v (i:=18) (ho rfl) rfl | have row18:t.n+0=t.n:=rfl
     first | have row19:=b0v (i:=19) (ho rfl) rfl | have row19:t.n+0=t.n:=rfl
     have hdl:68 < t.n:=by rw [hn];show 68 < 78;decide
     clear hn;refine .inl ?_;simp only [zE,zL,zN,hdl,b0x,b0s,Nat.reduceEqDiff,reduceIte,implies_true,forall_const,reduceCtorEq,Zo,Zm,V.un,V.gd,b1c,aop,g63,g64,row0,row1,row2,row3,row4,row5,row6,row7,row8,row9,row10,row11,row12,row13,row14,row15,row16,row17,row18,row19,Zk,Zh,or_false,forall_eq_or_imp,forall_eq,b3i,b1k,Blk.row,Go.Vm.V.cells,Ze,Zf,Zg,Int.reduceToNat,TypeDesc.slice.injEq,Nat.reduceAdd,Nat.reduceLeDiff,Nat.reduceLT,Nat.reduceMul,underlying29,Ty.c29,Ty.a29,underlying96,Ty.c96,Ty.a96,hk3,b3u hk1,hsI1,b3u hgI,hlI,hsI2];repeat (refine ai (by first | omega | (intros;omega) | (intros;simp_all;done) | (intros;simp_all;omega)) ?_)
     exact k'
    simp only [b0j];refine zdU q28 true 7 69 ?_;apply b1e 4 8 rfl rfl (by kernel_rfl)
    ·apply (b3y);apply b06 8;apply b2l q28 true 9 70 rfl rfl (by kernel_rfl) (by kernel_rfl);apply Exists.intro;apply And.intro
     ·intro t hn gx ho K' k';have g66:=gx 66 (by decide);have g67:=gx 67 (by decide);simp only [c3m,b0f,b0n,b0j,Nat.reduceEqDiff,reduceIte] at g66 g67;first | have row0:=b0v (i:=0) (ho rfl) rfl | have row0:t.n+0=t.n:=rfl
      first | have row1:=b0v (i:=1) (ho rfl) rfl | have row1:t.n+0=t.n:=rfl
      first | have row2:=b0v (i:=2) (ho rfl) rfl | have row2:t.n+0=t.n:=rfl
      first | have row3:=b0v (i:=3) (ho rfl) rfl | have row3:t.n+0=t.n:=rfl
      first | have row4:=b0v (i:=4) (ho rfl) rfl | have row4:t.n+0=t.n:=rfl
      first | have row5:=b0v (i:=5) (ho rfl) rfl | have row5:t.n+0=t.n:=rfl
      first | have row6:=b0v (i:=6) (ho rfl) rfl | have row6:t.n+0=t.n:=rfl
      first | have row7:=b0v (i:=7) (ho rfl) rfl | have row7:t.n+0=t.n:=rfl
      first | have row8:=b0v (i:=8) (ho rfl) rfl | have row8:t.n+0=t.n:=rfl
      first | have row9:=b0v (i:=9) (ho rfl) rfl | have row9:t.n+0=t.n:=rfl
      first | have row10:=b0v (i:=10) (ho rfl) rfl | have row10:t.n+0=t.n:=rfl
      first | have row11:=b0v (i:=11) (ho rfl) rfl | have row11:t.n+0=t.n:=rfl
      first | have row12:=b0v (i:=12) (ho rfl) rfl | have row12:t.n+0=t.n:=rfl
      first | have row13:=b0v (i:=13) (ho rfl) rfl | have row13:t.n+0=t.n:=rfl
      first | have row14:=b0v (i:=14) (ho rfl) rfl | have row14:t.n+0=t.n:=rfl
      first | have row15:=b0v (i:=15) (ho rfl) rfl | have row15:t.n+0=t.n:=rfl
      first | have row16:=b0v (i:=16) (ho rfl) rfl | have row16:t.n+0=t.n:=rfl
      first | have row17:=b0v (i:=17) (ho rfl) rfl | have row17:t.n+0=t.n:=rfl
      first | have row18:=b0v (i:=18) (ho rfl) rfl | have row18:t.n+0=t.n:=rfl
      first | have row19:=b0v (i:=19) (ho rfl) rfl | have row19:t.n+0=t.n:=rfl
      have hdl:70 < t.n:=by rw [hn];show 70 < 78;decide
      clear hn;refine .inl ?_;simp only [zE,zL,zN,hdl,b0x,b0s,Nat.reduceEqDiff,reduceIte,implies_true,forall_const,reduceCtorEq,Zo,Zm,V.un,V.gd,b1c,aop,g66,g67,row0,row1,row2,row3,row4,row5,row6,row7,row8,row9,row10,row11,row12,row13,row14,row15,row16,row17,row18,row19,Zk,Zh,or_false,forall_eq_or_imp,forall_eq,b3i,b1k,Blk.row,Go.Vm.V.cells,Ze,Zf,Zg,Int.reduceToNat,TypeDesc.slice.injEq,Nat.reduceAdd,Nat.reduceLeDiff,Nat.reduceLT,Nat.reduceMul,underlying29,Ty.c29,Ty.a29,underlying96,Ty.c96,Ty.a96,hk3,b3u hk1,hsI1,b3u hgI,hlI,hsI2];repeat (refine ai (by first | omega | (intros;omega) | (intros;simp_all;done) | (intros;simp_all;omega)) ?_)
      exact k'
     simp only [b0j];refine zdU q28 true 10 71 ?_;apply b06 11;apply b0b (by kernel_rfl);apply k28 _;apply n27 _ _ (b0a [5,6,8] _);apply (zk);apply yRl [6,8] (b9a ws _ _ (fun w=>decide (w.1=m)) hwl (.pv _ .nil) (fun y0 y1 _=>d9p y0 y1 m) (fun x hx=>g3v hp hx));apply b0e;intro _ n30 _ _;apply (yV);apply n30
     ·apply b0m (b0a [6,7] _);simp only [b0r,b0k,b0i,b0f,b0n,Nat.reduceEqDiff,reduceIte];exact d2u 7 _ (ins.set k (t0,t1,true,[])).length rfl (qlu _)
     try simp only [b04,b09,Nat.reduceEqDiff,reduceIte,Zb,Zc]
     apply (zq3);have hfw:c7w ws m=ws.filter fun x=> !decide (x.1=m):=rfl
     simp only [hB,b14,hfn,hfi,hfw];exact c94 rfl (by first | decide | simp [b43,b5u,b9z,c1c]) (by simp) rfl (by simp [b43,b5u,b9z,c1c]) (by simp [Blk.kindIs,b4c,b7i]) rfl
    ·apply (d7w);refine b00 q28 true 4 66 ?_;apply b2l q28 true 9 70 rfl rfl (by kernel_rfl) (by kernel_rfl);apply Exists.intro;apply And.intro
     ·intro t hn gx ho K' k';have g66:=gx 66 (by decide);have g67:=gx 67 (by decide);simp only [c3m,b0f,b0n,b0j,Nat.reduceEqDiff,reduceIte] at g66 g67;first | have row0:=b0v (i:=0) (ho rfl) rfl | have row0:t.n+0=t.n:=rfl
      first | have row1:=b0v (i:=1) (ho rfl) rfl | have row1:t.n+0=t.n:=rfl
      first | have row2:=b0v (i:=2) (ho rfl) rfl | have row2:t.n+0=t.n:=rfl
      first | have row3:=b0v (i:=3) (ho rfl) rfl | have row3:t.n+0=t.n:=rfl
      first | have row4:=b0v (i:=4) (ho rfl) rfl | have row4:t.n+0=t.n:=rfl
      first | have row5:=b0v (i:=5) (ho rfl) rfl | have row5:t.n+0=t.n:=rfl
      first | have row6:=b0v (i:=6) (ho rfl) rfl | have row6:t.n+0=t.n:=rfl
      first | have row7:=b0v (i:=7) (ho rfl) rfl | have row7:t.n+0=t.n:=rfl
      first | have row8:=b0v (i:=8) (ho rfl) rfl | have row8:t.n+0=t.n:=rfl
      first | have row9:=b0v (i:=9) (ho rfl) rfl | have row9:t.n+0=t.n:=rfl
      first | have row10:=b0v (i:=10) (ho rfl) rfl | have row10:t.n+0=t.n:=rfl
      first | have row11:=b0v (i:=11) (ho rfl) rfl | have row11:t.n+0=t.n:=rfl
      first | have row12:=b0v (i:=12) (ho rfl) rfl | have row12:t.n+0=t.n:=rfl
      first | have row13:=b0v (i:=13) (ho rfl) rfl | have row13:t.n+0=t.n:=rfl
      first | have row14:=b0v (i:=14) (ho rfl) rfl | have row14:t.n+0=t.n:=rfl
      first | have row15:=b0v (i:=15) (ho rfl) rfl | have row15:t.n+0=t.n:=rfl
      first | have row16:=b0v (i:=16) (ho rfl) rfl | have row16:t.n+0=t.n:=rfl
      first | have row17:=b0v (i:=17) (ho rfl) rfl | have row17:t.n+0=t.n:=rfl
      first | have row18:=b0v (i:=18) (ho rfl) rfl | have row18:t.n+0=t.n:=rfl
      first | have row19:=b0v (i:=19) (ho rfl) rfl | have row19:t.n+0=t.n:=rfl
      have hdl:70 < t.n:=by rw [hn];show 70 < 78;decide
      clear hn;refine .inl ?_;simp only [zE,zL,zN,hdl,b0x,b0s,Nat.reduceEqDiff,reduceIte,implies_true,forall_const,reduceCtorEq,Zo,Zm,V.un,V.gd,b1c,aop,g66,g67,row0,row1,row2,row3,row4,row5,row6,row7,row8,row9,row10,row11,row12,row13,row14,row15,row16,row17,row18,row19,Zk,Zh,or_false,forall_eq_or_imp,forall_eq,b3i,b1k,Blk.row,Go.Vm.V.cells,Ze,Zf,Zg,Int.reduceToNat,TypeDesc.slice.injEq,Nat.reduceAdd,Nat.reduceLeDiff,Nat.reduceLT,Nat.reduceMul,underlying29,Ty.c29,Ty.a29,underlying96,Ty.c96,Ty.a96,hk3,b3u hk1,hsI1,b3u hgI,hlI,hsI2];repeat (refine ai (by first | omega | (intros;omega) | (intros;simp_all;done) | (intros;simp_all;omega)) ?_)
      exact k'
     simp only [b0j];refine zdU q28 true 10 71 ?_;apply b06 11;apply b0b (by kernel_rfl);apply k28 _;apply n27 _ _ (b0a [5,6,8] _);apply (zk);apply yRl [6,8] (b9a ws _ _ (fun w=>decide (w.1=m)) hwl (.pv _ .nil) (fun y0 y1 _=>d9p y0 y1 m) (fun x hx=>g3v hp hx));apply b0e;intro _ n33 _ _;apply (yV);apply n33
     ·apply b0m (b0a [6,7] _);simp only [b0r,b0k,b0i,b0f,b0n,Nat.reduceEqDiff,reduceIte];exact d2u 7 _ (ins.set k (t0,t1,true,[])).length rfl (qlu _)
     try simp only [b04,b09,Nat.reduceEqDiff,reduceIte,Zb,Zc]
     apply (zq3);have hfw:c7w ws m=ws.filter fun x=> !decide (x.1=m):=rfl
     simp only [hB,b14,hfn,hfi,hfw];exact c94 rfl (by first | decide | simp [b43,b5u,b9z,c1c]) (by simp) rfl (by simp [b43,b5u,b9z,c1c]) (by simp [Blk.kindIs,b4c,b7i]) rfl
end Go.Proofs.YtmbbjhopngejaaaGreat
