/- What functions compute. No condition. -/
import Derived.Test.YtcdpeopiajgljaaUz
import Derived.Test.YtcdpeopiajgljaaUty
import Derived.Test.YtcdpeopiajgljaaUmG
import Derived.Test.YtcdpeopiajgljaaX2
import Derived.Test.YtcdpeopiajgljaaX6
import Derived.Test.YtcdpeopiajgljaaX5
import Derived.Test.YtcdpeopiajgljaaShelf
set_option linter.unusedSimpArgs false
set_option linter.unusedVariables false
set_option linter.defProp false
namespace Go.Proofs.Ytcdpeopiajgljaa
open Go Go.Vm
set_option maxHeartbeats 8000000
theorem put_in {l:List Int} {n:Int} (hl:l.Pairwise (· < ·)) (hn:n∈l):l[putPos l n 0]? =some n:=by
  obtain ⟨h0,h1,h2⟩:=put_facts (n:=n) hl
  have hd:n∈l.drop (putPos l n 0):=by
    have e:n∈l.take (putPos l n 0)++l.drop (putPos l n 0):=by rw [List.take_append_drop];exact hn
    exact (List.mem_append.1 e).resolve_left fun q=>by have:=h1 n q;omega
  have hlt:putPos l n 0 < l.length:=by
    have:=List.length_pos_of_mem hd
    rw [List.length_drop] at this;omega
  have hg:l[putPos l n 0]? =some l[putPos l n 0]:=List.getElem?_eq_getElem hlt
  have hdc:l.drop (putPos l n 0)=l[putPos l n 0]::l.drop (putPos l n 0+1):=List.drop_eq_getElem_cons hlt
  have hge:n≤l[putPos l n 0]:=h2 _ (by rw [hdc];exact List.mem_cons_self ..)
  rw [hdc] at hd
  rcases List.mem_cons.1 hd with e | e
  · rw [hg,←e]
  · have hp:(l.drop (putPos l n 0)).Pairwise (· < ·):=hl.sublist (List.drop_sublist ..)
    rw [hdc,List.pairwise_cons] at hp
    have:=hp.1 n e
    omega
set_option maxRecDepth 8000 in
theorem l1PutIn_con (l:List Int) (n:Int) (hl:l.length≤1048576) (hp:l.Pairwise (· < ·)) (hn:n∈l):Con Try.prog 70 [.sl (l.map (V.int .i64)),.int .i64 n] [] (.sl (l.map (V.int .i64))) []:=by
 refine v_con [.tmp 4] [] Try.func70 rfl rfl rfl (by simp [Try.ntmps70]) ?_
 intro Q0 n0 r0
 simp only [Try.ntmps70,envFrom,Nat.reduceAdd]
 have T:=Tys.mk (ai Ty.t3 Ty.t26)
 have F:=Fc.mk True.intro
 refine yR [0,1] ⟨?_⟩;refine yR [0,1,5] ⟨?_⟩;refine v_seq ?_;intros;refine v_block ?_;intros;refine v_loop (fun k=>⟨[(0,.sl (l.map (V.int .i64))),(1,.int .i64 n),(5,.int .i64 (Nat.cast k))],[],false,48,0⟩) (fun k=>k≤l.length∧putPos l n k=putPos l n 0) (fun k=>l.length - k) 0 ?_ ?_ ?_
 ·refine weak_bothS [0,1,5] [] ⟨?_⟩
  rfl
 ·exact ⟨Nat.zero_le _,rfl⟩
 ·rintro k hok5 Q5 n5 e5 r5
  obtain ⟨hk1,hR⟩:=hok5
  rcases Nat.lt_or_ge k l.length with hkl | hkl
  ·skip
   obtain ⟨y,hy⟩:∃y,l[k]? =some y:=⟨_,List.getElem?_eq_getElem hkl⟩
   have hk0:(k:Int) < (l.length:Int):=by omega
   have hns:((l.take k).map (V.int .i64)).all V.noSl=true:=by rw [List.all_map,List.all_eq_true];intro a _;rfl
   have hns2:((l.drop k).map (V.int .i64)).all V.noSl=true:=by rw [List.all_map,List.all_eq_true];intro a _;rfl
   have htk:(l.take k).length=k:=by rw [List.length_take];omega
   have hdk:(l.drop k).length=l.length - k:=List.length_drop
   have hsn:(l.take k).map (V.int .i64)++[V.int .i64 n]=(l.take k++[n]).map (V.int .i64):=by rw [List.map_append];rfl
   have hk1:(l.take k++[n]).length=k+1:=by rw [List.length_append,htk];rfl
   refine v_seq ?_;intros
   have F:=Fc.mk (ai hk0 (ai @decide_true (ai @Bool.and_true (ai (gdm hy) (ai hns (ai hns2 (ai htk (ai hdk (ai hsn hk1)))))))))
   refine yR [0,1,5,18] ⟨?_⟩;refine v_condS _ rfl ?_ ?_
   ·intro hc0
    have hyn:y < n:=by simpa using hc0
    refine zn [0,1,5] ⟨?_⟩;refine v_block ?_;intros;refine yV ⟨?_⟩;refine n5 _ (k+1) ?_ ?_ ?_
    ·refine weak_bothS [0,1,5] [] ⟨?_⟩
     rfl
    ·exact ⟨by omega,by rw [←hR,←putPos_step hy hyn]⟩
    ·show _ < _;omega
   ·intro hc0
    have hpk:putPos l n k=k:=by
     first
     |exact putPos_end hkl
     |exact putPos_stop hy (by simpa using hc0)
    have hput:l[k]? =some n:=by
     have e:=put_in hp hn
     rw [←hR,hpk] at e
     exact e
    refine zn [0,1,5] ⟨?_⟩;refine v_seq ?_;intros;refine yR [0,1,5,32] ⟨?_⟩;refine v_cond _ rfl ?_ ?_
    ·intro hc1
     try simp only [zC,reduceCtorEq] at hc1
     refine yR [4] ⟨?_⟩;refine zr ⟨?_⟩
     exact ret_pure rfl rfl (.inl rfl)
    ·intro hc1
     exfalso;first
     |(rw [List.getElem?_eq_none hkl] at hput;cases hput;done)
     |(rw [hy] at hput;simp at hc1 hput;exact hc1 hput)
  ·skip
   have hk0:¬((k:Int) < (l.length:Int)):=by omega
   have hns:((l.take k).map (V.int .i64)).all V.noSl=true:=by rw [List.all_map,List.all_eq_true];intro a _;rfl
   have hns2:((l.drop k).map (V.int .i64)).all V.noSl=true:=by rw [List.all_map,List.all_eq_true];intro a _;rfl
   have htk:(l.take k).length=k:=by rw [List.length_take];omega
   have hdk:(l.drop k).length=l.length - k:=List.length_drop
   have hsn:(l.take k).map (V.int .i64)++[V.int .i64 n]=(l.take k++[n]).map (V.int .i64):=by rw [List.map_append];rfl
   have hk1:(l.take k++[n]).length=k+1:=by rw [List.length_append,htk];rfl
   refine v_seq ?_;intros
   have F:=Fc.mk (ai hk0 (ai @decide_false (ai @Bool.and_false (ai hns (ai hns2 (ai htk (ai hdk (ai hsn hk1))))))))
   refine yR [0,1,5,18] ⟨?_⟩;refine v_cond _ rfl ?_ ?_
   ·intro hc0
    exfalso;simp at hc0
   ·intro hc0
    try simp only [zC,reduceCtorEq] at hc0
    have hpk:putPos l n k=k:=by
     first
     |exact putPos_end hkl
     |exact putPos_stop hy (by simpa using hc0)
    have hput:l[k]? =some n:=by
     have e:=put_in hp hn
     rw [←hR,hpk] at e
     exact e
    refine zn [0,1,5] ⟨?_⟩;refine v_seq ?_;intros;refine yR [0,1,5,32] ⟨?_⟩;refine v_cond _ rfl ?_ ?_
    ·intro hc1
     exfalso;simp at hc1
    ·intro hc1
     exfalso;first
     |(rw [List.getElem?_eq_none hkl] at hput;cases hput;done)
     |(rw [hy] at hput;simp at hc1 hput;exact hc1 hput)
set_option maxRecDepth 100000 in
theorem specCallers_con (l:List (Int×Int×Int×Int×Int)) (hl:l.length≤1048576) (g:List Int) (hg:g.length≤1048576):Con Try.prog 28 [.sl (l.map (fun t:Int×Int×Int×Int×Int=>V.agg [V.int .i64 t.1,V.int .i64 t.2.1,V.int .i64 t.2.2.1,V.int .i64 t.2.2.2.1,V.int .i64 t.2.2.2.2])),.sl (g.map (V.int .i64))] [] (.tup [.int .i64 (cgN l g),.bool (mgB l g)]) []:=by
 refine v_con [.tmp 4,.tmp 5] [] Try.func28 rfl rfl rfl (by simp [Try.ntmps28]) ?_
 intro Q0 n0 r0
 simp only [Try.ntmps28,envFrom,Nat.reduceAdd]
 have T:=Tys.mk (ai Ty.t3 (ai Ty.t4 (ai Ty.t26 (ai Ty.t50 Ty.t65))))
 have F:=Fc.mk True.intro
 refine yR [0,1] ⟨?_⟩;refine v_seq ?_;intros;refine yRc [0,1,12] (clGroup_con l hl g hg) ⟨?_⟩;refine v_condS _ rfl ?_ ?_
 ·intro hc0
  have hB:mgB l g=false:=by
   cases hq:mgB l g with
   |false=>rfl
   |true=>
    exfalso
    rw [mgB,Bool.and_eq_true] at hq
    simp [hq.1,hq.2] at hc0
  refine yR [4,5] ⟨?_⟩;refine zr ⟨?_⟩
  exact ret_pure rfl (by rw [cgN,hB];rfl) (.inl rfl)
 ·intro hc0
  have hq:csB l=true∧isG l.length g=true:=by
   (try simp at hc0)
   first | exact hc0 | exact ⟨hc0.2,hc0.1⟩ | (refine ⟨?_,?_⟩<;>simp_all)
  have hB:mgB l g=true:=by rw [mgB,hq.1,hq.2];rfl
  have hgi:=isG_facts hq.2
  have hgl:=incr_len hgi.2.2 hgi.1
  have hl20:=cs_len hq.1
  have hz0:=hgi.2.1
  have hcxl:=colX_len l g
  have hcyl:=colY_len l g
  have hcpl:=colP_len l g
  refine zn [0,1] ⟨?_⟩;refine yR [0,1,6] ⟨?_⟩;refine v_seq ?_;intros;refine yR [0,6,13,14,15] ⟨?_⟩;refine v_block ?_;intros;refine v_loop (fun i=>⟨[(0,.sl (l.map (fun t:Int×Int×Int×Int×Int=>V.agg [V.int .i64 t.1,V.int .i64 t.2.1,V.int .i64 t.2.2.1,V.int .i64 t.2.2.2.1,V.int .i64 t.2.2.2.2]))),(6,.sl ((putTo (colP l g) i).map (V.int .i64))),(13,.sl (g.map (V.int .i64))),(14,.int .i64 g.length),(15,.int .i64 (Nat.cast i))],[],false,29,0⟩) (fun i=>i≤g.length) (fun i=>g.length - i) 0 ?_ ?_ ?_
  ·refine weak_trans (weak_keep [0,6,13,14,15] _) ?_
   simp only [keep_mk,keepE_nil,keepE_cons,look_cons,look_nil,Nat.reduceEqDiff,reduceIte]
   refine weak_trans (weak_giveup 6 0 [] .flat rfl rfl (.inl rfl)) ?_;refine weak_bothS [0,6,13,14,15] [] ⟨?_⟩
   rfl
  ·exact Nat.zero_le _
  ·rintro i hok10 Q10 n10 e10 r10
   have hi1:i≤g.length:=hok10
   refine yR [0,6,13,14,15,16] ⟨?_⟩;refine v_seq ?_;intros;refine v_condS _ rfl ?_ ?_
   ·intro hc1
    have hlt:i < g.length:=by omega
    obtain ⟨xg,hxg⟩:∃x,g[i]? =some x:=⟨g[i],List.getElem?_eq_getElem hlt⟩
    obtain ⟨xn,rfl,hxn⟩:=hgi.1 _ (List.mem_of_getElem? hxg)
    obtain ⟨⟨x0,x1,x2,x3,x4⟩,hx⟩:∃x:Int×Int×Int×Int×Int,l[xn]? =some x:=⟨l[xn]'(by omega),List.getElem?_eq_getElem (by omega)⟩
    have hpz:=colP_at hxg hx
    have hpi:=putTo_inv (colP l g) i
    have hps:=putTo_step hpz
    rcases Decidable.em (x4∈(putTo (colP l g) i)) with hin | hnm
    ·skip
     have hst:putTo (colP l g) (i+1)=putTo (colP l g) i:=by rw [hps,addP,if_pos hin]
     clear hps
     refine zn [0,6,13,14,15] ⟨?_⟩;refine v_seq ?_;intros;refine v_block ?_;intros
     have F:=Fc.mk (ai (gdm hxg) (ai @Int.toNat_natCast (gdm hx)))
     refine yR [0,6,8,13,14,15] ⟨?_⟩;refine yQc [0,6,13,14,15] (l1PutIn_con (putTo (colP l g) i) x4 (by omega) hpi.1 hin) ⟨?_⟩;refine yV ⟨?_⟩;refine n10 _ (i+1) ?_ ?_ ?_
     ·refine weak_bothS [0,6,13,14,15] [] ⟨?_⟩
      rw [hst];rfl
     ·exact hlt
     ·show _ < _;omega
    ·skip
     have hst:putTo (colP l g) (i+1)=putL (putTo (colP l g) i) x4:=by rw [hps,addP,if_neg hnm]
     clear hps
     refine zn [0,6,13,14,15] ⟨?_⟩;refine v_seq ?_;intro Q19 n19 e19 r19;refine v_block ?_;intros
     have F:=Fc.mk (ai (gdm hxg) (ai @Int.toNat_natCast (gdm hx)))
     refine yR [0,6,8,13,14,15] ⟨?_⟩;refine yVc (l1Put_con (putTo (colP l g) i) x4 (by omega) hnm) ⟨?_⟩
     apply n19
     ·apply weak_trans (weak_keep [0,6,13,14,15] _)
      simp only [keep_mk,keepE_nil,keepE_cons,look_cons,look_nil,Nat.reduceEqDiff,reduceIte]
      exact weak_giveup 6 0 ((putL (putTo (colP l g) i) x4).map (V.int .i64)) .flat rfl rfl (.inl rfl)
     try simp only [atSlot_cons,atSlot_nil,Nat.reduceEqDiff,reduceIte,List.set_cons_zero,List.set_cons_succ]
     refine yV ⟨?_⟩;refine n10 _ (i+1) ?_ ?_ ?_
     ·refine weak_bothS [0,6,13,14,15] [] ⟨?_⟩
      rw [hst];rfl
     ·exact hlt
     ·show _ < _;omega
   ·intro hc1
    have hie:i=g.length:=by omega
    refine zn [6] ⟨?_⟩;refine yR [4,5] ⟨?_⟩;refine zr ⟨?_⟩
    exact ret_pure rfl (by rw [cgN,if_pos hB,hB,hie]) (.inr rfl)
section
open Go.RowKit Go.Maps Go.WideMaps
def keyP (z:Int):Lit:=.int .i64 z
def Sp {H:Type} (zs:List Int) (i:Nat):DataW H:=setOf (.lit (.bool true)) ((zs.take i).map keyP)
theorem Sp_zero {H:Type} (zs:List Int):Sp (H:=H) zs 0=.map []:=by simp [Sp,setOf]
theorem Sp_step {H:Type} {zs:List Int} {i:Nat} {z:Int} (h:zs[i]? =some z):Sp (H:=H) zs (i+1)=(Sp zs i).put (keyP z) (.lit (.bool true)):=by
  rw [Sp,List.take_add_one,h,List.map_append,Sp]
  exact setOf_snoc _ _ _
theorem keyP_ok {L:List Int}:∀x∈L.map keyP,WideAt.IsKeyLit x:=fun x hx=>by
  obtain ⟨_,_,rfl⟩:=List.mem_map.1 hx;trivial
theorem keyP_ne {a b:Int} (h:a≠b):keyP a≠keyP b:=fun e=>h (by simpa [keyP] using e)
theorem Sp_inv (zs:List Int):∀i,Maps.size (Sp (H:=Unit) zs i)=(putTo zs i).length∧∀x,Maps.has (Sp (H:=Unit) zs i) (keyP x)=decide (x∈putTo zs i)
  | 0=>by rw [Sp_zero,putTo_zero];exact ⟨rfl,fun x=>by simp [Maps.has]⟩
  | i + 1 =>by
    obtain ⟨h1,h2⟩:=Sp_inv zs i
    cases q:zs[i]? with
    | none=>
      have e:Sp (H:=Unit) zs (i+1)=Sp zs i:=by rw [Sp,List.take_add_one,q];simp [Sp]
      rw [e,putTo_past q];exact ⟨h1,h2⟩
    | some z=>
      obtain ⟨_,f2,f3⟩:=addP_facts (n:=z) (putTo_inv zs i).1
      rw [putTo_step q,Sp_step q]
      have ht:Maps.Tidy (Sp (H:=Unit) zs i):=tidy_setOf _ _ keyP_ok
      refine ⟨?_,fun x=> ?_⟩
      · rw [size_put ht,h2,h1,f3]
        by_cases e:z∈putTo zs i<;>simp [e]
      · by_cases e:x=z
        · subst e
          rw [has_put_same ht.isMap (show WideAt.IsKeyLit (keyP _) from trivial)]
          exact (decide_eq_true ((f2 _).2 (.inl rfl))).symm
        · rw [has_put_other (keyP_ne e),h2]
          exact decide_eq_decide.2 ((f2 x).trans ⟨fun h=>h.resolve_left e,.inr⟩).symm
theorem tabsIn_old {w w1:World} {l:List (Nat×(Array Value→Prop))} (h:TabsIn w l) (hb:Below w.heap.size w w1):TabsIn w1 l:=fun p hp=>by
  obtain ⟨c,t,fr,e,q⟩:=h p hp
  have hlt:p.1 < w.heap.size:=by
    rcases Nat.lt_or_ge p.1 w.heap.size with z | z
    · exact z
    · rw [Array.getElem?_eq_none z] at e;cases e
  exact ⟨c,t,fr,(hb.block p.1 hlt).trans e,q⟩
theorem con_boolB {P:Program} {f:FuncId} {args:List V} {b:Bool} (h:Con P f args [] (.bool b) []) {w:World} {vals:Array Value} (hs:vals.size=args.length) (ha:∀i V,args[i]? =some V→∃bl,Rep w M0 V (vals.getD i undef) bl) (ht:TabsIn w (tabsOf P)):Calls P f vals w fun e w'=>e=.returned (.bool b)∧Below w.heap.size w w':=by
  refine (h.2 w vals M0 (fun _=>none) (fun _=>True) ⟨hs,fun i V e=> ?_,fun id bk e=>by simp at e,fun id _=>rfl,fun b hb=>absurd rfl hb,fun p hp=>⟨rfl,ht p hp⟩⟩).mono ?_
  · obtain ⟨bl,r⟩:=ha i V e
    exact ⟨bl,r,fun _ _=>⟨rfl,trivial⟩⟩
  · rintro e w' ⟨v,μ',ow',rfl,o⟩
    obtain ⟨bl,r,_⟩:=o.rep
    cases r
    exact ⟨rfl,o.frm.os,o.frm.tape,o.frm.output,o.frm.size,fun k hk=>o.frm.old k hk (fun h=>h rfl)⟩
theorem con_below {P:Program} {f:FuncId} {args:List V} {r:V} {rv:Value} (hf:∃fn,P.funcs[f]? =some fn∧(fn.name == "runtime.NumGoroutine")=false∧fn.body.isNone=false) (hr:∀w μ,Rep w μ r rv [])
    (h:∀w (vals:Array Value),vals.size=args.length→(∀i V,args[i]? =some V→∃bl,Rep w M0 V (vals.getD i undef) bl)→TabsIn w (tabsOf P)→Calls P f vals w fun e w'=>e=.returned rv∧Below w.heap.size w w'):Con P f args [] r []:=by
  refine ⟨hf,fun w vals μ ow vis hi=> ?_⟩
  have hm:μ=M0:=funext fun id=>hi.dom id (Nat.zero_le _)
  subst hm
  refine (h w vals hi.sz (fun i V e=>let ⟨bl,r,_⟩:=hi.arg i V e;⟨bl,r⟩) (fun p hp=>(hi.tab p hp).2)).mono ?_
  rintro e w' ⟨rfl,hb⟩
  have hold:∀b,b < w.heap.size→w'.heap[b]? =w.heap[b]? :=fun b hlt=>hb.block b hlt
  exact ⟨rv,M0,ow,rfl,⟨⟨[],hr _ _,by simp⟩,by simp,by simp,MLe.refl _,Nat.le_refl _,hi.dom,fun b hb'=>(hi.owl b hb').keep (hold b (hi.owl b hb').lt),fun b hb=>.inl hb,
    ⟨hb.size,fun b hlt _=>hold b hlt,hb.os,hb.tape,hb.output,fun x hx=>by simp only [World.frozen?,hold x.block hx],fun _ hp=>nomatch hp⟩⟩⟩
theorem rep_calls:∀{l:List (Int×Int×Int×Int×Int)} {w:World} {vs:List Value} {bl:List Nat},RepL w M0 ((l.map (fun t:Int×Int×Int×Int×Int=>V.agg [V.int .i64 t.1,V.int .i64 t.2.1,V.int .i64 t.2.2.1,V.int .i64 t.2.2.2.1,V.int .i64 t.2.2.2.2])).flatMap V.cells) vs bl→∀(k:Nat) (x:(Int×Int×Int×Int×Int)),l[k]? =some x→vs[k * 5+4]? =some (.int .i64 x.2.2.2.2)
  | [],_,_,_,_,k,x,hk=>by cases hk
  | y ::l,w,vs,bl,h,k,x,hk=>by
    rw [List.map_cons,List.flatMap_cons] at h
    have h2:RepL w M0 (V.int .i64 y.1::V.int .i64 y.2.1::V.int .i64 y.2.2.1::V.int .i64 y.2.2.2.1::V.int .i64 y.2.2.2.2::(l.map (fun t:Int×Int×Int×Int×Int=>V.agg [V.int .i64 t.1,V.int .i64 t.2.1,V.int .i64 t.2.2.1,V.int .i64 t.2.2.2.1,V.int .i64 t.2.2.2.2])).flatMap V.cells) vs bl:=h
    cases h2 with | cons _ _ _ _ _ _ r1 h3=>
    cases h3 with | cons _ _ _ _ _ _ r2 h4=>
    cases h4 with | cons _ _ _ _ _ _ r3 h5=>
    cases h5 with | cons _ _ _ _ _ _ r4 h6=>
    cases h6 with | cons _ _ _ _ _ _ r5 h7=>
    cases r5
    cases k with
    | zero=>
      have e:y=x:=by simpa using hk
      subst e;rfl
    | succ k=>
      rw [show (k+1) * 5+4=k * 5+4+1+1+1+1+1 by omega]
      simp only [List.getElem?_cons_succ]
      exact rep_calls h7 k x (by simpa using hk)
theorem rep_sl_parts {w:World} {xs:List V} {v:Value} {bl:List Nat} (h:Rep w M0 (.sl xs) v bl) (h0:xs≠[]):∃b off c vs bl',v=.slice (some ⟨b,off,none⟩) xs.length c∧b < w.heap.size∧RepL w M0 (xs.flatMap V.cells) vs bl'∧Row w b off vs:=by
  have hlt:=h.lt
  cases h with
  | sl0 a c=>exact absurd rfl h0
  | sl _ b off c sz vs bl' _ hcr hs hz hl h1 hr=>exact ⟨b,off,c,vs,bl',rfl,hlt b (List.mem_cons_self ..),hl,hr⟩
set_option maxRecDepth 100000 in
theorem callers_walk (l:List (Int×Int×Int×Int×Int)) (g:List Int) (w:World) (v1 v2:Value) (bb off c b3 off2 c2:Nat) (hl20:l.length≤20) (hgl:g.length≤l.length) (hB:csB l=true)
    (e1:v1=.slice (some ⟨bb,off,none⟩) l.length c) (e2:v2=.slice (some ⟨b3,off2,none⟩) g.length c2) (hb1:bb < w.heap.size) (hb2:b3 < w.heap.size)
    (HH:Ho ((∀x∈g,∃k:Nat,x=(k:Int)∧k < l.length)∧(∀(k:Nat) (x:(Int×Int×Int×Int×Int)),l[k]? =some x→w.cell? ⟨bb,off+(k * 5+4),none⟩=some (.int .i64 x.2.2.2.2))∧(∀(j:Nat) (z:Int),g[j]? =some z→w.cell? ⟨b3,off2+j,none⟩=some (.int .i64 z))∧
      ∀w1,Below w.heap.size w w1→Calls Try.prog 68 #[v1,v2] w1 fun e w'=>e=.returned (.bool true)∧Below w1.heap.size w1 w'))
    (cA:Calls Try.prog 61 #[v1] w fun e w'=>e=.returned (.bool true)∧Below w.heap.size w w') :
    Calls Try.prog 27 #[v1,v2] w fun e w'=>e=.returned (.tuple #[.int .i64 (Maps.size (Sp (H:=Unit) (colP l g) g.length):Int),.bool true])∧Below w.heap.size w w':=by
  have hmm:=@run_makeMap Try.prog
  subst e1 e2
  go_enter Try.func27,Try.ntmps27
  go_wp2_with (go_at_call 61;refine (cA).mono ?_;rintro e w1 ⟨rfl,hw1⟩)
  have cG1:=HH.h.2.2.2 w1 hw1
  go_wp2_with (go_at_call 68;refine (cG1).mono ?_;rintro e w2 ⟨rfl,hw2⟩)
  have hw:Below w.heap.size w w2:=hw1.trans (hw2.mono hw1.size)
  have hsz:=hw.size
  go_loopw [21] (fun i wr=>∃k:Nat,k≤g.length∧i=.int .i64 k∧wr.ownsMap Try.prog 3 (plainElem Try.prog 4) w2.heap.size k (Sp (H:=Unit) (colP l g) k)∧Below w.heap.size w wr)
    (fun i _=>g.length - (intOf i).toNat)
  case atStart=>exact ⟨0,Nat.zero_le _,rfl,by rw [Sp_zero];exact World.ownsMap_made _ _ _ _,hw.alloc hsz _⟩
  case round=>
    obtain ⟨k,hk,rfl,hown,hnx⟩:=hrel
    rcases Nat.lt_or_ge k g.length with hlt | hge
    · have hzk:g[k]? =some g[k]:=List.getElem?_eq_getElem hlt
      obtain ⟨xn,ex,hxn⟩:=HH.h.1 _ (List.getElem_mem hlt)
      rw [ex] at hzk
      obtain ⟨x,hx⟩:∃x,l[xn]? =some x:=⟨_,List.getElem?_eq_getElem hxn⟩
      have q2:wr.cell? ⟨b3,off2+k,none⟩=some (.int .i64 (xn:Int)):=(hnx.cell (by exact hb2)).trans (HH.h.2.2.1 k _ hzk)
      have q1:wr.cell? ⟨bb,off+xn * 5+4,none⟩=some (.int .i64 x.2.2.2.2):=(show off+xn * 5+4=off+(xn * 5+4) by omega) ▸ (hnx.cell (by exact hb1)).trans (HH.h.2.1 xn x hx)
      have hxb:=c_bounds (cs_each hB x (List.mem_of_getElem? hx))
      have hkey:keyOf Try.prog 3 (.int .i64 x.2.2.2.2)=some (keyP x.2.2.2.2):=keyOf_int_mk Try.underlying3 (WalkArith.wf_i64 (by omega))
      have hst:=Sp_step (H:=Unit) (colP_at hzk hx)
      go_wp2_with (first
        | (at_mapUpdate;refine wpList_mapUpdate_own _ rfl _ _ _ 104 rfl 3 4 (int_keyed Try.underlying3) Try.underlying104 (plainElem (H:=Unit) Try.prog 4) w2.heap.size k _ rfl hown (by unfold maxLen;omega) _ _ _ rfl rfl hkey _ [] (plainElem_bool Try.underlying4 true) ?_;intro w3 hown3 hgrow3)
        | go_in)
      go_roundw
      case rel=>exact ⟨k+1,by omega,by go_num,hst.symm ▸ hown3,hnx.grown hgrow3 hnx.size (fun j hj=>by cases hj;exact hsz)⟩
      case measure=>simp [intOf];omega
    · have hke:k=g.length:=by omega
      subst hke
      go_wp2_with (first
        | (at_len;refine wpList_len_own _ rfl _ 104 rfl 3 4 Try.underlying104 _ w2.heap.size g.length _ rfl hown ?_)
        | go_in)
      go_ret2
      exact ⟨rfl,hnx⟩
set_option maxRecDepth 100000 in
theorem callers_calls (l:List (Int×Int×Int×Int×Int)) (hl:l.length≤1048576) (g:List Int) (hg:g.length≤1048576) (w:World) (vals:Array Value) (hs:vals.size=2) (ha:∀i v0,[V.sl (l.map (fun t:Int×Int×Int×Int×Int=>V.agg [V.int .i64 t.1,V.int .i64 t.2.1,V.int .i64 t.2.2.1,V.int .i64 t.2.2.2.1,V.int .i64 t.2.2.2.2])),V.sl (g.map (V.int .i64))][i]? =some v0→∃bl,Rep w M0 v0 (vals.getD i undef) bl) (ht:TabsIn w (tabsOf Try.prog)):Calls Try.prog 27 vals w fun e w'=>e=.returned (.tuple #[.int .i64 (cgN l g),.bool (mgB l g)])∧Below w.heap.size w w':=by
  obtain ⟨b1,r1⟩:=ha 0 _ rfl
  obtain ⟨b2,r2⟩:=ha 1 _ rfl
  have hv:vals=#[vals.getD 0 undef,vals.getD 1 undef]:=by
    apply Array.ext
    · simpa using hs
    · intro i hi1 hi2
      simp at hi2
      rcases (show i=0∨i=1 by omega) with rfl | rfl<;>simp [Array.getD,hs]
  generalize vals.getD 0 undef=v1 at r1 hv
  generalize vals.getD 1 undef=v2 at r2 hv
  subst hv
  clear ha hs
  have cA:=con_boolB (areCalls_con l hl) (w:=w) (vals:=#[v1]) rfl (fun i V e=>by
    cases i with
    | zero=>cases e;exact ⟨b1,r1⟩
    | succ i=>simp at e) ht
  have cG:Ho (∀w1,Below w.heap.size w w1→Calls Try.prog 68 #[v1,v2] w1 fun e w'=>e=.returned (.bool (isG l.length g))∧Below w1.heap.size w1 w'):=⟨fun w1 hw1=>con_boolB (isGroup_con l hl g hg) rfl (fun i V e=>by
    cases i with
    | zero=>cases e;exact ⟨b1,r1.keep (MLe.refl _) fun b hb=>hw1.block b (r1.lt b hb)⟩
    | succ i=>cases i with
      | zero=>cases e;exact ⟨b2,r2.keep (MLe.refl _) fun b hb=>hw1.block b (r2.lt b hb)⟩
      | succ i=>simp at e) (tabsIn_old ht hw1)⟩
  cases hB:csB l with
  | false=>
    rw [hB] at cA
    have hm:mgB l g=false:=by rw [mgB,hB];rfl
    have hc:cgN l g=0:=by rw [cgN,hm];rfl
    rw [hm,hc]
    go_enter Try.func27,Try.ntmps27
    go_wp2_with (go_at_call 61;refine (cA).mono ?_;rintro e w1 ⟨rfl,hw1⟩)
    go_ret2
    exact ⟨rfl,hw1⟩
  | true=>
    rw [hB] at cA
    cases hG:isG l.length g with
    | false=>
      rw [hG] at cG
      have hm:mgB l g=false:=by rw [mgB,hB,hG];rfl
      have hc:cgN l g=0:=by rw [cgN,hm];rfl
      rw [hm,hc]
      go_enter Try.func27,Try.ntmps27
      go_wp2_with (go_at_call 61;refine (cA).mono ?_;rintro e w1 ⟨rfl,hw1⟩)
      have cG1:=cG.h w1 hw1
      go_wp2_with (go_at_call 68;refine (cG1).mono ?_;rintro e w2 ⟨rfl,hw2⟩)
      go_ret2
      exact ⟨rfl,hw1.trans (hw2.mono hw1.size)⟩
    | true=>
      rw [hG] at cG
      have hm:mgB l g=true:=by rw [mgB,hB,hG];rfl
      have hgi:=isG_facts hG
      have hgl:=incr_len hgi.2.2 hgi.1
      have hl20:=cs_len hB
      have hc:cgN l g=(Maps.size (Sp (H:=Unit) (colP l g) g.length):Int):=by rw [cgN,if_pos hm,(Sp_inv _ _).1]
      rw [hm,hc]
      have hgp:=hgi.2.1
      have hlp:0 < l.length:=by omega
      obtain ⟨bb,off,c,vs,bl,e1,hb1,hl1,hr1⟩:=rep_sl_parts r1 (by intro e;have:=congrArg List.length e;rw [List.length_map,List.length_nil] at this;omega)
      obtain ⟨b3,off2,c2,vs2,bl2,e2,hb2,hl2,hr2⟩:=rep_sl_parts r2 (by intro e;have:=congrArg List.length e;rw [List.length_map,List.length_nil] at this;omega)
      rw [List.length_map] at e1 e2
      have hvs2:=rep_ints g hl2
      refine callers_walk l g w v1 v2 bb off c b3 off2 c2 hl20 hgl hB e1 e2 hb1 hb2 ⟨hgi.1,fun k x hx=>hr1 _ _ (rep_calls hl1 k x hx),fun j z hz=>hr2 _ _ (by rw [hvs2,List.getElem?_map,hz];rfl),cG.h⟩ cA
theorem callers_con (l:List (Int×Int×Int×Int×Int)) (hl:l.length≤1048576) (g:List Int) (hg:g.length≤1048576):Con Try.prog 27 [.sl (l.map (fun t:Int×Int×Int×Int×Int=>V.agg [V.int .i64 t.1,V.int .i64 t.2.1,V.int .i64 t.2.2.1,V.int .i64 t.2.2.2.1,V.int .i64 t.2.2.2.2])),.sl (g.map (V.int .i64))] [] (.tup [.int .i64 (cgN l g),.bool (mgB l g)]) []:=
  con_below ⟨_,Try.func27,rfl,rfl⟩ (fun w μ=>.tup _ _ [] (.cons _ _ [] _ _ [] (.int _ _) (.cons _ _ [] _ _ [] (.bool _) .nil))) (fun w vals hs ha ht=>callers_calls l hl g hg w vals hs ha ht)
end
theorem rise_of {lo hi:Int}:∀(l:List Int) (p:Option Int),l.Pairwise (· < ·)→(∀x∈l,lo≤x∧x≤hi)→(∀q,p=some q→∀x∈l,q < x)→risingFrom lo hi p l=true
  | [],p,_,_,_=>by cases p<;>rfl
  | x::l,p,hp,hb,hq=>by
    rw [List.pairwise_cons] at hp
    have ih:=rise_of l (some x) hp.2 (fun y hy=>hb y (List.mem_cons_of_mem _ hy)) (fun q e y hy=>by cases e;exact hp.1 y hy)
    have hx:=hb x (List.mem_cons_self ..)
    have hin:inR x lo hi=true:=by simp [inR,hx]
    cases p with
    | none=>simp [risingFrom,ih,hin]
    | some q=>simp [risingFrom,ih,hin,hq q rfl x (List.mem_cons_self ..)]
def plI (m:List Int) (n x:Nat):Nat:=(outTo m n (m.getD x 0).toNat).length
theorem out_place {m:List Int} {n:Nat}:∀{i t:Nat} {g:List Int},(outTo m n i)[t]? =some g→∀x:Nat,(x:Int)∈g→plI m n x=t
  | 0,t,g,h,_,_=>by simp [outTo] at h
  | i + 1,t,g,h,x,hx=>by
    by_cases hp:0 < (grpTo m i n).length
    · rw [out_step hp] at h
      by_cases q:t < (outTo m n i).length
      · rw [List.getElem?_append_left q] at h;exact out_place h x hx
      · rw [List.getElem?_append_right (by omega)] at h
        have h2:t - (outTo m n i).length=0:=by
          rcases Nat.eq_zero_or_pos (t - (outTo m n i).length) with e | e
          · exact e
          · rw [List.getElem?_eq_none (by rw [List.length_singleton];omega)] at h;cases h
        rw [h2] at h
        have e:grpTo m i n=g:=by simpa using h
        subst e
        obtain ⟨j,e1,_,e3⟩:=grpTo_mem.1 hx
        have:x=j:=by omega
        subst this
        rw [plI,e3,Int.toNat_natCast];omega
    · rw [out_same hp] at h;exact out_place h x hx
theorem out_has {m:List Int} {n c:Nat} (hc:0 < (grpTo m c n).length):∀{i:Nat},c < i→grpTo m c n∈outTo m n i
  | i + 1,h=>by
    by_cases e:c=i
    · subst e;rw [out_step hc];simp
    · have:=out_has hc (show c < i by omega)
      by_cases hp:0 < (grpTo m i n).length
      · rw [out_step hp];exact List.mem_append_left _ this
      · rw [out_same hp];exact this
theorem cnt_split {α:Type} {p q r:α→Bool}:∀{l:List α},(∀x∈l,r x=(p x || q x))→(∀x∈l,¬(p x=true∧q x=true))→l.countP r=l.countP p+l.countP q
  | [],_,_=>rfl
  | x::l,h,k=>by
    have ih:=cnt_split (l:=l) (fun y hy=>h y (List.mem_cons_of_mem _ hy)) (fun y hy=>k y (List.mem_cons_of_mem _ hy))
    have h1:=h x (List.mem_cons_self ..)
    have h2:=k x (List.mem_cons_self ..)
    rw [List.countP_cons,List.countP_cons,List.countP_cons,ih,h1]
    cases hp:p x<;>cases hq:q x
    · rfl
    · simp only [Bool.false_or,if_true,Bool.false_eq_true,if_false];omega
    · simp only [Bool.or_false,if_true,Bool.false_eq_true,if_false];omega
    · exact absurd ⟨hp,hq⟩ h2
theorem grpTo_cnt (m:List Int) (c n:Nat):(grpTo m c n).length=(List.range n).countP fun j=>decide (m.getD j 0=(c:Int)):=by
  rw [grpTo,List.length_map,←List.countP_eq_length_filter]
theorem out_flat {m:List Int} {n:Nat} (h:∀j,j < n→0≤m.getD j 0):∀i:Nat,(outTo m n i).flatten.length=(List.range n).countP fun j=>decide (m.getD j 0 < (i:Int))
  | 0=>by
    rw [outTo]
    symm
    rw [List.flatten_nil,List.length_nil,List.countP_eq_zero]
    intro j hj
    have:=h j (List.mem_range.1 hj)
    rw [decide_eq_true_eq];omega
  | i + 1=>by
    have h1:(outTo m n (i+1)).flatten.length=(outTo m n i).flatten.length+(grpTo m i n).length:=by
      by_cases hp:0 < (grpTo m i n).length
      · rw [out_step hp,List.flatten_append,List.length_append];simp
      · rw [out_same hp];omega
    rw [h1,out_flat h i,grpTo_cnt]
    symm
    refine cnt_split (fun j _=> ?_) (fun j _ q=> ?_)
    · rw [Bool.eq_iff_iff,Bool.or_eq_true,decide_eq_true_eq,decide_eq_true_eq,decide_eq_true_eq];omega
    · rw [decide_eq_true_eq,decide_eq_true_eq] at q;omega
section
variable {l:List (Int×Int×Int×Int×Int)} {wn rd:Int}
theorem cg_nn {j:Nat} (hj:j < l.length):0≤(mkC l wn rd).getD j 0:=mk_nn (relC_comm l wn rd) hj
theorem cg_total:(groupsC l wn rd).flatten.length=l.length:=by
  rw [groupsC,out_flat fun j hj=>cg_nn hj]
  have:(List.range l.length).countP (fun j=>decide ((mkC l wn rd).getD j 0 < (l.length:Int)))=(List.range l.length).length:=by
    rw [List.countP_eq_length]
    intro j hj
    rw [List.mem_range] at hj
    have:=mk_le (relC_comm l wn rd) hj
    rw [decide_eq_true_eq]
    show (markF _ _).getD j 0 < _
    omega
  rw [this,List.length_range]
theorem cg_cover {x:Nat} (hx:x < l.length):∃t g,(groupsC l wn rd)[t]? =some g∧(x:Int)∈g∧plI (mkC l wn rd) l.length x=t:=by
  obtain ⟨c,h1,h2,_⟩:=markF_spec (relC_comm l wn rd) hx
  have hm:(x:Int)∈grpTo (mkC l wn rd) c l.length:=grpTo_mem.2 ⟨x,rfl,hx,h1⟩
  have hin:grpTo (mkC l wn rd) c l.length∈groupsC l wn rd:=out_has (List.length_pos_of_mem hm) (by omega)
  obtain ⟨t,ht,e⟩:=List.getElem_of_mem hin
  have hg:(groupsC l wn rd)[t]? =some (grpTo (mkC l wn rd) c l.length):=by rw [List.getElem?_eq_getElem ht,e]
  exact ⟨t,_,hg,hm,out_place hg x hm⟩
theorem cg_isG {g:List Int} (h:g∈groupsC l wn rd):isG l.length g=true:=by
  obtain ⟨c,_,rfl,hp⟩:=out_mem h
  rw [isG,Bool.and_eq_true,decide_eq_true_eq]
  refine ⟨?_,hp⟩
  have hq:(grpTo (mkC l wn rd) c l.length).Pairwise (· < ·):=by
    rw [grpTo]
    exact List.Pairwise.map _ (fun a b q=>Int.ofNat_lt.2 q) (List.Pairwise.filter _ List.pairwise_lt_range)
  have:=rise_of (lo:=0) (hi:=(l.length:Int) - 1) _ none hq (fun z hz=>by
    obtain ⟨j,rfl,hj,_⟩:=grpTo_mem.1 hz
    omega) (fun q e=>by cases e)
  simpa [risingAt] using this
theorem cg_pair {i k:Nat} {x y:(Int×Int×Int×Int×Int)} (hx:l[i]? =some x) (hy:l[k]? =some y) (h:nearB wn rd x y=true):plI (mkC l wn rd) l.length i=plI (mkC l wn rd) l.length k:=by
  have hi:=(List.getElem?_eq_some_iff.1 hx).1
  have hk:=(List.getElem?_eq_some_iff.1 hy).1
  have:=mk_rel (relC_comm l wn rd) hi hk (by rw [relC_at hx hy];exact h)
  rw [plI,plI]
  show _=(outTo _ _ ((markF (relC l wn rd) l.length).getD k 0).toNat).length
  rw [this];rfl
theorem first_le {α:Type} {p:α→Bool} {g:α}:∀{L:List α} {k t:Nat},L[t]? =some g→p g=true→(k:Int)≤firstP p k L∧firstP p k L≤(k:Int)+(t:Int)
  | [],_,_,h,_=>by cases h
  | y ::L,k,t,h,hp=>by
    rw [firstP]
    by_cases q:p y=true
    · rw [if_pos q];omega
    · rw [if_neg q]
      cases t with
      | zero=>
        have e:y=g:=by simpa using h
        exact absurd (e ▸ hp) q
      | succ t=>
        have:=first_le (L:=L) (k:=k+1) (t:=t) (by simpa using h) hp
        omega
theorem cg_for {i:Nat} {x:(Int×Int×Int×Int×Int)} (hB:gcB l wn rd=true) (hx:l[i]? =some x):gfB l wn rd x=true∧0≤gfV l wn rd x∧gfV l wn rd x≤((plI (mkC l wn rd) l.length i:Nat):Int):=by
  have hi:=(List.getElem?_eq_some_iff.1 hx).1
  have hq:=hB
  rw [gcB,Bool.and_eq_true] at hq
  obtain ⟨t,g,hg,hm,he⟩:=cg_cover (l:=l) (wn:=wn) (rd:=rd) hi
  have hp:g.any (hasI l wn rd x)=true:=List.any_eq_true.2 ⟨_,hm,by rw [hasI_at hx];exact near_self hq.2 x⟩
  have hf:=first_le (p:=fun g:List Int=>g.any (hasI l wn rd x)) (k:=0) hg hp
  have hb:gfB l wn rd x=true:=by
    rw [gfB,hB,cs_each hq.1 x (List.mem_of_getElem? hx)]
    show decide (0≤gfF l wn rd x)=true
    rw [decide_eq_true_eq,gfF];simpa using hf.1
  refine ⟨hb,?_⟩
  rw [gfV,if_pos hb,gfF]
  rw [he]
  simpa using hf
end
def PlInv (m:List Int) (n:Nat) (D P:List Int):Prop:=P.length=n∧∀x:Nat,(x:Int)∈D→P[x]? =some ((plI m n x:Nat):Int)
theorem plInv_zero (m:List Int) (n:Nat):PlInv m n [] (List.replicate n 0):=⟨List.length_replicate,fun _ h=>by cases h⟩
theorem plInv_step {m:List Int} {n x t:Nat} {D P:List Int} (h:PlInv m n D P) (hx:x < n) (ht:plI m n x=t):PlInv m n (D++[(x:Int)]) (P.set x (t:Int)):=by
  refine ⟨by rw [List.length_set];exact h.1,fun y hy=> ?_⟩
  by_cases e:x=y
  · subst e
    rw [List.getElem?_set_self (by rw [h.1];exact hx),ht]
  · rw [List.getElem?_set_ne e]
    refine h.2 y ((List.mem_append.1 hy).resolve_right fun q=> ?_)
    rw [List.mem_singleton] at q;omega
theorem take_flat {G:List (List Int)} {k:Nat} {g:List Int} (h:G[k]? =some g):(G.take (k+1)).flatten=(G.take k).flatten++g:=by
  rw [List.take_add_one,h,List.flatten_append];simp
theorem take_snoc {g:List Int} {j:Nat} {x:Int} (h:g[j]? =some x):g.take (j+1)=g.take j++[x]:=by
  rw [List.take_add_one,h];rfl
theorem oe_comm (x y:(Int×Int×Int×Int×Int)) (wn rd:Int):oeB x y wn rd=oeB y x wn rd:=by rw [oeB,oeB,Bool.and_comm (cOne x)]
theorem place_all {l:List (Int×Int×Int×Int×Int)} {wn rd:Int} {P:List Int} (h:PlInv (mkC l wn rd) l.length (groupsC l wn rd).flatten P) {x:Nat} (hx:x < l.length):P[x]? =some ((plI (mkC l wn rd) l.length x:Nat):Int):=by
  obtain ⟨t,g,hg,hm,_⟩:=cg_cover (l:=l) (wn:=wn) (rd:=rd) hx
  exact h.2 x (List.mem_flatten.2 ⟨g,List.mem_of_getElem? hg,hm⟩)
theorem gcR_yes {l:List (Int×Int×Int×Int×Int)} {wn rd:Int} (h:gcB l wn rd=true):gcR l wn rd=groupsC l wn rd:=by rw [gcR,if_pos h]
theorem gcR_facts (l:List (Int×Int×Int×Int×Int)) (wn rd:Int) (hl:l.length≤22):(gcR l wn rd).length≤1048576∧∀g∈gcR l wn rd,g.length≤1048576:=by
  rw [gcR]
  by_cases h:gcB l wn rd=true
  · rw [if_pos h]
    refine ⟨Nat.le_trans (outTo_len _ _ _) (by omega),fun g hg=>Nat.le_trans (groups_len hg) (by omega)⟩
  · rw [if_neg h]
    exact ⟨Nat.zero_le _,fun g hg=>nomatch hg⟩
end Go.Proofs.Ytcdpeopiajgljaa
