/- What functions compute. No condition. -/
import Derived.Test.YtmhaafinhpopmaaGreatDoorUz
import Derived.Test.YtmhaafinhpopmaaGreatDoorUty
set_option linter.unusedSimpArgs false
set_option linter.unusedVariables false
set_option linter.defProp false
namespace Go.Proofs.YtmhaafinhpopmaaGreatDoor
open Go Go.Vm
set_option maxHeartbeats 8000000
theorem inside_con (n lo hi:Int):Con Tryz.prog 57 [.int .i64 n,.int .i64 lo,.int .i64 hi] [] (.bool (decide (lo≤n) && decide (n≤hi))) []:=by
 refine v_con [.tmp 6] [] Tryz.func57 rfl rfl rfl (by simp [Tryz.ntmps57]) ?_;intro Q0 n0 r0;simp only [Tryz.ntmps57,envFrom,Nat.reduceAdd];have T:=Tys.mk Ty.t3;have F:=Fc.mk True.intro;refine yR [0,1,2] ⟨?_⟩;refine yR [6] ⟨?_⟩;refine zr ⟨?_⟩;exact ret_pure rfl (by first | rfl | simp) (.inl rfl)
theorem l1In_con (n lo hi:Int):Con Tryz.prog 61 [.int .i64 n,.int .i64 lo,.int .i64 hi] [] (.bool (decide (lo≤n) && decide (n≤hi))) []:=by
 refine v_con [.tmp 6] [] Tryz.func61 rfl rfl rfl (by simp [Tryz.ntmps61]) ?_;intro Q0 n0 r0;simp only [Tryz.ntmps61,envFrom,Nat.reduceAdd];have T:=Tys.mk Ty.t3;have F:=Fc.mk True.intro;refine yR [0,1,2] ⟨?_⟩;refine yR [6] ⟨?_⟩;refine zr ⟨?_⟩;exact ret_pure rfl (by first | rfl | simp) (.inl rfl)
theorem getElem_drop_cons {α:Type} {l:List α} {i:Nat} {x:α} (h:l[i]? =some x):l.drop i=x::l.drop (i+1):=by
  obtain ⟨hi,rfl⟩:=qlc.1 h;exact List.drop_eq_getElem_cons hi
theorem eq_drop {α:Type} [DecidableEq α] {a b:List α} {i:Nat} (h:a.length=b.length) {x y:α} (hx:a[i]? =some x) (hy:b[i]? =some y):(a.drop i=b.drop i)↔(x=y∧a.drop (i+1)=b.drop (i+1)):=by
  rw [getElem_drop_cons hx,getElem_drop_cons hy,List.cons.injEq]
theorem all_drop {α:Type} {f:α→Bool} {l:List α} {i:Nat} {x:α} (h:l[i]? =some x):(l.drop i).all f=(f x && (l.drop (i+1)).all f):=by
  rw [getElem_drop_cons h,List.all_cons]
theorem foldl_drop {α β:Type} {f:β→α→β} {l:List α} {i:Nat} {x:α} (h:l[i]? =some x) (b:β):(l.drop i).foldl f b=(l.drop (i+1)).foldl f (f b x):=by
  rw [getElem_drop_cons h,List.foldl_cons]
theorem foldl_end {α β:Type} {f:β→α→β} {l:List α} {i:Nat} (h:l.length≤i) (b:β):(l.drop i).foldl f b=b:=by
  rw [qle h];rfl
theorem set_map {α:Type} {f:α→V} {l:List α} {i:Nat} {x:α}:(l.map f).set i (f x)=(l.set i x).map f:=(List.map_set).symm
def inR (n lo hi:Int):Bool:=decide (lo≤n) && decide (n≤hi)
theorem eqIntS_con (a b:List Int) (ha:a.length≤1048576):Con Tryz.prog 37 [.sl (a.map (V.int .i64)),.sl (b.map (V.int .i64))] [] (.bool (decide (a=b))) []:=by
 refine v_con [.tmp 4] [] Tryz.func37 rfl rfl rfl (by simp [Tryz.ntmps37]) ?_;intro Q0 n0 r0;simp only [Tryz.ntmps37,envFrom,Nat.reduceAdd];have T:=Tys.mk (ai Ty.t3 Ty.t35);have F:=Fc.mk True.intro;refine yR [0,1] ⟨?_⟩;refine v_seq ?_;intros;refine yR [0,1,10] ⟨?_⟩;refine v_condS _ rfl ?_ ?_
 ·intro hc0;refine yR [4] ⟨?_⟩;refine zr ⟨?_⟩;exact ret_pure rfl (by rw [decide_eq_false (fun h=>by subst h;simp at hc0)]) (.inl rfl)
 ·intro hc0;have hab:a.length=b.length:=by omega
  refine zn [0,1] ⟨?_⟩;refine v_seq ?_;intros;refine yR [0,1,5] ⟨?_⟩;refine v_block ?_;intros;refine v_loop (fun i=>⟨[(0,.sl (a.map (V.int .i64))),(1,.sl (b.map (V.int .i64))),(5,.int .i64 (Nat.cast i))],[],false,26,0⟩) (fun i=>i≤a.length∧((a=b)↔(a.drop i=b.drop i))) (fun i=>a.length - i) 0 ?_ ?_ ?_
  ·refine weak_of [0,1,5] ?_;simp only [keep_mk,keepE_nil,keepE_cons,look_cons,look_nil,Nat.reduceEqDiff,reduceIte];rfl
  ·exact ⟨qld _,by simp⟩
  ·rintro i hok9 Q9 n9 e9 r9;obtain ⟨hi1,hR⟩:=hok9;refine v_seq ?_;intros;refine yR [0,1,5,14] ⟨?_⟩;refine v_condS _ rfl ?_ ?_
   ·intro hc1;have hlt:i < a.length:=by omega
    obtain ⟨x,hx⟩:∃x,a[i]? =some x:=⟨a[i],qla hlt⟩;obtain ⟨y,hy⟩:∃y,b[i]? =some y:=⟨b[i],qla (by omega)⟩;have hstep:=eq_drop hab hx hy;refine zn [0,1,5] ⟨?_⟩;refine v_seq ?_;intros;refine v_block ?_;intros;refine v_seq ?_;intro Q15 n15 e15 r15;refine v_draw (by kernel_rfl) ?_;intro K16 q16 k16;show aAny _ _ _ _ 9 (Array.replicate 9 false) _;have F:=Fc.mk (ai (gdm hx) (gdm hy));refine zdMove q16 true 0 17 ?_;refine zdMove q16 true 1 18 ?_;refine zdIndexAddr q16 true 2 19 ?_;refine zdLoad q16 true 3 20 ?_;refine zdMove q16 true 4 21 ?_;refine zdMove q16 true 5 22 ?_;refine zdIndexAddr q16 true 6 23 ?_;refine zdLoad q16 true 7 24 ?_;refine zdBinOp q16 true 8 25 ?_;refine aAny_done (by kernel_rfl) ?_;refine k16 _ ?_;refine n15 _ _ (weak_keep [0,1,5,25] _) ?_;refine zk ⟨?_⟩;refine v_condS _ rfl ?_ ?_
    ·intro hc2;refine yR [4] ⟨?_⟩;refine zr ⟨?_⟩;exact ret_pure rfl (by rw [decide_eq_false (fun h=>hc2 (hstep.1 (hR.1 h)).1)]) (.inl rfl)
    ·intro hc2;refine zn [0,1,5] ⟨?_⟩;refine yV ⟨?_⟩;refine n9 _ (i+1) ?_ ?_ ?_
     ·refine weak_of [0,1,5] ?_;simp only [keep_mk,keepE_nil,keepE_cons,look_cons,look_nil,Nat.reduceEqDiff,reduceIte];rfl
     ·exact ⟨by omega,hR.trans (hstep.trans ⟨fun h=>h.2,fun h=>⟨hc2,h⟩⟩)⟩
     ·show _ < _;omega
   ·intro hc1;refine zn [] ⟨?_⟩;refine yR [4] ⟨?_⟩;refine zr ⟨?_⟩;exact ret_pure rfl (by rw [decide_eq_true (hR.2 (by rw [qle (by omega),qle (by omega)]))]) (.inl rfl)
def szS (n:Int) (l:List Int):Int:=if n - l.length < 0 then -1 else n - l.length
theorem szIntS_con (n:Int) (l:List Int) (hn:0≤n∧n≤1048576) (hl:l.length≤9223372036854775807):Con Tryz.prog 167 [.sl (l.map (V.int .i64)),.int .i64 n] [] (.int .i64 (szS n l)) []:=by
 refine v_con [.tmp 4] [] Tryz.func167 rfl rfl rfl (by simp [Tryz.ntmps167]) ?_;intro Q0 n0 r0;simp only [Tryz.ntmps167,envFrom,Nat.reduceAdd];have T:=Tys.mk (ai Ty.t3 Ty.t35);have F:=Fc.mk True.intro;refine yR [0,1] ⟨?_⟩;refine yR [1] ⟨?_⟩;refine v_seq ?_;intros;refine yR [1,10] ⟨?_⟩;refine v_condS _ rfl ?_ ?_
 ·intro hc0;refine yR [4] ⟨?_⟩;refine zr ⟨?_⟩;exact ret_pure rfl (by rw [szS,if_pos (by omega)]) (.inl rfl)
 ·intro hc0;refine zn [1] ⟨?_⟩;refine yR [4] ⟨?_⟩;refine zr ⟨?_⟩;exact ret_pure rfl (by rw [szS,if_neg (by omega)]) (.inl rfl)
theorem toIntS_con (l:List Int) (hl:l.length≤1048576):Con Tryz.prog 178 [.sl (l.map (V.int .i64))] [] (.ref 0) [.arr (l.map (V.int .i64)) .flat]:=by
 refine v_con [.tmp 2] [] Tryz.func178 rfl rfl rfl (by simp [Tryz.ntmps178]) ?_;intro Q0 n0 r0;simp only [Tryz.ntmps178,envFrom,Nat.reduceAdd];have T:=Tys.mk (ai Ty.t3 Ty.t35);have F:=Fc.mk True.intro;refine yR [0] ⟨?_⟩;refine yR [0,3] ⟨?_⟩;refine v_seq ?_;intros;refine yR [0,3,4] ⟨?_⟩;refine v_block ?_;intros;refine v_loop (fun i=>⟨[(0,.sl (l.map (V.int .i64))),(3,.ref 0),(4,.int .i64 (Nat.cast i))],[.arr (fillTo (V.int .i64) (V.int .i64 0) l i) .flat],false,22,0⟩) (fun i=>i≤l.length) (fun i=>l.length - i) 0 ?_ ?_ ?_
 ·refine weak_bothS [0,3,4] [1] ⟨?_⟩;rw [fill_zero];rfl
 ·exact qld _
 ·rintro i hok6 Q6 n6 e6 r6;have hi1:i≤l.length:=hok6;refine v_seq ?_;intros;refine yR [0,3,4,11] ⟨?_⟩;refine v_condS _ rfl ?_ ?_
  ·intro hc0;have hlt:i < l.length:=by omega
   obtain ⟨x,hx⟩:∃x,l[i]? =some x:=⟨l[i],qla hlt⟩;refine zn [0,3,4] ⟨?_⟩;refine v_seq ?_;intros;refine v_block ?_;intros;have F:=Fc.mk (ai (gdm hx) (ai (fun f z=>fill_len (f:=f) (z:=z) hi1) (ai (fun f z=>fill_get (f:=f) (z:=z) hlt) (fun f z=>fill_set (f:=f) (z:=z) hx))));refine yQ [0,3,4] ⟨?_⟩;refine yV ⟨?_⟩;refine n6 _ (i+1) ?_ ?_ ?_
   ·refine weak_bothS [0,3,4] [0] ⟨?_⟩;rfl
   ·exact hlt
   ·show _ < _;omega
  ·intro hc0;refine zn [3] ⟨?_⟩;refine yR [2] ⟨?_⟩;refine zr ⟨?_⟩;rw [←fill_end (f:=(V.int .i64)) (z:=(V.int .i64 0)) (show l.length≤i by omega)];exact ret_ref rfl (.inl rfl)
def markRow (k:Int) (n:Nat):List Int:=(List.range n).map fun j:Nat=>k+j
theorem mark_succ (k:Int) (n:Nat):markRow k (n+1)=markRow k n++[k+n]:=by simp [markRow,List.range_succ]
theorem mark_len (k:Int) (n:Nat):(markRow k n).length=n:=by simp [markRow]
theorem mark_step {l:List Int} {k:Int} {i:Nat} {x:Int} (h:l[i]? =some x):(markRow k i++l.drop i).set i (k+i)=markRow k (i+1)++l.drop (i+1):=by
  rw [getElem_drop_cons h,mark_succ,List.set_append_right _ _ (by rw [mark_len];omega),mark_len,Nat.sub_self,List.set_cons_zero,List.append_assoc];rfl
theorem mark_get {l:List Int} {k:Int} {i:Nat} {x:Int} (h:l[i]? =some x):(markRow k i++l.drop i)[i]? =some x:=by
  rw [qlj (by rw [mark_len];omega),mark_len,Nat.sub_self,getElem_drop_cons h];rfl
theorem mark_all {l:List Int} {k:Int} {i:Nat} (h:i≤l.length):(markRow k i++l.drop i).length=l.length:=by simp [mark_len];omega
theorem mark_at {k:Int} {n i:Nat} (h:i < n):(markRow k n)[i]? =some (k+i):=by
  simp [markRow,List.getElem?_map,List.getElem?_range h]
theorem markIntS_con (l:List Int) (k:Int) (hl:l.length≤1048576) (hk:0≤k∧k≤1152921504606846976):Con Tryz.prog 43 [.ref 0,.int .i64 k] [.arr (l.map (V.int .i64)) .flat] (.int .i64 (k+l.length)) [.arr ((markRow k l.length).map (V.int .i64)) .flat]:=by
 refine v_con [.tmp 4] [] Tryz.func43 rfl rfl rfl (by simp [Tryz.ntmps43]) ?_;intro Q0 n0 r0;simp only [Tryz.ntmps43,envFrom,Nat.reduceAdd];have T:=Tys.mk (ai Ty.t3 Ty.t35);have F:=Fc.mk True.intro;refine yR [0,1] ⟨?_⟩;refine v_seq ?_;intros;refine yR [0,1,5] ⟨?_⟩;refine v_block ?_;intros;refine v_loop (fun i=>⟨[(0,.ref 0),(1,.int .i64 (k+Nat.cast i)),(5,.int .i64 (Nat.cast i))],[.arr ((markRow k i++l.drop i).map (V.int .i64)) .flat],false,19,0⟩) (fun i=>i≤l.length) (fun i=>l.length - i) 0 ?_ ?_ ?_
 ·refine weak_bothS [0,1,5] [0] ⟨?_⟩;simp [markRow]
 ·exact qld _
 ·rintro i hok5 Q5 n5 e5 r5;have hi1:i≤l.length:=hok5;refine v_seq ?_;intros;refine yR [0,1,5,9] ⟨?_⟩;refine v_condS _ rfl ?_ ?_
  ·intro hc0;have hml:=mark_all (k:=k) hi1;rw [hml] at hc0;have hlt:i < l.length:=by omega
   obtain ⟨x,hx⟩:∃x,l[i]? =some x:=⟨l[i],qla hlt⟩;have hmg:=mark_get (k:=k) hx;have hms:=mark_step (k:=k) hx;refine zn [0,1,5] ⟨?_⟩;refine v_seq ?_;intros;refine v_block ?_;intros;have F:=Fc.mk (ai (gdm hmg) (ai hml (ai @set_map hms)));refine yR [0,1,5] ⟨?_⟩;refine yQ [0,1,5] ⟨?_⟩;refine yV ⟨?_⟩;refine n5 _ (i+1) ?_ ?_ ?_
   ·refine weak_bothS [0,1,5] [0] ⟨?_⟩;rw [show (k+(i:Int)+1)=k+((i+1:Nat):Int) by omega];rfl
   ·exact hlt
   ·show _ < _;omega
  ·intro hc0;rw [mark_all (k:=k) hi1] at hc0;refine zn [1] ⟨?_⟩;refine yR [4] ⟨?_⟩;refine zr ⟨?_⟩;have hend:i=l.length:=by omega
   subst hend;exact ret_lent rfl (by simp) rfl (by simp) (by simp [Blk.kindIs]) (.inl rfl)
theorem markInt0_con (k0:Int):Con Tryz.prog 43 [.sl [],.int .i64 k0] [] (.int .i64 k0) []:=by
 refine v_con [.tmp 4] [] Tryz.func43 rfl rfl rfl (by simp [Tryz.ntmps43]) ?_;intro Q0 n0 r0;simp only [Tryz.ntmps43,envFrom,Nat.reduceAdd];have T:=Tys.mk (ai Ty.t3 Ty.t35);have F:=Fc.mk True.intro;refine yR [0,1] ⟨?_⟩;refine v_seq ?_;intros;refine yR [0,1,5] ⟨?_⟩;refine v_block ?_;intros;refine v_loop (fun i=>⟨[(0,.sl []),(1,.int .i64 k0),(5,.int .i64 0)],[],false,19,0⟩) (fun i=>True) (fun i=>0) () ?_ ?_ ?_
 ·refine weak_of [0,1,5] ?_;simp only [keep_mk,keepE_nil,keepE_cons,look_cons,look_nil,Nat.reduceEqDiff,reduceIte];all_goals rfl
 ·trivial
 ·rintro i hok5 Q5 n5 e5 r5;have hok:True:=hok5;refine v_seq ?_;intros;refine yR [0,1,5,9] ⟨?_⟩;refine v_cond _ rfl ?_ ?_
  ·intro hc0;exfalso;simp at hc0
  ·intro hc0;try simp only [zC,reduceCtorEq] at hc0
   refine zn [1] ⟨?_⟩;refine yR [4] ⟨?_⟩;refine zr ⟨?_⟩;exact ret_pure rfl rfl (.inl rfl)
theorem heldIntS_con (k:Int) (n:Nat) (hl:n≤1048576) (hk:0≤k∧k≤1152921504606846976):Con Tryz.prog 45 [.sl ((markRow k n).map (V.int .i64)),.int .i64 k] [] (.int .i64 (k+n)) []:=by
 refine v_con [.tmp 4] [] Tryz.func45 rfl rfl rfl (by simp [Tryz.ntmps45]) ?_;intro Q0 n0 r0;simp only [Tryz.ntmps45,envFrom,Nat.reduceAdd];have T:=Tys.mk (ai Ty.t3 Ty.t35);have F:=Fc.mk True.intro;refine yR [0,1] ⟨?_⟩;refine v_seq ?_;intros;refine yR [0,1,5] ⟨?_⟩;refine v_block ?_;intros;refine v_loop (fun i=>⟨[(0,.sl ((markRow k n).map (V.int .i64))),(1,.int .i64 (k+Nat.cast i)),(5,.int .i64 (Nat.cast i))],[],false,21,0⟩) (fun i=>i≤n) (fun i=>n - i) 0 ?_ ?_ ?_
 ·refine weak_of [0,1,5] ?_;simp only [keep_mk,keepE_nil,keepE_cons,look_cons,look_nil,Nat.reduceEqDiff,reduceIte];simp
 ·exact qld _
 ·rintro i hok5 Q5 n5 e5 r5;have hi1:i≤n:=hok5;refine v_seq ?_;intros;refine yR [0,1,5,9] ⟨?_⟩;refine v_condS _ rfl ?_ ?_
  ·intro hc0;rw [mark_len] at hc0;have hlt:i < n:=by omega
   have hx:=mark_at (k:=k) hlt;refine zn [0,1,5] ⟨?_⟩;refine v_seq ?_;intros;refine v_block ?_;intros;refine v_seq ?_;intros;have F:=Fc.mk (ai (gdm hx) @mark_len);refine yR [0,1,5,17] ⟨?_⟩;refine v_cond _ rfl ?_ ?_
   ·intro hc1;exfalso;simp at hc1
   ·intro hc1;try simp only [zC,reduceCtorEq] at hc1
    refine zn [0,1,5] ⟨?_⟩;refine yQ [0,1,5] ⟨?_⟩;refine yV ⟨?_⟩;refine n5 _ (i+1) ?_ ?_ ?_
    ·refine weak_of [0,1,5] ?_;simp only [keep_mk,keepE_nil,keepE_cons,look_cons,look_nil,Nat.reduceEqDiff,reduceIte];rw [show (k+(i:Int)+1)=k+((i+1:Nat):Int) by omega];rfl
    ·exact hlt
    ·show _ < _;omega
  ·intro hc0;rw [mark_len] at hc0;refine zn [1] ⟨?_⟩;refine yR [4] ⟨?_⟩;refine zr ⟨?_⟩;have hend:i=n:=by omega
   subst hend;exact ret_pure rfl rfl (.inl rfl)
def mostL (l:List Int) (a:Int):Int:=l.foldl (fun m x=>if x > m then x else m) a
theorem most_step {l:List Int} {i:Nat} {x:Int} (h:l[i]? =some x) (m:Int):mostL (l.drop i) m=mostL (l.drop (i+1)) (if x > m then x else m):=foldl_drop h m
theorem most_end {l:List Int} {i:Nat} (h:l.length≤i) (m:Int):mostL (l.drop i) m=m:=foldl_end h m
theorem slMax_con (x:Int) (l:List Int) (hl:(x::l).length≤1048576):Con Tryz.prog 146 [.sl ((x::l).map (V.int .i64))] [] (.int .i64 (mostL l x)) []:=by
 obtain ⟨xl,hxl⟩:∃xl,xl=x::l:=⟨_,rfl⟩;have h0:xl[0]? =some x:=by rw [hxl];rfl
 have hres:mostL (xl.drop 1) x=mostL l x:=by rw [hxl];rfl
 rw [←hxl] at hl⊢;rw [←hres];have hpos:0 < xl.length:=by rw [hxl];simp
 refine v_con [.tmp 2] [] Tryz.func146 rfl rfl rfl (by simp [Tryz.ntmps146]) ?_;intro Q0 n0 r0;simp only [Tryz.ntmps146,envFrom,Nat.reduceAdd];have T:=Tys.mk (ai Ty.t3 Ty.t35);have F:=Fc.mk True.intro;have F:=Fc.mk (gdm h0);refine yR [0] ⟨?_⟩;refine v_seq ?_;intros;refine yR [0,7] ⟨?_⟩;refine v_cond _ rfl ?_ ?_
 ·intro hc0;exfalso;have hq:=of_decide_eq_true hc0;omega
 ·intro hc0;try simp only [zC,reduceCtorEq] at hc0
  refine zn [0] ⟨?_⟩;refine yR [0,3] ⟨?_⟩;refine v_seq ?_;intros;refine yR [0,3,4] ⟨?_⟩;refine v_block ?_;intros;refine v_loop (fun p=>⟨[(0,.sl (xl.map (V.int .i64))),(3,.int .i64 p.2),(4,.int .i64 (Nat.cast p.1))],[],false,25,0⟩) (fun p=>1≤p.1∧p.1≤xl.length∧mostL (xl.drop p.1) p.2=mostL (xl.drop 1) x) (fun p=>xl.length - p.1) ((1,x):Nat×Int) ?_ ?_ ?_
  ·refine weak_of [0,3,4] ?_;simp only [keep_mk,keepE_nil,keepE_cons,look_cons,look_nil,Nat.reduceEqDiff,reduceIte];rfl
  ·exact ⟨qlz _,hpos,rfl⟩
  ·rintro p hok9 Q9 n9 e9 r9;obtain ⟨hi0,hi1,hR⟩:=hok9;refine v_seq ?_;intros;refine yR [0,3,4,15] ⟨?_⟩;refine v_condS _ rfl ?_ ?_
   ·intro hc1;have hlt:p.1 < xl.length:=by omega
    obtain ⟨y,hy⟩:∃y,xl[p.1]? =some y:=⟨xl[p.1],qla hlt⟩;refine zn [0,3,4] ⟨?_⟩;refine v_seq ?_;intros;refine v_block ?_;intros;have F:=Fc.mk (ai (gdm h0) (gdm hy));refine yQ [0,3,4] ⟨?_⟩;refine yV ⟨?_⟩;refine n9 _ (p.1+1,if y > p.2 then y else p.2) ?_ ?_ ?_
    ·refine weak_of [0,3,4] ?_;simp only [keep_mk,keepE_nil,keepE_cons,look_cons,look_nil,Nat.reduceEqDiff,reduceIte];rfl
    ·exact ⟨by show 1≤p.1+1;omega,by show p.1+1≤_;omega,by show mostL (xl.drop (p.1+1)) _=_;rw [←hR,most_step hy]⟩
    ·show _ < _;show xl.length - (p.1+1) < _;omega
   ·intro hc1;refine zn [3] ⟨?_⟩;refine yR [2] ⟨?_⟩;refine zr ⟨?_⟩;exact ret_pure rfl (by rw [←hR,most_end (by omega)]) (.inl rfl)
def idxFrom (x:Int):Nat→List Int→Int
  | _,[]=>-1
  | i,y::l=>if x=y then i else idxFrom x (i+1) l
theorem idx_step {x y:Int} {l:List Int} {i:Nat} (h:l[i]? =some y):idxFrom x i (l.drop i)=if x=y then (i:Int) else idxFrom x (i+1) (l.drop (i+1)):=by
  rw [getElem_drop_cons h,idxFrom]
theorem idx_end {x:Int} {l:List Int} {i k:Nat} (h:l.length≤i):idxFrom x k (l.drop i)=-1:=by
  rw [qle h,idxFrom]
theorem idx_mem (x:Int):∀(l:List Int) (i:Nat),(0≤idxFrom x i l)↔x∈l
  | [],i=>by simp [idxFrom]
  | y::l,i=>by
    rw [idxFrom,qly];split
    · rename_i h;simp [h]
    · rename_i h;rw [idx_mem x l (i+1)];simp [h]
theorem any_drop {α:Type} {f:α→Bool} {l:List α} {i:Nat} {x:α} (h:l[i]? =some x):(l.drop i).any f=(f x || (l.drop (i+1)).any f):=by
  rw [getElem_drop_cons h,List.any_cons]
theorem any_end {α:Type} {f:α→Bool} {l:List α} {i:Nat} (h:l.length≤i):(l.drop i).any f=false:=by
  rw [qle h];rfl
theorem slIndex_con (l:List Int) (x:Int) (hl:l.length≤1048576):Con Tryz.prog 229 [.sl (l.map (V.int .i64)),.int .i64 x] [] (.int .i64 (idxFrom x 0 l)) []:=by
 refine v_con [.tmp 4] [] Tryz.func229 rfl rfl rfl (by simp [Tryz.ntmps229]) ?_;intro Q0 n0 r0;simp only [Tryz.ntmps229,envFrom,Nat.reduceAdd];have T:=Tys.mk (ai Ty.t3 Ty.t35);have F:=Fc.mk True.intro;refine yR [0,1] ⟨?_⟩;refine v_seq ?_;intros;refine yR [0,1,7,8] ⟨?_⟩;refine v_block ?_;intros;refine v_loop (fun i=>⟨[(0,.sl (l.map (V.int .i64))),(1,.int .i64 x),(7,.int .i64 l.length),(8,.int .i64 (Nat.cast i))],[],false,19,0⟩) (fun i=>i≤l.length∧idxFrom x i (l.drop i)=idxFrom x 0 l) (fun i=>l.length - i) 0 ?_ ?_ ?_
 ·refine weak_of [0,1,7,8] ?_;simp only [keep_mk,keepE_nil,keepE_cons,look_cons,look_nil,Nat.reduceEqDiff,reduceIte];rfl
 ·exact ⟨qld _,rfl⟩
 ·rintro i hok5 Q5 n5 e5 r5;obtain ⟨hi1,hR⟩:=hok5;refine yR [0,1,7,8,9] ⟨?_⟩;refine v_seq ?_;intros;refine v_condS _ rfl ?_ ?_
  ·intro hc0;have hlt:i < l.length:=by omega
   obtain ⟨y,hy⟩:∃y,l[i]? =some y:=⟨l[i],qla hlt⟩;have hst:=idx_step (x:=x) hy;refine zn [0,1,7,8] ⟨?_⟩;refine v_seq ?_;intros;refine v_block ?_;intros;have F:=Fc.mk (gdm hy);refine yR [0,1,5,7,8] ⟨?_⟩;refine yR [0,1,5,7,8,16] ⟨?_⟩;refine v_condS _ rfl ?_ ?_
   ·intro hc1;refine yR [4] ⟨?_⟩;refine zr ⟨?_⟩;exact ret_pure rfl (by rw [←hR,hst,if_pos hc1]) (.inl rfl)
   ·intro hc1;refine zn [0,1,7,8] ⟨?_⟩;refine yV ⟨?_⟩;refine n5 _ (i+1) ?_ ?_ ?_
    ·refine weak_of [0,1,7,8] ?_;simp only [keep_mk,keepE_nil,keepE_cons,look_cons,look_nil,Nat.reduceEqDiff,reduceIte];rfl
    ·exact ⟨by omega,by rw [←hR,hst,if_neg hc1]⟩
    ·show _ < _;omega
  ·intro hc0;refine zn [] ⟨?_⟩;refine yR [4] ⟨?_⟩;refine zr ⟨?_⟩;exact ret_pure rfl (by rw [←hR,idx_end (by omega)]) (.inl rfl)
theorem slContains_con (l:List Int) (x:Int) (hl:l.length≤1048576):Con Tryz.prog 197 [.sl (l.map (V.int .i64)),.int .i64 x] [] (.bool (decide (x∈l))) []:=by
 refine v_con [.tmp 4] [] Tryz.func197 rfl rfl rfl (by simp [Tryz.ntmps197]) ?_;intro Q0 n0 r0;simp only [Tryz.ntmps197,envFrom,Nat.reduceAdd];have T:=Tys.mk (ai Ty.t3 Ty.t35);have F:=Fc.mk True.intro;refine yR [0,1] ⟨?_⟩;refine yRc [4] (slIndex_con l x hl) ⟨?_⟩;refine zr ⟨?_⟩;exact ret_pure rfl (by congr 1;exact decide_eq_decide.2 (idx_mem x l 0)) (.inl rfl)
theorem l1Has_con (l:List Int) (x:Int) (hl:l.length≤1048576):Con Tryz.prog 234 [.sl (l.map (V.int .i64)),.int .i64 x] [] (.bool (decide (x∈l))) []:=by
 refine v_con [.tmp 4] [] Tryz.func234 rfl rfl rfl (by simp [Tryz.ntmps234]) ?_;intro Q0 n0 r0;simp only [Tryz.ntmps234,envFrom,Nat.reduceAdd];have T:=Tys.mk (ai Ty.t3 Ty.t35);have F:=Fc.mk True.intro;refine yR [0,1] ⟨?_⟩;refine v_seq ?_;intros;refine yR [1,7,8,9] ⟨?_⟩;refine v_block ?_;intros;refine v_loop (fun i=>⟨[(1,.int .i64 x),(7,.sl (l.map (V.int .i64))),(8,.int .i64 l.length),(9,.int .i64 (Nat.cast i))],[],false,17,0⟩) (fun i=>i≤l.length∧(x∈l.drop i↔x∈l)) (fun i=>l.length - i) 0 ?_ ?_ ?_
 ·refine weak_of [1,7,8,9] ?_;simp only [keep_mk,keepE_nil,keepE_cons,look_cons,look_nil,Nat.reduceEqDiff,reduceIte];rfl
 ·exact ⟨qld _,Iff.rfl⟩
 ·rintro i hok5 Q5 n5 e5 r5;obtain ⟨hi1,hR⟩:=hok5;refine yR [1,7,8,9,10] ⟨?_⟩;refine v_seq ?_;intros;refine v_condS _ rfl ?_ ?_
  ·intro hc0;have hlt:i < l.length:=by omega
   obtain ⟨y,hy⟩:∃y,l[i]? =some y:=⟨l[i],qla hlt⟩;have hst:x∈l.drop i↔(x=y∨x∈l.drop (i+1)):=by rw [getElem_drop_cons hy,qly]
   refine zn [1,7,8,9] ⟨?_⟩;refine v_seq ?_;intros;refine v_block ?_;intros;have F:=Fc.mk (gdm hy);refine yR [1,6,7,8,9] ⟨?_⟩;refine yR [1,7,8,9,15] ⟨?_⟩;refine v_condS _ rfl ?_ ?_
   ·intro hc1;refine yR [4] ⟨?_⟩;refine zr ⟨?_⟩;exact ret_pure rfl (by rw [decide_eq_true (hR.1 (hst.2 (.inl hc1.symm)))]) (.inl rfl)
   ·intro hc1;refine zn [1,7,8,9] ⟨?_⟩;refine yV ⟨?_⟩;refine n5 _ (i+1) ?_ ?_ ?_
    ·refine weak_of [1,7,8,9] ?_;simp only [keep_mk,keepE_nil,keepE_cons,look_cons,look_nil,Nat.reduceEqDiff,reduceIte];rfl
    ·exact ⟨by omega,hR.symm.trans (hst.trans ⟨fun h=>h.elim (fun q=>absurd q.symm hc1) id,.inr⟩) |>.symm⟩
    ·show _ < _;omega
  ·intro hc0;refine zn [] ⟨?_⟩;refine yR [4] ⟨?_⟩;refine zr ⟨?_⟩;exact ret_pure rfl (by rw [decide_eq_false (fun h=>by have:=hR.2 h;rw [qle (by omega)] at this;cases this)]) (.inl rfl)
def szLst {α:Type} (f:Int→α→Int):Int→List α→Int
  | n,[]=>n
  | n,x::l=>if f n x < 0 then -1 else szLst f (f n x) l
theorem szLst_le {α:Type} {f:Int→α→Int} {g:α→Int} (hf:∀n x,0≤n→0≤f n x→g x≤n∧f n x≤n):∀{ll:List α} {n:Int},0≤n→0≤szLst f n ll→∀x∈ll,g x≤n
  | [],_,_,_,x,hx=>by cases hx
  | y ::ll,n,hn,h,x,hx=>by
    rw [szLst] at h;split at h
    · omega
    · rename_i hs
      have hy:=hf n y hn (by omega);rcases qly.1 hx with rfl | h3
      · exact hy.1
      · have:=szLst_le hf (by omega) h x h3;omega
end Go.Proofs.YtmhaafinhpopmaaGreatDoor
