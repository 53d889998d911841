/- What functions compute (Town). No condition. -/
import Derived.Test.YtdgenniiidgimaaTy
import Derived.Test.YtdgenniiidgimaaVmG
import Derived.Test.YtdgenniiidgimaaWChain
import Derived.Test.YtdgenniiidgimaaWCmp
import Derived.Test.YtdgenniiidgimaaWBase
set_option linter.unusedSimpArgs false
set_option linter.unusedVariables false
set_option linter.defProp false
namespace Go.Proofs.Ytdgenniiidgimaa
open Go Go.Vm

def hasB (n x : Int) : Bool := decide (0 ≤ x) && decide (x ≤ IntKind.i64.wrap (n - 1))
def strOK (n : Int) (x : (Int × Int × Int)) : Bool := hasB n x.1 && hasB n x.2.1 && decide (x.1 < x.2.1) && (decide (1 ≤ x.2.2) && decide (x.2.2 ≤ 3600))
def toStr (n : Int) (x : (Int × Int × Int)) : Bool := hasB n x.1 && hasB n x.2.1 && !decide (x.1 = x.2.1) && (decide (1 ≤ x.2.2) && decide (x.2.2 ≤ 3600))
def strBf (x y : (Int × Int × Int)) : Bool := decide (x.1 < y.1) || (decide (x.1 = y.1) && decide (x.2.1 < y.2.1))
def townH (n : Int) (ss : List (Int × Int × Int)) : Bool := (decide (1 ≤ n) && decide (n ≤ 14)) && !decide (40 < (ss.length : Int))
def townB (n : Int) (ss : List (Int × Int × Int)) : Bool := townH n ss && chainAt (strOK n) strBf ss 0
def cmpSt (x y : (Int × Int × Int)) : Int := orL [cmpI x.1 y.1, cmpI x.2.1 y.2.1]
theorem cmpSt_bf (x y : (Int × Int × Int)) : decide (0 ≤ cmpSt x y) = !strBf x y := by
  obtain ⟨x0, x1, x2⟩ := x
  obtain ⟨y0, y1, y2⟩ := y
  simp only [cmpSt, orL, cmpI, strBf]
  by_cases h1 : x0 < y0
  · simp [h1]
  · by_cases h2 : y0 < x0
    · have : ¬ x0 = y0 := by omega
      simp [h1, h2, this]
    · have : x0 = y0 := by omega
      subst this
      by_cases h3 : x1 < y1
      · simp [h3]
      · by_cases h4 : y1 < x1
        · simp [h3, h4]
        · simp [h3, h4]
theorem toStr_ok (n : Int) (x : (Int × Int × Int)) : (toStr n x && !decide (x.2.1 < x.1)) = strOK n x := by
  obtain ⟨x0, x1, x2⟩ := x
  simp only [toStr, strOK]
  by_cases h : x0 < x1
  · have h1 : ¬ x0 = x1 := by omega
    have h2 : ¬ x1 < x0 := by omega
    simp [h, h1, h2]
  · by_cases h1 : x0 = x1
    · simp [h1]
    · have h2 : x1 < x0 := by omega
      simp [h, h2]
theorem toStr_or (n : Int) (x : (Int × Int × Int)) : (!toStr n x || decide (x.2.1 < x.1)) = !strOK n x := by
  rw [← toStr_ok]
  cases toStr n x <;> cases decide (x.2.1 < x.1) <;> rfl

set_option maxHeartbeats 1000000 in
theorem tHas_con (n : Int) (ss : List (Int × Int × Int)) (x : Int) : Con Try.prog 104 [.pv [.agg [.int .i64 n, .sl (ss.map (fun t : Int × Int × Int => V.agg [V.int .i64 t.1, V.int .i64 t.2.1, V.int .i64 t.2.2]))]] 0 0, .int .i64 x] [] (.bool (hasB n x)) [] := by
 refine v_con [.tmp 4] [] Try.func104 rfl rfl rfl (by simp [Try.ntmps104]) ?_
 intro Q0 n0 r0
 simp only [Try.ntmps104, envFrom, Nat.reduceAdd]
 have T := Tys.mk (And.intro Ty.t3 (And.intro Ty.t4 (And.intro Ty.t70 (And.intro Ty.t72 Ty.t182))))
 have F := Fc.mk True.intro
 refine v_seq ?_; intro Q1 n1 e1 r1
 refine v_region ?_; intro K2 k2
 refine zAssign ⟨?_⟩
 refine k2 _ ?_
 refine n1 _ _ (weak_keep [0, 1] _) ?_
 refine zk ⟨?_⟩
 refine v_seq ?_; intro Q3 n3 e3 r3
 refine v_region ?_; intro K4 k4
 refine zMove ⟨?_⟩
 refine zMove ⟨?_⟩
 refine zNilCheck ⟨?_⟩
 refine zFieldAddr ⟨?_⟩
 refine zLoad ⟨?_⟩
 refine zBinOpW ⟨?_⟩
 refine zc (inside_con _ _ _) ⟨?_⟩
 refine zAssign ⟨?_⟩
 refine k4 _ ?_
 refine n3 _ _ (weak_keep [4] _) ?_
 refine zk ⟨?_⟩
 refine v_ret ?_
 refine r0 _ ?_
 refine zf ⟨?_⟩
 exact ret_pure rfl rfl (.inl rfl)
set_option maxHeartbeats 1000000 in
theorem tFits_con (n : Int) (ss : List (Int × Int × Int)) (x0 : Int) (x1 : Int) (x2 : Int) : Con Try.prog 200 [.pv [.agg [.int .i64 n, .sl (ss.map (fun t : Int × Int × Int => V.agg [V.int .i64 t.1, V.int .i64 t.2.1, V.int .i64 t.2.2]))]] 0 0, .agg [V.int .i64 x0, V.int .i64 x1, V.int .i64 x2]] [] (.bool (strOK n (x0, x1, x2))) [] := by
 refine v_con [.tmp 4] [] Try.func200 rfl rfl rfl (by simp [Try.ntmps200]) ?_
 intro Q0 n0 r0
 simp only [Try.ntmps200, envFrom, Nat.reduceAdd]
 have T := Tys.mk (And.intro Ty.t3 (And.intro Ty.t4 (And.intro Ty.t70 (And.intro Ty.t72 (And.intro Ty.t144 Ty.t182)))))
 have F := Fc.mk True.intro
 refine v_seq ?_; intro Q1 n1 e1 r1
 refine v_region ?_; intro K2 k2
 refine zBox ⟨?_⟩
 refine zAssign ⟨?_⟩
 refine k2 _ ?_
 refine n1 _ _ (weak_keep [0, 3] _) ?_
 refine zk ⟨?_⟩
 refine v_seq ?_; intro Q3 n3 e3 r3
 refine v_region ?_; intro K4 k4
 refine zMove ⟨?_⟩
 refine zFieldAddr ⟨?_⟩
 refine zLoad ⟨?_⟩
 refine zc (tHas_con n ss x0) ⟨?_⟩
 refine zMove ⟨?_⟩
 refine zgMove ⟨?_⟩
 refine zgFieldAddr ⟨?_⟩
 refine zgLoad ⟨?_⟩
 refine zgc (tHas_con n ss x1) ⟨?_⟩
 refine zPick ⟨?_⟩
 refine zMove ⟨?_⟩
 refine zgFieldAddr ⟨?_⟩
 refine zgLoad ⟨?_⟩
 refine zgFieldAddr ⟨?_⟩
 refine zgLoad ⟨?_⟩
 refine zgBinOp ⟨?_⟩
 refine zPick ⟨?_⟩
 refine zMove ⟨?_⟩
 refine zgFieldAddr ⟨?_⟩
 refine zgLoad ⟨?_⟩
 refine zgc (inside_con _ _ _) ⟨?_⟩
 refine zPick ⟨?_⟩
 refine zAssign ⟨?_⟩
 refine k4 _ ?_
 refine n3 _ _ (weak_keep [4] _) ?_
 refine zk ⟨?_⟩
 refine v_ret ?_
 refine r0 _ ?_
 refine zf ⟨?_⟩
 exact ret_pure rfl (by simp [strOK]) (.inl rfl)
set_option maxHeartbeats 1000000 in
theorem cmpStreets_con (x0 : Int) (x1 : Int) (x2 : Int) (y0 : Int) (y1 : Int) (y2 : Int) : Con Try.prog 201 [.agg [V.int .i64 x0, V.int .i64 x1, V.int .i64 x2], .agg [V.int .i64 y0, V.int .i64 y1, V.int .i64 y2]] [] (.int .i64 (cmpSt (x0, x1, x2) (y0, y1, y2))) [] := by
 refine v_con [.tmp 4] [] Try.func201 rfl rfl rfl (by simp [Try.ntmps201]) ?_
 intro Q0 n0 r0
 simp only [Try.ntmps201, envFrom, Nat.reduceAdd]
 have T := Tys.mk (And.intro Ty.t3 (And.intro Ty.t26 Ty.t182))
 have F := Fc.mk True.intro
 refine v_seq ?_; intro Q1 n1 e1 r1
 refine v_region ?_; intro K2 k2
 refine zBox ⟨?_⟩
 refine zBox ⟨?_⟩
 refine zAssign ⟨?_⟩
 refine k2 _ ?_
 refine n1 _ _ (weak_keep [2, 3] _) ?_
 refine zk ⟨?_⟩
 refine v_seq ?_; intro Q3 n3 e3 r3
 refine v_draw (by kernel_rfl) ?_; intro K4 q4 k4
 show aAny _ _ _ _ 13 (Array.replicate 13 false) _
 refine zdFieldAddr q4 true 0 5 ?_
 refine zdLoad q4 true 1 6 ?_
 refine zdFieldAddr q4 true 2 7 ?_
 refine zdLoad q4 true 3 8 ?_
 refine zdFieldAddr q4 true 5 10 ?_
 refine zdLoad q4 true 6 11 ?_
 refine zdFieldAddr q4 true 7 12 ?_
 refine zdLoad q4 true 8 13 ?_
 refine zoc 4 (cmpInt_con x0 y0) ⟨?_⟩
 refine zoc 9 (cmpInt_con x1 y1) ⟨?_⟩
 refine zoBuildSlice 10 ⟨?_⟩
 refine zoc 11 (cmpOr_con [cmpI x0 y0, cmpI x1 y1] (by simp)) ⟨?_⟩
 refine zoAssign 12 ⟨?_⟩
 refine aAny_done (by kernel_rfl) ?_
 refine k4 _ ?_
 refine n3 _ _ (weak_keep [4] _) ?_
 refine zk ⟨?_⟩
 refine v_ret ?_
 refine r0 _ ?_
 refine zf ⟨?_⟩
 exact ret_pure rfl rfl (.inl rfl)
set_option maxHeartbeats 1000000 in
theorem toStreetB_con (x0 : Int) (x1 : Int) (x2 : Int) (n : Int) : Con Try.prog 213 [.agg [V.int .i64 x0, V.int .i64 x1, V.int .i64 x2], .int .i64 n] [] (.bool (toStr n (x0, x1, x2))) [] := by
 refine v_con [.tmp 4] [] Try.func213 rfl rfl rfl (by simp [Try.ntmps213]) ?_
 intro Q0 n0 r0
 simp only [Try.ntmps213, envFrom, Nat.reduceAdd]
 have T := Tys.mk (And.intro Ty.t3 (And.intro Ty.t4 Ty.t182))
 have F := Fc.mk True.intro
 refine v_seq ?_; intro Q1 n1 e1 r1
 refine v_region ?_; intro K2 k2
 refine zBox ⟨?_⟩
 refine zAssign ⟨?_⟩
 refine k2 _ ?_
 refine n1 _ _ (weak_keep [1, 2] _) ?_
 refine zk ⟨?_⟩
 refine v_seq ?_; intro Q3 n3 e3 r3
 refine v_region ?_; intro K4 k4
 refine zFieldAddr ⟨?_⟩
 refine zLoad ⟨?_⟩
 refine zMove ⟨?_⟩
 refine zBinOpW ⟨?_⟩
 refine zc (l1In_con _ _ _) ⟨?_⟩
 refine zMove ⟨?_⟩
 refine zgFieldAddr ⟨?_⟩
 refine zgLoad ⟨?_⟩
 refine zgMove ⟨?_⟩
 refine zgBinOpW ⟨?_⟩
 refine zgc (l1In_con _ _ _) ⟨?_⟩
 refine zPick ⟨?_⟩
 refine zMove ⟨?_⟩
 refine zgFieldAddr ⟨?_⟩
 refine zgLoad ⟨?_⟩
 refine zgFieldAddr ⟨?_⟩
 refine zgLoad ⟨?_⟩
 refine zgBinOp ⟨?_⟩
 refine zPick ⟨?_⟩
 refine zMove ⟨?_⟩
 refine zgFieldAddr ⟨?_⟩
 refine zgLoad ⟨?_⟩
 refine zgc (l1In_con _ _ _) ⟨?_⟩
 refine zPick ⟨?_⟩
 refine zAssign ⟨?_⟩
 refine k4 _ ?_
 refine n3 _ _ (weak_keep [4] _) ?_
 refine zk ⟨?_⟩
 refine v_ret ?_
 refine r0 _ ?_
 refine zf ⟨?_⟩
 exact ret_pure rfl (by simp [toStr, hasB]) (.inl rfl)
set_option maxHeartbeats 1000000 in
theorem toBefore_con (x0 : Int) (x1 : Int) (x2 : Int) (y0 : Int) (y1 : Int) (y2 : Int) : Con Try.prog 214 [.agg [V.int .i64 x0, V.int .i64 x1, V.int .i64 x2], .agg [V.int .i64 y0, V.int .i64 y1, V.int .i64 y2]] [] (.bool (strBf (x0, x1, x2) (y0, y1, y2))) [] := by
 refine v_con [.tmp 4] [] Try.func214 rfl rfl rfl (by simp [Try.ntmps214]) ?_
 intro Q0 n0 r0
 simp only [Try.ntmps214, envFrom, Nat.reduceAdd]
 have T := Tys.mk (And.intro Ty.t3 Ty.t182)
 have F := Fc.mk True.intro
 refine v_seq ?_; intro Q1 n1 e1 r1
 refine v_region ?_; intro K2 k2
 refine zBox ⟨?_⟩
 refine zBox ⟨?_⟩
 refine zAssign ⟨?_⟩
 refine k2 _ ?_
 refine n1 _ _ (weak_keep [2, 3] _) ?_
 refine zk ⟨?_⟩
 refine v_seq ?_; intro Q3 n3 e3 r3
 refine v_region ?_; intro K4 k4
 refine zFieldAddr ⟨?_⟩
 refine zLoad ⟨?_⟩
 refine zFieldAddr ⟨?_⟩
 refine zLoad ⟨?_⟩
 refine zBinOp ⟨?_⟩
 refine zMove ⟨?_⟩
 refine zgFieldAddr ⟨?_⟩
 refine zgLoad ⟨?_⟩
 refine zgFieldAddr ⟨?_⟩
 refine zgLoad ⟨?_⟩
 refine zgBinOp ⟨?_⟩
 refine zgMove ⟨?_⟩
 refine zgFieldAddr ⟨?_⟩
 refine zgLoad ⟨?_⟩
 refine zgFieldAddr ⟨?_⟩
 refine zgLoad ⟨?_⟩
 refine zgBinOp ⟨?_⟩
 refine zgPick ⟨?_⟩
 refine zPick ⟨?_⟩
 refine zAssign ⟨?_⟩
 refine k4 _ ?_
 refine n3 _ _ (weak_keep [4] _) ?_
 refine zk ⟨?_⟩
 refine v_ret ?_
 refine r0 _ ?_
 refine zf ⟨?_⟩
 exact ret_pure rfl (by simp [strBf]) (.inl rfl)
set_option maxRecDepth 8000 in
set_option maxHeartbeats 1000000 in
theorem isTown_con (n : Int) (ss : List (Int × Int × Int)) (hs : ss.length ≤ 1048576) : Con Try.prog 160 [.pv [.agg [.int .i64 n, .sl (ss.map (fun t : Int × Int × Int => V.agg [V.int .i64 t.1, V.int .i64 t.2.1, V.int .i64 t.2.2]))]] 0 0] [] (.bool (townB n ss)) [] := by
 refine v_con [.tmp 2] [] Try.func160 rfl rfl rfl (by simp [Try.ntmps160]) ?_
 intro Q0 n0 r0
 simp only [Try.ntmps160, envFrom, Nat.reduceAdd]
 have T := Tys.mk (And.intro Ty.t3 (And.intro Ty.t4 (And.intro Ty.t70 (And.intro Ty.t72 (And.intro Ty.t144 Ty.t182)))))
 have F := Fc.mk True.intro
 refine v_seq ?_; intro Q1 n1 e1 r1
 refine v_region ?_; intro K2 k2
 refine zAssign ⟨?_⟩
 refine k2 _ ?_
 refine n1 _ _ (weak_keep [0] _) ?_
 refine zk ⟨?_⟩
 refine v_seq ?_; intro Q3 n3 e3 r3
 refine v_seq ?_; intro Q4 n4 e4 r4
 refine v_region ?_; intro K5 k5
 refine zMove ⟨?_⟩
 refine zNilCheck ⟨?_⟩
 refine zFieldAddr ⟨?_⟩
 refine zLoad ⟨?_⟩
 refine zc (inside_con _ _ _) ⟨?_⟩
 refine zUnOp ⟨?_⟩
 refine zMove ⟨?_⟩
 refine zgMove ⟨?_⟩
 refine zgNilCheck ⟨?_⟩
 refine zgFieldAddr ⟨?_⟩
 refine zgLoad ⟨?_⟩
 refine zgLen ⟨?_⟩
 refine zgBinOp ⟨?_⟩
 refine zPick ⟨?_⟩
 refine k5 _ ?_
 refine n4 _ _ (weak_keep [0, 18] _) ?_
 refine zk ⟨?_⟩
 refine v_condS _ rfl ?_ ?_
 ·intro hc0
  have hh : townH n ss = false := by cases hq : townH n ss with | false => rfl | true => (exfalso; simp [townH] at hq; (try simp at hc0); omega)
  refine v_seq ?_; intro Q7 n7 e7 r7
  refine v_region ?_; intro K8 k8
  refine zAssign ⟨?_⟩
  refine k8 _ ?_
  refine n7 _ _ (weak_keep [2] _) ?_
  refine zk ⟨?_⟩
  refine v_ret ?_
  refine r3 _ ?_
  refine r0 _ ?_
  refine zf ⟨?_⟩
  exact ret_pure rfl (by rw [townB, hh]; rfl) (.inl rfl)
 ·intro hc0
  have hh : townH n ss = true := by simp only [townH, Bool.and_eq_true, Bool.not_eq_true', decide_eq_true_eq, decide_eq_false_iff_not]; (try simp at hc0); omega
  refine v_skip ?_
  refine n3 _ _ (weak_keep [0] _) ?_
  refine zk ⟨?_⟩
  refine v_seq ?_; intro Q9 n9 e9 r9
  refine v_seq ?_; intro Q10 n10 e10 r10
  refine v_region ?_; intro K11 k11
  refine zMove ⟨?_⟩
  refine zNilCheck ⟨?_⟩
  refine zFieldAddr ⟨?_⟩
  refine zLoad ⟨?_⟩
  refine zLen ⟨?_⟩
  refine zMove ⟨?_⟩
  refine k11 _ ?_
  refine n10 _ _ (weak_keep [0, 22, 23, 24] _) ?_
  refine zk ⟨?_⟩
  refine v_block ?_; intro Q12 n12 x12 e12 r12
  refine v_loop (fun i => ⟨[(0, .pv [.agg [.int .i64 n, .sl (ss.map (fun t : Int × Int × Int => V.agg [V.int .i64 t.1, V.int .i64 t.2.1, V.int .i64 t.2.2]))]] 0 0), (22, .sl (ss.map (fun t : Int × Int × Int => V.agg [V.int .i64 t.1, V.int .i64 t.2.1, V.int .i64 t.2.2]))), (23, .int .i64 ss.length), (24, .int .i64 (Nat.cast i))], [], false, 51, 0⟩) (fun i => i ≤ ss.length ∧ chainAt (strOK n) strBf ss i = chainAt (strOK n) strBf ss 0) (fun i => ss.length - i) 0 ?_ ?_ ?_
  ·refine weak_bothS [0, 22, 23, 24] [] ⟨?_⟩
   rfl
  ·exact ⟨Nat.zero_le _, rfl⟩
  ·rintro i hok13 Q13 n13 e13 r13
   obtain ⟨hi1, hR⟩ := hok13
   refine v_seq ?_; intro Q14 n14 e14 r14
   refine v_region ?_; intro K15 k15
   refine zBinOp ⟨?_⟩
   refine k15 _ ?_
   refine n14 _ _ (weak_keep [0, 22, 23, 24, 25] _) ?_
   refine zk ⟨?_⟩
   refine v_seq ?_; intro Q16 n16 e16 r16
   refine v_condS _ rfl ?_ ?_
   ·intro hc1
    have hlt : i < ss.length := by omega
    obtain ⟨⟨x0, x1, x2⟩, hx⟩ : ∃ x : Int × Int × Int, ss[i]? = some x := ⟨ss[i]'(by omega), List.getElem?_eq_getElem (by omega)⟩
    rcases Nat.eq_zero_or_pos i with h0 | h0
    ·skip
     have y0 : Int := 0
     have y1 : Int := 0
     have y2 : Int := 0
     have hi0 : ¬ ((0 : Int) < (i : Int)) := by omega
     have hst : chainAt (strOK n) strBf ss i = (strOK n (x0, x1, x2) && chainAt (strOK n) strBf ss (i + 1)) := by subst h0; exact chain_zero hx
     have hts := toStr_or n (x0, x1, x2)
     simp only [] at hts
     refine v_skip ?_
     refine n16 _ _ (weak_keep [0, 22, 23, 24] _) ?_
     refine zk ⟨?_⟩
     refine v_seq ?_; intro Q18 n18 e18 r18
     refine v_block ?_; intro Q19 n19 x19 e19 r19
     refine v_seq ?_; intro Q20 n20 e20 r20
     refine v_region ?_; intro K21 k21
     have F := Fc.mk (And.intro (fun f => getD_map (f := f) hx) (And.intro hi0 (And.intro @decide_false (And.intro @Bool.and_false hts))))
     refine zMove ⟨?_⟩
     refine zIndexAddr ⟨?_⟩
     refine zLoad ⟨?_⟩
     refine zAlloc ⟨?_⟩
     refine zAssign ⟨?_⟩
     refine zStore ⟨?_⟩
     refine k21 _ ?_
     refine n20 _ _ (weak_keep [0, 3, 4, 22, 23, 24] _) ?_
     refine zk ⟨?_⟩
     refine v_seq ?_; intro Q22 n22 e22 r22
     refine v_draw (by kernel_rfl) ?_; intro K23 q23 k23
     show aAny _ _ _ _ 21 (Array.replicate 21 false) _
     refine zdMove q23 true 0 29 ?_
     refine zdLoad q23 true 1 30 ?_
     refine zoc 2 (tFits_con n ss x0 x1 x2) ⟨?_⟩
     refine zdUnOp q23 true 3 32 ?_
     refine zdMove q23 true 4 33 ?_
     refine zdgMove q23 true 5 34 ?_
     refine zdgBinOp q23 true 6 35 ?_
     refine zdgMove q23 true 7 36 ?_
     refine zdgMove q23 true 8 37 ?_
     refine zdgNilCheck q23 true 9 38 ?_
     refine zdgFieldAddr q23 true 10 39 ?_
     refine zdgLoad q23 true 11 40 ?_
     refine zdgMove q23 true 12 41 ?_
     refine zdgBinOpW q23 true 13 42 ?_
     refine zdgIndexAddr q23 true 14 43 ?_
     refine zdgLoad q23 true 15 44 ?_
     refine zdgLoad q23 true 16 45 ?_
     refine zogc 17 (cmpStreets_con y0 y1 y2 x0 x1 x2) ⟨?_⟩
     refine zdgBinOp q23 true 18 47 ?_
     refine zdgPick q23 true 19 48 ?_
     refine zdPick q23 true 20 49 ?_
     refine aAny_done (by kernel_rfl) ?_
     refine k23 _ ?_
     refine n22 _ _ (weak_keep [0, 22, 23, 24, 49] _) ?_
     refine zk ⟨?_⟩
     refine v_condS _ rfl ?_ ?_
     ·intro hc2
      refine v_seq ?_; intro Q25 n25 e25 r25
      refine v_region ?_; intro K26 k26
      refine zAssign ⟨?_⟩
      refine k26 _ ?_
      refine n25 _ _ (weak_keep [2] _) ?_
      refine zk ⟨?_⟩
      refine v_ret ?_
      refine r19 _ ?_
      refine r18 _ ?_
      refine r13 _ ?_
      refine r12 _ ?_
      refine r9 _ ?_
      refine r0 _ ?_
      refine zf ⟨?_⟩
      exact ret_pure rfl (by rw [townB, hh, ← hR, hst]; (try simp at hc2); first | (simp [hc2]; done) | (rcases hc2 with h | h <;> simp [h]; done) | (simp_all; done)) (.inl rfl)
     ·intro hc2
      refine v_skip ?_
      refine n19 _ ?_
      refine n18 _ _ (weak_keep [0, 22, 23, 24] _) ?_
      refine zk ⟨?_⟩
      refine v_region ?_; intro K27 k27
      refine zBinOpW ⟨?_⟩
      refine zMove ⟨?_⟩
      refine k27 _ ?_
      refine n13 _ (i + 1) ?_ ?_ ?_
      ·refine weak_bothS [0, 22, 23, 24] [] ⟨?_⟩
       rfl
      ·exact ⟨by omega, by rw [← hR, hst]; (try simp at hc2); first | (simp [hc2]; done) | (simp_all; done)⟩
      ·show _ < _; omega
    ·skip
     obtain ⟨⟨y0, y1, y2⟩, hy⟩ : ∃ x : Int × Int × Int, ss[i - 1]? = some x := ⟨ss[i - 1]'(by omega), List.getElem?_eq_getElem (by omega)⟩
     have hi0 : (0 : Int) < i := by omega
     have hk : ((i : Int) - 1).toNat = i - 1 := by omega
     have hst := chain_succ (ok := strOK n) (bf := strBf) h0 hy hx
     have hcb := cmpSt_bf (y0, y1, y2) (x0, x1, x2)
     have hts := toStr_or n (x0, x1, x2)
     simp only [] at hts
     refine v_skip ?_
     refine n16 _ _ (weak_keep [0, 22, 23, 24] _) ?_
     refine zk ⟨?_⟩
     refine v_seq ?_; intro Q28 n28 e28 r28
     refine v_block ?_; intro Q29 n29 x29 e29 r29
     refine v_seq ?_; intro Q30 n30 e30 r30
     refine v_region ?_; intro K31 k31
     have F := Fc.mk (And.intro (fun f => getD_map (f := f) hx) (And.intro hi0 (And.intro hk (And.intro (fun f => getD_map (f := f) hy) (And.intro @decide_true (And.intro @Bool.and_true (And.intro hcb hts)))))))
     refine zMove ⟨?_⟩
     refine zIndexAddr ⟨?_⟩
     refine zLoad ⟨?_⟩
     refine zAlloc ⟨?_⟩
     refine zAssign ⟨?_⟩
     refine zStore ⟨?_⟩
     refine k31 _ ?_
     refine n30 _ _ (weak_keep [0, 3, 4, 22, 23, 24] _) ?_
     refine zk ⟨?_⟩
     refine v_seq ?_; intro Q32 n32 e32 r32
     refine v_draw (by kernel_rfl) ?_; intro K33 q33 k33
     show aAny _ _ _ _ 21 (Array.replicate 21 false) _
     refine zdMove q33 true 0 29 ?_
     refine zdLoad q33 true 1 30 ?_
     refine zoc 2 (tFits_con n ss x0 x1 x2) ⟨?_⟩
     refine zdUnOp q33 true 3 32 ?_
     refine zdMove q33 true 4 33 ?_
     refine zdgMove q33 true 5 34 ?_
     refine zdgBinOp q33 true 6 35 ?_
     refine zdgMove q33 true 7 36 ?_
     refine zdgMove q33 true 8 37 ?_
     refine zdgNilCheck q33 true 9 38 ?_
     refine zdgFieldAddr q33 true 10 39 ?_
     refine zdgLoad q33 true 11 40 ?_
     refine zdgMove q33 true 12 41 ?_
     refine zdgBinOpW q33 true 13 42 ?_
     refine zdgIndexAddr q33 true 14 43 ?_
     refine zdgLoad q33 true 15 44 ?_
     refine zdgLoad q33 true 16 45 ?_
     refine zogc 17 (cmpStreets_con y0 y1 y2 x0 x1 x2) ⟨?_⟩
     refine zdgBinOp q33 true 18 47 ?_
     refine zdgPick q33 true 19 48 ?_
     refine zdPick q33 true 20 49 ?_
     refine aAny_done (by kernel_rfl) ?_
     refine k33 _ ?_
     refine n32 _ _ (weak_keep [0, 22, 23, 24, 49] _) ?_
     refine zk ⟨?_⟩
     refine v_condS _ rfl ?_ ?_
     ·intro hc2
      refine v_seq ?_; intro Q35 n35 e35 r35
      refine v_region ?_; intro K36 k36
      refine zAssign ⟨?_⟩
      refine k36 _ ?_
      refine n35 _ _ (weak_keep [2] _) ?_
      refine zk ⟨?_⟩
      refine v_ret ?_
      refine r29 _ ?_
      refine r28 _ ?_
      refine r13 _ ?_
      refine r12 _ ?_
      refine r9 _ ?_
      refine r0 _ ?_
      refine zf ⟨?_⟩
      exact ret_pure rfl (by rw [townB, hh, ← hR, hst]; (try simp at hc2); first | (simp [hc2]; done) | (rcases hc2 with h | h <;> simp [h]; done) | (simp_all; done)) (.inl rfl)
     ·intro hc2
      refine v_skip ?_
      refine n29 _ ?_
      refine n28 _ _ (weak_keep [0, 22, 23, 24] _) ?_
      refine zk ⟨?_⟩
      refine v_region ?_; intro K37 k37
      refine zBinOpW ⟨?_⟩
      refine zMove ⟨?_⟩
      refine k37 _ ?_
      refine n13 _ (i + 1) ?_ ?_ ?_
      ·refine weak_bothS [0, 22, 23, 24] [] ⟨?_⟩
       rfl
      ·exact ⟨by omega, by rw [← hR, hst]; (try simp at hc2); first | (simp [hc2]; done) | (simp_all; done)⟩
      ·show _ < _; omega
   ·intro hc1
    refine v_exit ?_
    refine e16 _ _ ?_
    refine e13 _ _ ?_
    refine x12 _ ?_
    refine n9 _ _ (weak_keep [] _) ?_
    refine zk ⟨?_⟩
    refine v_seq ?_; intro Q38 n38 e38 r38
    refine v_region ?_; intro K39 k39
    refine zAssign ⟨?_⟩
    refine k39 _ ?_
    refine n38 _ _ (weak_keep [2] _) ?_
    refine zk ⟨?_⟩
    refine v_ret ?_
    refine r0 _ ?_
    refine zf ⟨?_⟩
    exact ret_pure rfl (by rw [townB, hh, ← hR, chain_end (by omega)]; rfl) (.inl rfl)
set_option maxRecDepth 8000 in
set_option maxHeartbeats 1000000 in
theorem toGood_con (n : Int) (ss : List (Int × Int × Int)) (hs : ss.length ≤ 1048576) : Con Try.prog 198 [.agg [.int .i64 n, .sl (ss.map (fun t : Int × Int × Int => V.agg [V.int .i64 t.1, V.int .i64 t.2.1, V.int .i64 t.2.2]))]] [] (.bool (townB n ss)) [] := by
 refine v_con [.tmp 2] [] Try.func198 rfl rfl rfl (by simp [Try.ntmps198]) ?_
 intro Q0 n0 r0
 simp only [Try.ntmps198, envFrom, Nat.reduceAdd]
 have T := Tys.mk (And.intro Ty.t3 (And.intro Ty.t4 (And.intro Ty.t70 (And.intro Ty.t72 Ty.t182))))
 have F := Fc.mk True.intro
 refine v_seq ?_; intro Q1 n1 e1 r1
 refine v_region ?_; intro K2 k2
 refine zBox ⟨?_⟩
 refine zAssign ⟨?_⟩
 refine k2 _ ?_
 refine n1 _ _ (weak_keep [1] _) ?_
 refine zk ⟨?_⟩
 refine v_seq ?_; intro Q3 n3 e3 r3
 refine v_seq ?_; intro Q4 n4 e4 r4
 refine v_region ?_; intro K5 k5
 refine zFieldAddr ⟨?_⟩
 refine zLoad ⟨?_⟩
 refine zc (l1In_con _ _ _) ⟨?_⟩
 refine zUnOp ⟨?_⟩
 refine zMove ⟨?_⟩
 refine zgFieldAddr ⟨?_⟩
 refine zgLoad ⟨?_⟩
 refine zgLen ⟨?_⟩
 refine zgBinOp ⟨?_⟩
 refine zPick ⟨?_⟩
 refine k5 _ ?_
 refine n4 _ _ (weak_keep [1, 14] _) ?_
 refine zk ⟨?_⟩
 refine v_condS _ rfl ?_ ?_
 ·intro hc0
  have hh : townH n ss = false := by cases hq : townH n ss with | false => rfl | true => (exfalso; simp [townH] at hq; (try simp at hc0); omega)
  refine v_seq ?_; intro Q7 n7 e7 r7
  refine v_region ?_; intro K8 k8
  refine zAssign ⟨?_⟩
  refine k8 _ ?_
  refine n7 _ _ (weak_keep [2] _) ?_
  refine zk ⟨?_⟩
  refine v_ret ?_
  refine r3 _ ?_
  refine r0 _ ?_
  refine zf ⟨?_⟩
  exact ret_pure rfl (by rw [townB, hh]; rfl) (.inl rfl)
 ·intro hc0
  have hh : townH n ss = true := by simp only [townH, Bool.and_eq_true, Bool.not_eq_true', decide_eq_true_eq, decide_eq_false_iff_not]; (try simp at hc0); omega
  refine v_skip ?_
  refine n3 _ _ (weak_keep [1] _) ?_
  refine zk ⟨?_⟩
  refine v_seq ?_; intro Q9 n9 e9 r9
  refine v_seq ?_; intro Q10 n10 e10 r10
  refine v_region ?_; intro K11 k11
  refine zFieldAddr ⟨?_⟩
  refine zLoad ⟨?_⟩
  refine zLen ⟨?_⟩
  refine zMove ⟨?_⟩
  refine k11 _ ?_
  refine n10 _ _ (weak_keep [1, 16, 17, 18] _) ?_
  refine zk ⟨?_⟩
  refine v_block ?_; intro Q12 n12 x12 e12 r12
  refine v_loop (fun i => ⟨[(1, .ptr 0 0 0), (16, .sl (ss.map (fun t : Int × Int × Int => V.agg [V.int .i64 t.1, V.int .i64 t.2.1, V.int .i64 t.2.2]))), (17, .int .i64 ss.length), (18, .int .i64 (Nat.cast i))], [.box (.agg [.int .i64 n, .sl (ss.map (fun t : Int × Int × Int => V.agg [V.int .i64 t.1, V.int .i64 t.2.1, V.int .i64 t.2.2]))]) .shal], false, 51, 0⟩) (fun i => i ≤ ss.length ∧ chainAt (strOK n) strBf ss i = chainAt (strOK n) strBf ss 0) (fun i => ss.length - i) 0 ?_ ?_ ?_
  ·refine weak_bothS [1, 16, 17, 18] [0] ⟨?_⟩
   rfl
  ·exact ⟨Nat.zero_le _, rfl⟩
  ·rintro i hok13 Q13 n13 e13 r13
   obtain ⟨hi1, hR⟩ := hok13
   refine v_seq ?_; intro Q14 n14 e14 r14
   refine v_region ?_; intro K15 k15
   refine zBinOp ⟨?_⟩
   refine k15 _ ?_
   refine n14 _ _ (weak_keep [1, 16, 17, 18, 19] _) ?_
   refine zk ⟨?_⟩
   refine v_seq ?_; intro Q16 n16 e16 r16
   refine v_condS _ rfl ?_ ?_
   ·intro hc1
    have hlt : i < ss.length := by omega
    obtain ⟨⟨x0, x1, x2⟩, hx⟩ : ∃ x : Int × Int × Int, ss[i]? = some x := ⟨ss[i]'(by omega), List.getElem?_eq_getElem (by omega)⟩
    rcases Nat.eq_zero_or_pos i with h0 | h0
    ·skip
     have y0 : Int := 0
     have y1 : Int := 0
     have y2 : Int := 0
     have hi0 : ¬ ((0 : Int) < (i : Int)) := by omega
     have hst : chainAt (strOK n) strBf ss i = (strOK n (x0, x1, x2) && chainAt (strOK n) strBf ss (i + 1)) := by subst h0; exact chain_zero hx
     have hts := toStr_or n (x0, x1, x2)
     simp only [] at hts
     refine v_skip ?_
     refine n16 _ _ (weak_keep [1, 16, 17, 18] _) ?_
     refine zk ⟨?_⟩
     refine v_seq ?_; intro Q18 n18 e18 r18
     refine v_block ?_; intro Q19 n19 x19 e19 r19
     refine v_seq ?_; intro Q20 n20 e20 r20
     refine v_region ?_; intro K21 k21
     have F := Fc.mk (And.intro (fun f => getD_map (f := f) hx) (And.intro hi0 (And.intro @decide_false (And.intro @Bool.and_false hts))))
     refine zMove ⟨?_⟩
     refine zIndexAddr ⟨?_⟩
     refine zLoad ⟨?_⟩
     refine zAlloc ⟨?_⟩
     refine zAssign ⟨?_⟩
     refine zStore ⟨?_⟩
     refine k21 _ ?_
     refine n20 _ _ (weak_keep [1, 3, 4, 16, 17, 18] _) ?_
     refine zk ⟨?_⟩
     refine v_seq ?_; intro Q22 n22 e22 r22
     refine v_draw (by kernel_rfl) ?_; intro K23 q23 k23
     show aAny _ _ _ _ 27 (Array.replicate 27 false) _
     refine zdLoad q23 true 0 23 ?_
     refine zdFieldAddr q23 true 1 24 ?_
     refine zdLoad q23 true 2 25 ?_
     refine zoc 3 (toStreetB_con x0 x1 x2 n) ⟨?_⟩
     refine zdUnOp q23 true 4 27 ?_
     refine zdMove q23 true 5 28 ?_
     refine zdgFieldAddr q23 true 6 29 ?_
     refine zdgLoad q23 true 7 30 ?_
     refine zdgFieldAddr q23 true 8 31 ?_
     refine zdgLoad q23 true 9 32 ?_
     refine zdgBinOp q23 true 10 33 ?_
     refine zdPick q23 true 11 34 ?_
     refine zdMove q23 true 12 35 ?_
     refine zdgMove q23 true 13 36 ?_
     refine zdgBinOp q23 true 14 37 ?_
     refine zdgMove q23 true 15 38 ?_
     refine zdgFieldAddr q23 true 16 39 ?_
     refine zdgLoad q23 true 17 40 ?_
     refine zdgMove q23 true 18 41 ?_
     refine zdgBinOpW q23 true 19 42 ?_
     refine zdgIndexAddr q23 true 20 43 ?_
     refine zdgLoad q23 true 21 44 ?_
     refine zdgLoad q23 true 22 45 ?_
     refine zogc 23 (toBefore_con y0 y1 y2 x0 x1 x2) ⟨?_⟩
     refine zdgUnOp q23 true 24 47 ?_
     refine zdgPick q23 true 25 48 ?_
     refine zdPick q23 true 26 49 ?_
     refine aAny_done (by kernel_rfl) ?_
     refine k23 _ ?_
     refine n22 _ _ (weak_keep [1, 16, 17, 18, 49] _) ?_
     refine zk ⟨?_⟩
     refine v_condS _ rfl ?_ ?_
     ·intro hc2
      refine v_seq ?_; intro Q25 n25 e25 r25
      refine v_region ?_; intro K26 k26
      refine zAssign ⟨?_⟩
      refine k26 _ ?_
      refine n25 _ _ (weak_keep [2] _) ?_
      refine zk ⟨?_⟩
      refine v_ret ?_
      refine r19 _ ?_
      refine r18 _ ?_
      refine r13 _ ?_
      refine r12 _ ?_
      refine r9 _ ?_
      refine r0 _ ?_
      refine zf ⟨?_⟩
      exact ret_pure rfl (by rw [townB, hh, ← hR, hst]; (try simp at hc2); first | (simp [hc2]; done) | (rcases hc2 with h | h <;> simp [h]; done) | (simp_all; done)) (.inl rfl)
     ·intro hc2
      refine v_skip ?_
      refine n19 _ ?_
      refine n18 _ _ (weak_keep [1, 16, 17, 18] _) ?_
      refine zk ⟨?_⟩
      refine v_region ?_; intro K27 k27
      refine zBinOpW ⟨?_⟩
      refine zMove ⟨?_⟩
      refine k27 _ ?_
      refine n13 _ (i + 1) ?_ ?_ ?_
      ·refine weak_bothS [1, 16, 17, 18] [0] ⟨?_⟩
       rfl
      ·exact ⟨by omega, by rw [← hR, hst]; (try simp at hc2); first | (simp [hc2]; done) | (simp_all; done)⟩
      ·show _ < _; omega
    ·skip
     obtain ⟨⟨y0, y1, y2⟩, hy⟩ : ∃ x : Int × Int × Int, ss[i - 1]? = some x := ⟨ss[i - 1]'(by omega), List.getElem?_eq_getElem (by omega)⟩
     have hi0 : (0 : Int) < i := by omega
     have hk : ((i : Int) - 1).toNat = i - 1 := by omega
     have hst := chain_succ (ok := strOK n) (bf := strBf) h0 hy hx
     have hcb := cmpSt_bf (y0, y1, y2) (x0, x1, x2)
     have hts := toStr_or n (x0, x1, x2)
     simp only [] at hts
     refine v_skip ?_
     refine n16 _ _ (weak_keep [1, 16, 17, 18] _) ?_
     refine zk ⟨?_⟩
     refine v_seq ?_; intro Q28 n28 e28 r28
     refine v_block ?_; intro Q29 n29 x29 e29 r29
     refine v_seq ?_; intro Q30 n30 e30 r30
     refine v_region ?_; intro K31 k31
     have F := Fc.mk (And.intro (fun f => getD_map (f := f) hx) (And.intro hi0 (And.intro hk (And.intro (fun f => getD_map (f := f) hy) (And.intro @decide_true (And.intro @Bool.and_true (And.intro hcb hts)))))))
     refine zMove ⟨?_⟩
     refine zIndexAddr ⟨?_⟩
     refine zLoad ⟨?_⟩
     refine zAlloc ⟨?_⟩
     refine zAssign ⟨?_⟩
     refine zStore ⟨?_⟩
     refine k31 _ ?_
     refine n30 _ _ (weak_keep [1, 3, 4, 16, 17, 18] _) ?_
     refine zk ⟨?_⟩
     refine v_seq ?_; intro Q32 n32 e32 r32
     refine v_draw (by kernel_rfl) ?_; intro K33 q33 k33
     show aAny _ _ _ _ 27 (Array.replicate 27 false) _
     refine zdLoad q33 true 0 23 ?_
     refine zdFieldAddr q33 true 1 24 ?_
     refine zdLoad q33 true 2 25 ?_
     refine zoc 3 (toStreetB_con x0 x1 x2 n) ⟨?_⟩
     refine zdUnOp q33 true 4 27 ?_
     refine zdMove q33 true 5 28 ?_
     refine zdgFieldAddr q33 true 6 29 ?_
     refine zdgLoad q33 true 7 30 ?_
     refine zdgFieldAddr q33 true 8 31 ?_
     refine zdgLoad q33 true 9 32 ?_
     refine zdgBinOp q33 true 10 33 ?_
     refine zdPick q33 true 11 34 ?_
     refine zdMove q33 true 12 35 ?_
     refine zdgMove q33 true 13 36 ?_
     refine zdgBinOp q33 true 14 37 ?_
     refine zdgMove q33 true 15 38 ?_
     refine zdgFieldAddr q33 true 16 39 ?_
     refine zdgLoad q33 true 17 40 ?_
     refine zdgMove q33 true 18 41 ?_
     refine zdgBinOpW q33 true 19 42 ?_
     refine zdgIndexAddr q33 true 20 43 ?_
     refine zdgLoad q33 true 21 44 ?_
     refine zdgLoad q33 true 22 45 ?_
     refine zogc 23 (toBefore_con y0 y1 y2 x0 x1 x2) ⟨?_⟩
     refine zdgUnOp q33 true 24 47 ?_
     refine zdgPick q33 true 25 48 ?_
     refine zdPick q33 true 26 49 ?_
     refine aAny_done (by kernel_rfl) ?_
     refine k33 _ ?_
     refine n32 _ _ (weak_keep [1, 16, 17, 18, 49] _) ?_
     refine zk ⟨?_⟩
     refine v_condS _ rfl ?_ ?_
     ·intro hc2
      refine v_seq ?_; intro Q35 n35 e35 r35
      refine v_region ?_; intro K36 k36
      refine zAssign ⟨?_⟩
      refine k36 _ ?_
      refine n35 _ _ (weak_keep [2] _) ?_
      refine zk ⟨?_⟩
      refine v_ret ?_
      refine r29 _ ?_
      refine r28 _ ?_
      refine r13 _ ?_
      refine r12 _ ?_
      refine r9 _ ?_
      refine r0 _ ?_
      refine zf ⟨?_⟩
      exact ret_pure rfl (by rw [townB, hh, ← hR, hst]; (try simp at hc2); first | (simp [hc2]; done) | (rcases hc2 with h | h <;> simp [h]; done) | (simp_all; done)) (.inl rfl)
     ·intro hc2
      refine v_skip ?_
      refine n29 _ ?_
      refine n28 _ _ (weak_keep [1, 16, 17, 18] _) ?_
      refine zk ⟨?_⟩
      refine v_region ?_; intro K37 k37
      refine zBinOpW ⟨?_⟩
      refine zMove ⟨?_⟩
      refine k37 _ ?_
      refine n13 _ (i + 1) ?_ ?_ ?_
      ·refine weak_bothS [1, 16, 17, 18] [0] ⟨?_⟩
       rfl
      ·exact ⟨by omega, by rw [← hR, hst]; (try simp at hc2); first | (simp [hc2]; done) | (simp_all; done)⟩
      ·show _ < _; omega
   ·intro hc1
    refine v_exit ?_
    refine e16 _ _ ?_
    refine e13 _ _ ?_
    refine x12 _ ?_
    refine n9 _ _ (weak_keep [] _) ?_
    refine zk ⟨?_⟩
    refine v_seq ?_; intro Q38 n38 e38 r38
    refine v_region ?_; intro K39 k39
    refine zAssign ⟨?_⟩
    refine k39 _ ?_
    refine n38 _ _ (weak_keep [2] _) ?_
    refine zk ⟨?_⟩
    refine v_ret ?_
    refine r0 _ ?_
    refine zf ⟨?_⟩
    exact ret_pure rfl (by rw [townB, hh, ← hR, chain_end (by omega)]; rfl) (.inl rfl)
end Go.Proofs.Ytdgenniiidgimaa
