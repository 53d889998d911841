/- What functions compute (CtlZ). No condition. -/
import Derived.Test.YtdgenniiidgimaaTy
import Derived.Test.YtdgenniiidgimaaVmG
import Derived.Test.YtdgenniiidgimaaWLawK
import Derived.Test.YtdgenniiidgimaaWQIncident
import Derived.Test.YtdgenniiidgimaaWQWant
import Derived.Test.YtdgenniiidgimaaWSAppliance
import Derived.Test.YtdgenniiidgimaaWZAppliance
import Derived.Test.YtdgenniiidgimaaWCtl
import Derived.Test.YtdgenniiidgimaaWTAppliance
import Derived.Test.YtdgenniiidgimaaWEAppliance
set_option linter.unusedSimpArgs false
set_option linter.unusedVariables false
set_option linter.defProp false
namespace Go.Proofs.Ytdgenniiidgimaa
open Go Go.Vm

def szL {α : Type} (f : Int → α → Int) (n : Int) (l : List α) : Int := if n - (l.length : Int) < 0 then -1 else szLst f (n - (l.length : Int)) l
def szCtl (n : Int) (fl : List (ByteArray × Int × Int × Int × Int)) (ins : List (Int × Int × Bool × List ByteArray)) (ws : List (Int × List Int)) : Int :=
  if szL szAppliance1 n fl < 0 then -1 else if szL szIncident1 (szL szAppliance1 n fl) ins < 0 then -1 else if szL szWant1 (szL szIncident1 (szL szAppliance1 n fl) ins) ws < 0 then -1 else szL szWant1 (szL szIncident1 (szL szAppliance1 n fl) ins) ws
theorem szL_if {α : Type} {f : Int → α → Int} {n : Int} {l : List α} (hf : ∀ n t, 0 ≤ n → f n t ≤ n) (h0 : 0 ≤ n) (hn : n ≤ 1048576) (h : 0 ≤ szL f n l) : l.length ≤ 1048576 ∧ 0 ≤ szL f n l ∧ szL f n l ≤ 1048576 := szIfL hf h0 hn h
theorem szL_lst {α : Type} {f : Int → α → Int} {n : Int} {l : List α} (h : 0 ≤ szL f n l) : 0 ≤ n - (l.length : Int) ∧ 0 ≤ szLst f (n - (l.length : Int)) l := by
  unfold szL at h
  split at h <;> omega
theorem szIfC {n : Int} {fl : List (ByteArray × Int × Int × Int × Int)} {ins : List (Int × Int × Bool × List ByteArray)} {ws : List (Int × List Int)} (h0 : 0 ≤ n) (hn : n ≤ 1048576) (h : 0 ≤ szCtl n fl ins ws) :
    fl.length ≤ 1048576 ∧ ins.length ≤ 1048576 ∧ (∀ x ∈ ins, x.2.2.2.length ≤ 1048576) ∧ ws.length ≤ 1048576 ∧ (∀ x ∈ ws, x.2.length ≤ 1048576) ∧ (0 ≤ szCtl n fl ins ws ∧ szCtl n fl ins ws ≤ 1048576) := by
  unfold szCtl at h ⊢
  by_cases a : szL szAppliance1 n fl < 0
  · rw [if_pos a] at h; omega
  · rw [if_neg a] at h ⊢
    obtain ⟨a1, a2, a3⟩ := szL_if szAppliance1_le h0 hn (by omega : 0 ≤ szL szAppliance1 n fl)
    by_cases b : szL szIncident1 (szL szAppliance1 n fl) ins < 0
    · rw [if_pos b] at h; omega
    · rw [if_neg b] at h ⊢
      have hb : 0 ≤ szL szIncident1 (szL szAppliance1 n fl) ins := by omega
      obtain ⟨b1, b2, b3⟩ := szL_if szIncident1_le a2 a3 hb
      by_cases c : szL szWant1 (szL szIncident1 (szL szAppliance1 n fl) ins) ws < 0
      · rw [if_pos c] at h; omega
      · rw [if_neg c] at h ⊢
        have hc : 0 ≤ szL szWant1 (szL szIncident1 (szL szAppliance1 n fl) ins) ws := by omega
        obtain ⟨c1, c2, c3⟩ := szL_if szWant1_le b2 b3 hc
        refine ⟨a1, b1, fun x hx => ?_, c1, fun x hx => ?_, c2, c3⟩
        · have := szIncident_lens (szL_lst hb).1 (szL_lst hb).2 x hx; omega
        · have := szWant_lens (szL_lst hc).1 (szL_lst hc).2 x hx; omega

set_option maxHeartbeats 1000000 in
theorem szControl_con (n : Int) (fl : List (ByteArray × Int × Int × Int × Int)) (ins : List (Int × Int × Bool × List ByteArray)) (ws : List (Int × List Int)) (hn : 0 ≤ n ∧ n ≤ 1048576) (hl : fl.length ≤ 9223372036854775807) (hls : ∀ t ∈ fl, t.1.size ≤ 9223372036854775807) (hi : ins.length ≤ 9223372036854775807) (his : ∀ t ∈ ins, t.2.2.2.length ≤ 9223372036854775807 ∧ ∀ s ∈ t.2.2.2, s.size ≤ 9223372036854775807) (hw : ws.length ≤ 9223372036854775807) (hws : ∀ t ∈ ws, t.2.length ≤ 9223372036854775807) : Con Try.prog 64 [.agg [.sl (fl.map (fun t : ByteArray × Int × Int × Int × Int => V.agg [V.str t.1, V.int .i64 t.2.1, V.int .i64 t.2.2.1, V.int .i64 t.2.2.2.1, V.int .i64 t.2.2.2.2])), .sl (ins.map (fun t : Int × Int × Bool × List ByteArray => V.agg [V.int .i64 t.1, V.int .i64 t.2.1, V.bool t.2.2.1, V.sl (t.2.2.2.map V.str)])), .sl (ws.map (fun t : Int × List Int => V.agg [V.int .i64 t.1, V.sl (t.2.map (V.int .i64))]))], .int .i64 n] [] (.int .i64 (szCtl n fl ins ws)) [] := by
 refine v_con [.tmp 4] [] Try.func64 rfl rfl rfl (by simp [Try.ntmps64]) ?_
 intro Q0 n0 r0
 simp only [Try.ntmps64, envFrom, Nat.reduceAdd]
 have T := Tys.mk (And.intro Ty.t3 (And.intro Ty.t4 (And.intro Ty.t9 (And.intro Ty.t26 (And.intro Ty.t64 (And.intro Ty.t93 (And.intro Ty.t99 (And.intro Ty.t100 (And.intro Ty.t102 (And.intro Ty.t133 (And.intro Ty.t205 Ty.t207)))))))))))
 have F := Fc.mk True.intro
 refine v_seq ?_; intro Q1 n1 e1 r1
 refine v_region ?_; intro K2 k2
 refine zBox ⟨?_⟩
 refine zAssign ⟨?_⟩
 refine k2 _ ?_
 refine n1 _ _ (weak_keep [1, 2] _) ?_
 refine zk ⟨?_⟩
 refine v_seq ?_; intro Q3 n3 e3 r3
 refine v_region ?_; intro K4 k4
 refine zFieldAddr ⟨?_⟩
 refine zLoad ⟨?_⟩
 refine zMove ⟨?_⟩
 refine zc ((szApplianceS_con n fl hn hl hls : Con _ _ _ _ (.int .i64 (szL szAppliance1 n fl)) _)) ⟨?_⟩
 refine zAssign ⟨?_⟩
 refine k4 _ ?_
 refine n3 _ _ (weak_keep [1, 2] _) ?_
 refine zk ⟨?_⟩
 refine v_seq ?_; intro Q5 n5 e5 r5
 refine v_seq ?_; intro Q6 n6 e6 r6
 refine v_region ?_; intro K7 k7
 refine zMove ⟨?_⟩
 refine zBinOp ⟨?_⟩
 refine k7 _ ?_
 refine n6 _ _ (weak_keep [1, 2, 10] _) ?_
 refine zk ⟨?_⟩
 refine v_condS _ rfl ?_ ?_
 ·intro hc0
  have z1 : szL szAppliance1 n fl < 0 := hc0
  refine v_seq ?_; intro Q9 n9 e9 r9
  refine v_region ?_; intro K10 k10
  refine zAssign ⟨?_⟩
  refine k10 _ ?_
  refine n9 _ _ (weak_keep [4] _) ?_
  refine zk ⟨?_⟩
  refine v_ret ?_
  refine r5 _ ?_
  refine r0 _ ?_
  refine zf ⟨?_⟩
  exact ret_pure rfl (by rw [szCtl, if_pos z1]) (.inl rfl)
 ·intro hc0
  have y1 : 0 ≤ szL szAppliance1 n fl := hc0
  have z1 : ¬ szL szAppliance1 n fl < 0 := by omega
  obtain ⟨b1, q1⟩ := szL_if szAppliance1_le hn.1 hn.2 (by omega : 0 ≤ szL szAppliance1 n fl)
  refine v_skip ?_
  refine n5 _ _ (weak_keep [1, 2] _) ?_
  refine zk ⟨?_⟩
  refine v_seq ?_; intro Q11 n11 e11 r11
  refine v_region ?_; intro K12 k12
  refine zFieldAddr ⟨?_⟩
  refine zLoad ⟨?_⟩
  refine zMove ⟨?_⟩
  refine zc ((szIncidentS_con (szL szAppliance1 n fl) ins q1 hi his : Con _ _ _ _ (.int .i64 (szL szIncident1 (szL szAppliance1 n fl) ins)) _)) ⟨?_⟩
  refine zAssign ⟨?_⟩
  refine k12 _ ?_
  refine n11 _ _ (weak_keep [1, 2] _) ?_
  refine zk ⟨?_⟩
  refine v_seq ?_; intro Q13 n13 e13 r13
  refine v_seq ?_; intro Q14 n14 e14 r14
  refine v_region ?_; intro K15 k15
  refine zMove ⟨?_⟩
  refine zBinOp ⟨?_⟩
  refine k15 _ ?_
  refine n14 _ _ (weak_keep [1, 2, 16] _) ?_
  refine zk ⟨?_⟩
  refine v_condS _ rfl ?_ ?_
  ·intro hc1
   have z2 : szL szIncident1 (szL szAppliance1 n fl) ins < 0 := hc1
   refine v_seq ?_; intro Q17 n17 e17 r17
   refine v_region ?_; intro K18 k18
   refine zAssign ⟨?_⟩
   refine k18 _ ?_
   refine n17 _ _ (weak_keep [4] _) ?_
   refine zk ⟨?_⟩
   refine v_ret ?_
   refine r13 _ ?_
   refine r0 _ ?_
   refine zf ⟨?_⟩
   exact ret_pure rfl (by rw [szCtl, if_neg z1, if_pos z2]) (.inl rfl)
  ·intro hc1
   have y2 : 0 ≤ szL szIncident1 (szL szAppliance1 n fl) ins := hc1
   have z2 : ¬ szL szIncident1 (szL szAppliance1 n fl) ins < 0 := by omega
   obtain ⟨b2, q2⟩ := szL_if szIncident1_le q1.1 q1.2 (by omega : 0 ≤ szL szIncident1 (szL szAppliance1 n fl) ins)
   refine v_skip ?_
   refine n13 _ _ (weak_keep [1, 2] _) ?_
   refine zk ⟨?_⟩
   refine v_seq ?_; intro Q19 n19 e19 r19
   refine v_region ?_; intro K20 k20
   refine zFieldAddr ⟨?_⟩
   refine zLoad ⟨?_⟩
   refine zMove ⟨?_⟩
   refine zc ((szWantS_con (szL szIncident1 (szL szAppliance1 n fl) ins) ws q2 hw hws : Con _ _ _ _ (.int .i64 (szL szWant1 (szL szIncident1 (szL szAppliance1 n fl) ins) ws)) _)) ⟨?_⟩
   refine zAssign ⟨?_⟩
   refine k20 _ ?_
   refine n19 _ _ (weak_keep [1] _) ?_
   refine zk ⟨?_⟩
   refine v_seq ?_; intro Q21 n21 e21 r21
   refine v_seq ?_; intro Q22 n22 e22 r22
   refine v_region ?_; intro K23 k23
   refine zMove ⟨?_⟩
   refine zBinOp ⟨?_⟩
   refine k23 _ ?_
   refine n22 _ _ (weak_keep [1, 22] _) ?_
   refine zk ⟨?_⟩
   refine v_condS _ rfl ?_ ?_
   ·intro hc2
    have z3 : szL szWant1 (szL szIncident1 (szL szAppliance1 n fl) ins) ws < 0 := hc2
    refine v_seq ?_; intro Q25 n25 e25 r25
    refine v_region ?_; intro K26 k26
    refine zAssign ⟨?_⟩
    refine k26 _ ?_
    refine n25 _ _ (weak_keep [4] _) ?_
    refine zk ⟨?_⟩
    refine v_ret ?_
    refine r21 _ ?_
    refine r0 _ ?_
    refine zf ⟨?_⟩
    exact ret_pure rfl (by rw [szCtl, if_neg z1, if_neg z2, if_pos z3]) (.inl rfl)
   ·intro hc2
    have y3 : 0 ≤ szL szWant1 (szL szIncident1 (szL szAppliance1 n fl) ins) ws := hc2
    have z3 : ¬ szL szWant1 (szL szIncident1 (szL szAppliance1 n fl) ins) ws < 0 := by omega
    refine v_skip ?_
    refine n21 _ _ (weak_keep [1] _) ?_
    refine zk ⟨?_⟩
    refine v_seq ?_; intro Q27 n27 e27 r27
    refine v_region ?_; intro K28 k28
    refine zMove ⟨?_⟩
    refine zAssign ⟨?_⟩
    refine k28 _ ?_
    refine n27 _ _ (weak_keep [4] _) ?_
    refine zk ⟨?_⟩
    refine v_ret ?_
    refine r0 _ ?_
    refine zf ⟨?_⟩
    exact ret_pure rfl (by rw [szCtl, if_neg z1, if_neg z2, if_neg z3]; rfl) (.inl rfl)
set_option maxHeartbeats 1000000 in
theorem toControl_con (fl : List (ByteArray × Int × Int × Int × Int)) (ins : List (Int × Int × Bool × List ByteArray)) (ws : List (Int × List Int)) (hl : fl.length ≤ 1048576) (hil : ins.length ≤ 1048576) (hin : ∀ x ∈ ins, x.2.2.2.length ≤ 1048576) (hwl : ws.length ≤ 1048576) (hwn : ∀ x ∈ ws, x.2.length ≤ 1048576) : Con Try.prog 66 [.agg [.sl (fl.map (fun t : ByteArray × Int × Int × Int × Int => V.agg [V.str t.1, V.int .i64 t.2.1, V.int .i64 t.2.2.1, V.int .i64 t.2.2.2.1, V.int .i64 t.2.2.2.2])), .sl (ins.map (fun t : Int × Int × Bool × List ByteArray => V.agg [V.int .i64 t.1, V.int .i64 t.2.1, V.bool t.2.2.1, V.sl (t.2.2.2.map V.str)])), .sl (ws.map (fun t : Int × List Int => V.agg [V.int .i64 t.1, V.sl (t.2.map (V.int .i64))]))]] [] (.agg [.ref 0, .ref 1, .ref 2]) [.arr (fl.map (fun t : ByteArray × Int × Int × Int × Int => V.agg [V.str t.1, V.int .i64 t.2.1, V.int .i64 t.2.2.1, V.int .i64 t.2.2.2.1, V.int .i64 t.2.2.2.2])) .flat, .arr (ins.map (fun t : Int × Int × Bool × List ByteArray => V.agg [V.int .i64 t.1, V.int .i64 t.2.1, V.bool t.2.2.1, V.sl (t.2.2.2.map V.str)])) (fillK ins.length), .arr (ws.map (fun t : Int × List Int => V.agg [V.int .i64 t.1, V.sl (t.2.map (V.int .i64))])) (fillK ws.length)] := by
 refine v_con [.cell 2 87] [] Try.func66 rfl rfl rfl (by simp [Try.ntmps66]) ?_
 intro Q0 n0 r0
 simp only [Try.ntmps66, envFrom, Nat.reduceAdd]
 have T := Tys.mk (And.intro Ty.t3 (And.intro Ty.t4 (And.intro Ty.t9 (And.intro Ty.t26 (And.intro Ty.t64 (And.intro Ty.t74 (And.intro Ty.t84 (And.intro Ty.t85 (And.intro Ty.t87 (And.intro Ty.t93 (And.intro Ty.t99 (And.intro Ty.t100 (And.intro Ty.t102 (And.intro Ty.t133 (And.intro Ty.t141 (And.intro Ty.t192 (And.intro Ty.t195 (And.intro Ty.t205 Ty.t207))))))))))))))))))
 have F := Fc.mk True.intro
 refine v_seq ?_; intro Q1 n1 e1 r1
 refine v_region ?_; intro K2 k2
 refine zBox ⟨?_⟩
 refine zAlloc ⟨?_⟩
 refine k2 _ ?_
 refine n1 _ _ (weak_keep [1, 2] _) ?_
 refine zk ⟨?_⟩
 refine v_seq ?_; intro Q3 n3 e3 r3
 refine v_region ?_; intro K4 k4
 refine zAlloc ⟨?_⟩
 refine k4 _ ?_
 refine n3 _ _ (weak_keep [1, 2, 3] _) ?_
 refine zk ⟨?_⟩
 refine v_seq ?_; intro Q5 n5 e5 r5
 refine v_region ?_; intro K6 k6
 refine zFieldAddr ⟨?_⟩
 refine zLoad ⟨?_⟩
 refine zc (toApplianceS_con fl hl) ⟨?_⟩
 refine zFieldAddr ⟨?_⟩
 refine zStore ⟨?_⟩
 refine k6 _ ?_
 refine n5 _ _ (weak_keep [1, 2, 3] _) ?_
 refine zk ⟨?_⟩
 refine v_seq ?_; intro Q7 n7 e7 r7
 refine v_region ?_; intro K8 k8
 refine zFieldAddr ⟨?_⟩
 refine zLoad ⟨?_⟩
 refine zc (toIncidentS_con ins hil hin) ⟨?_⟩
 refine zFieldAddr ⟨?_⟩
 refine zStore ⟨?_⟩
 refine k8 _ ?_
 refine n7 _ _ (weak_keep [1, 2, 3] _) ?_
 refine zk ⟨?_⟩
 refine v_seq ?_; intro Q9 n9 e9 r9
 refine v_region ?_; intro K10 k10
 refine zFieldAddr ⟨?_⟩
 refine zLoad ⟨?_⟩
 refine zc (toWantS_con ws hwl hwn) ⟨?_⟩
 refine zFieldAddr ⟨?_⟩
 refine zStore ⟨?_⟩
 refine k10 _ ?_
 refine n9 _ _ (weak_keep [2, 3] _) ?_
 refine zk ⟨?_⟩
 refine v_seq ?_; intro Q11 n11 e11 r11
 refine v_region ?_; intro K12 k12
 refine zLoad ⟨?_⟩
 refine zStore ⟨?_⟩
 refine k12 _ ?_
 refine n11 _ _ (weak_keep [2] _) ?_
 refine zk ⟨?_⟩
 refine v_ret ?_
 refine r0 _ ?_
 refine zf ⟨?_⟩
 simp only [zE, zL, zO, zN, aStepM, optable, set_some, Nat.reduceEqDiff, reduceIte, Nat.reduceLT, implies_true, forall_const, reduceCtorEq, V.ofValue, V.ofScalar, V.un, V.gd, aLoad, row_mk, Blk.row, PartOK, Go.Vm.part, V.cells, V.noSl, V.noRef, Nat.reduceAdd, Nat.reduceLeDiff, Nat.reduceMul, Try.underlying74, Ty.c74, Ty.a74, Try.underlying84, Ty.c84, Ty.a84, Try.underlying85, Ty.c85, Ty.a85, Try.underlying87, Ty.c87, Ty.a87]
 exact ret_gen [9, 10, 11] rfl rfl (by decide) rfl (by simp) (by simp [Blk.kindIs, fillK_fd]) rfl
set_option maxHeartbeats 1000000 in
theorem eqControl_con (fl : List (ByteArray × Int × Int × Int × Int)) (ins : List (Int × Int × Bool × List ByteArray)) (ws : List (Int × List Int)) (hl : fl.length ≤ 1048576) (hil : ins.length ≤ 1048576) (hin : ∀ x ∈ ins, x.2.2.2.length ≤ 1048576) (hwl : ws.length ≤ 1048576) (hwn : ∀ x ∈ ws, x.2.length ≤ 1048576) : Con Try.prog 56 [.agg [.sl (fl.map (fun t : ByteArray × Int × Int × Int × Int => V.agg [V.str t.1, V.int .i64 t.2.1, V.int .i64 t.2.2.1, V.int .i64 t.2.2.2.1, V.int .i64 t.2.2.2.2])), .sl (ins.map (fun t : Int × Int × Bool × List ByteArray => V.agg [V.int .i64 t.1, V.int .i64 t.2.1, V.bool t.2.2.1, V.sl (t.2.2.2.map V.str)])), .sl (ws.map (fun t : Int × List Int => V.agg [V.int .i64 t.1, V.sl (t.2.map (V.int .i64))]))], .agg [.sl (fl.map (fun t : ByteArray × Int × Int × Int × Int => V.agg [V.str t.1, V.int .i64 t.2.1, V.int .i64 t.2.2.1, V.int .i64 t.2.2.2.1, V.int .i64 t.2.2.2.2])), .sl (ins.map (fun t : Int × Int × Bool × List ByteArray => V.agg [V.int .i64 t.1, V.int .i64 t.2.1, V.bool t.2.2.1, V.sl (t.2.2.2.map V.str)])), .sl (ws.map (fun t : Int × List Int => V.agg [V.int .i64 t.1, V.sl (t.2.map (V.int .i64))]))]] [] (.bool true) [] := by
 refine v_con [.tmp 4] [] Try.func56 rfl rfl rfl (by simp [Try.ntmps56]) ?_
 intro Q0 n0 r0
 simp only [Try.ntmps56, envFrom, Nat.reduceAdd]
 have T := Tys.mk (And.intro Ty.t3 (And.intro Ty.t4 (And.intro Ty.t9 (And.intro Ty.t26 (And.intro Ty.t74 (And.intro Ty.t84 (And.intro Ty.t85 (And.intro Ty.t87 (And.intro Ty.t93 (And.intro Ty.t141 (And.intro Ty.t192 Ty.t195)))))))))))
 have F := Fc.mk True.intro
 refine v_seq ?_; intro Q1 n1 e1 r1
 refine v_region ?_; intro K2 k2
 refine zBox ⟨?_⟩
 refine zBox ⟨?_⟩
 refine zAssign ⟨?_⟩
 refine k2 _ ?_
 refine n1 _ _ (weak_keep [2, 3] _) ?_
 refine zk ⟨?_⟩
 refine v_seq ?_; intro Q3 n3 e3 r3
 refine v_seq ?_; intro Q4 n4 e4 r4
 refine v_region ?_; intro K5 k5
 refine zFieldAddr ⟨?_⟩
 refine zLoad ⟨?_⟩
 refine zFieldAddr ⟨?_⟩
 refine zLoad ⟨?_⟩
 refine zc (eqApplianceS_con fl fl hl) ⟨?_⟩
 refine zUnOp ⟨?_⟩
 refine k5 _ ?_
 refine n4 _ _ (weak_keep [2, 3, 10] _) ?_
 refine zk ⟨?_⟩
 refine v_cond _ rfl ?_ ?_
 ·intro hc0
  exfalso; simp at hc0
 ·intro hc0
  try simp only [zC, reduceCtorEq] at hc0
  refine v_skip ?_
  refine n3 _ _ (weak_keep [2, 3] _) ?_
  refine zk ⟨?_⟩
  refine v_seq ?_; intro Q7 n7 e7 r7
  refine v_seq ?_; intro Q8 n8 e8 r8
  refine v_region ?_; intro K9 k9
  refine zFieldAddr ⟨?_⟩
  refine zLoad ⟨?_⟩
  refine zFieldAddr ⟨?_⟩
  refine zLoad ⟨?_⟩
  refine zc (eqIncidentS_con ins ins hil hin) ⟨?_⟩
  refine zUnOp ⟨?_⟩
  refine k9 _ ?_
  refine n8 _ _ (weak_keep [2, 3, 16] _) ?_
  refine zk ⟨?_⟩
  refine v_cond _ rfl ?_ ?_
  ·intro hc1
   exfalso; simp at hc1
  ·intro hc1
   try simp only [zC, reduceCtorEq] at hc1
   refine v_skip ?_
   refine n7 _ _ (weak_keep [2, 3] _) ?_
   refine zk ⟨?_⟩
   refine v_seq ?_; intro Q11 n11 e11 r11
   refine v_seq ?_; intro Q12 n12 e12 r12
   refine v_region ?_; intro K13 k13
   refine zFieldAddr ⟨?_⟩
   refine zLoad ⟨?_⟩
   refine zFieldAddr ⟨?_⟩
   refine zLoad ⟨?_⟩
   refine zc (eqWantS_con ws ws hwl hwn) ⟨?_⟩
   refine zUnOp ⟨?_⟩
   refine k13 _ ?_
   refine n12 _ _ (weak_keep [22] _) ?_
   refine zk ⟨?_⟩
   refine v_cond _ rfl ?_ ?_
   ·intro hc2
    exfalso; simp at hc2
   ·intro hc2
    try simp only [zC, reduceCtorEq] at hc2
    refine v_skip ?_
    refine n11 _ _ (weak_keep [] _) ?_
    refine zk ⟨?_⟩
    refine v_seq ?_; intro Q15 n15 e15 r15
    refine v_region ?_; intro K16 k16
    refine zAssign ⟨?_⟩
    refine k16 _ ?_
    refine n15 _ _ (weak_keep [4] _) ?_
    refine zk ⟨?_⟩
    refine v_ret ?_
    refine r0 _ ?_
    refine zf ⟨?_⟩
    exact ret_pure rfl rfl (.inl rfl)
end Go.Proofs.Ytdgenniiidgimaa
