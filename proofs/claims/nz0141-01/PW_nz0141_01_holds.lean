import PyProof.Rows.All
import Wide.All
import OpenK.AllK
import Wide.FinOn
import KE.IntTextLaws
import Lean
import PySem.Challenge.RW_nz0141_01
set_option Elab.async false
set_option maxHeartbeats 4000000
namespace Mine
section
open PySem PySem.W PyProof.Rows
set_option maxRecDepth 100000
set_option maxHeartbeats 80000000
noncomputable def pw0 : Program := PySem.Challenge.pw_nz0141_01
noncomputable def view : Program := { PySem.Challenge.pw_nz0141_01 with main := { PySem.Challenge.pw_nz0141_01.main with body := PySem.Challenge.pw_nz0141_01.main.body.take 1 ++ ((PySem.Challenge.pw_nz0141_01.main.body.drop 2).take 2 ++ ((PySem.Challenge.pw_nz0141_01.main.body.drop 5).take 11 ++ PySem.Challenge.pw_nz0141_01.main.body.drop 17)) } }
noncomputable def topQ : {f : Program → World → Nat → Shared → Option Shared // topFrom treeTable = f} := ⟨_, by delta topFrom; rw [PySem.W.Fast.te14082659384304107361, PySem.W.Fast.te14364793385576792824]⟩
theorem left_fast {p q : Program} {loose : List Str} {Xt : Shared → Bool} {α : Type} {Yf : Shared → α} {Ya : World → α} {N : Nat} {g0 : Bool} (e : opening p = plainProg p.main.scope.names) (hN : Nat.ble 600 N = true) (f : ∀ s, fenceModules? p s = some s)
    (h : ∀ (w : World) (os : OsState), (topQ.1 p w N ⟨boot_heap w.params, Array.mk [], boot_drawn, boot_toks, os⟩).map (fun s => (PySem.W.Fast.tw4187177175401517315 q loose (importedModules p.main.body) Xt g0 s, Yf s)) = some (openGood q loose, Ya w)) : LeftO p q loose Xt Yf Ya N g0 := fun w => by
  obtain ⟨⟨h', gs, d, k, os⟩, e1, e2⟩ := Option.map_eq_some_iff.mp (boot_open e hN f w)
  obtain ⟨rfl, rfl, rfl, rfl⟩ : h' = boot_heap w.params ∧ gs = Array.mk [] ∧ d = boot_drawn ∧ k = boot_toks := by simpa only [Prod.mk.injEq] using e2
  unfold openEnds
  rw [e1, topQ.2, PySem.W.Fast.te4187177175401517315]
  exact h w os
theorem open0 : opening (OpenLaw.row PySem.Challenge.rw_nz0141_01).prog = plainProg (Program.main (OpenLaw.row PySem.Challenge.rw_nz0141_01).prog).scope.names := by kernel_rfl
theorem fence0 : ∀ s, fenceModules? (OpenLaw.row PySem.Challenge.rw_nz0141_01).prog s = some s := fun s => by kernel_rfl
theorem head_of {d : DefRec} {kwd : List (Str × Expr)} (H : Hook) (hl : ∀ (w : World) (os : OsState), (topQ.1 (OpenLaw.row PySem.Challenge.rw_nz0141_01).prog w 4690 ⟨boot_heap w.params, Array.mk [], boot_drawn, boot_toks, os⟩).map (fun s => (PySem.W.Fast.tw4187177175401517315 view [] (importedModules (Program.main (OpenLaw.row PySem.Challenge.rw_nz0141_01).prog).body) (fun s => xlAt view [] s && recOk (RowW.records (OpenRow.toRowW (OpenLaw.row PySem.Challenge.rw_nz0141_01))) s) true s, H.obs s)) = some (openGood view [], H.val w))
    (hdef : defOf view (OpenLaw.row PySem.Challenge.rw_nz0141_01).name = some (d, kwd)) (hp : (OpenLaw.row PySem.Challenge.rw_nz0141_01).prog.theDef (OpenLaw.row PySem.Challenge.rw_nz0141_01).name = some (d.params, d.body, d.scope)) (hk : kwWritten? d.params.kwonlyargs d.params.kw_defaults = some kwd)
    (k1 : (OpenLaw.row PySem.Challenge.rw_nz0141_01).wellSaid = true) (hw : (OpenLaw.row PySem.Challenge.rw_nz0141_01).toRowW.promised) (hc : WalkO view [] (XL view []) H.says (OpenLaw.row PySem.Challenge.rw_nz0141_01).toRowW d kwd fun f vs => PySem.call f vs) : (OpenLaw.row PySem.Challenge.rw_nz0141_01).Holds :=
  holds_open (left_fast (p := (OpenLaw.row PySem.Challenge.rw_nz0141_01).prog) (q := view) (loose := []) (Xt := (fun s => xlAt view [] s && recOk (RowW.records (OpenRow.toRowW (OpenLaw.row PySem.Challenge.rw_nz0141_01))) s)) (Yf := H.obs) (Ya := H.val) (N := 4690) (g0 := true) open0 (by decide) fence0 hl) H.of H.keeps (fun s e => xl_of s (Bool.and_eq_true_iff.mp e).1) XL.keeps hdef hp hk (fun s e => recFacts_of (Bool.and_eq_true_iff.mp e).2) (by rfl) k1 (by decide +kernel) ⟨rfl, rfl, rfl, rfl, rfl, by decide +kernel⟩ hw hc
local macro_rules | `(tactic| o_head $H) => `(tactic| (refine head_of $H (by intro w os; kernel_rfl) (by rfl) (by rfl) (by rfl) (by assumption) ?hw ?hc))
theorem said0 : OpenLaw.wellSaid PySem.Challenge.rw_nz0141_01 = true := (congrFun PySem.W.Fast.te9446332074065402090 PySem.Challenge.rw_nz0141_01).trans (by kernel_rfl)
local macro_rules | `(tactic| o_law) => `(tactic| refine holds_law said0 fun said => ?_)
open_top hd for PySem.Challenge.rw_nz0141_01
end
section
set_option linter.unusedVariables false
universe u1 u2 u3 u4 u5 u6 u7 u8 u9
structure And3 (a1 a2 a3 : Prop) : Prop where
  intro ::
  h1 : a1
  h2 : a2
  h3 : a3
inductive And4 (a1 a2 a3 a4 : Prop) : Prop
  | intro (h1 : a1) (h2 : a2) (h3 : a3) (h4 : a4) : And4 a1 a2 a3 a4
inductive And5 (a1 a2 a3 a4 a5 : Prop) : Prop
  | intro (h1 : a1) (h2 : a2) (h3 : a3) (h4 : a4) (h5 : a5) : And5 a1 a2 a3 a4 a5
inductive And6 (a1 a2 a3 a4 a5 a6 : Prop) : Prop
  | intro (h1 : a1) (h2 : a2) (h3 : a3) (h4 : a4) (h5 : a5) (h6 : a6) : And6 a1 a2 a3 a4 a5 a6
inductive And7 (a1 a2 a3 a4 a5 a6 a7 : Prop) : Prop
  | intro (h1 : a1) (h2 : a2) (h3 : a3) (h4 : a4) (h5 : a5) (h6 : a6) (h7 : a7) : And7 a1 a2 a3 a4 a5 a6 a7
inductive And8 (a1 a2 a3 a4 a5 a6 a7 a8 : Prop) : Prop
  | intro (h1 : a1) (h2 : a2) (h3 : a3) (h4 : a4) (h5 : a5) (h6 : a6) (h7 : a7) (h8 : a8) : And8 a1 a2 a3 a4 a5 a6 a7 a8
inductive And9 (a1 a2 a3 a4 a5 a6 a7 a8 a9 : Prop) : Prop
  | intro (h1 : a1) (h2 : a2) (h3 : a3) (h4 : a4) (h5 : a5) (h6 : a6) (h7 : a7) (h8 : a8) (h9 : a9) : And9 a1 a2 a3 a4 a5 a6 a7 a8 a9
inductive And13 (a1 a2 a3 a4 a5 a6 a7 a8 a9 a10 a11 a12 a13 : Prop) : Prop
  | intro (h1 : a1) (h2 : a2) (h3 : a3) (h4 : a4) (h5 : a5) (h6 : a6) (h7 : a7) (h8 : a8) (h9 : a9) (h10 : a10) (h11 : a11) (h12 : a12) (h13 : a13) : And13 a1 a2 a3 a4 a5 a6 a7 a8 a9 a10 a11 a12 a13
inductive Ex2 {t1 : Sort u1} {t2 : Sort u2} (p : t1 → t2 → Prop) : Prop
  | intro (x1 : t1) (x2 : t2) (h : p x1 x2) : Ex2 p
inductive Ex3 {t1 : Sort u1} {t2 : Sort u2} {t3 : Sort u3} (p : t1 → t2 → t3 → Prop) : Prop
  | intro (x1 : t1) (x2 : t2) (x3 : t3) (h : p x1 x2 x3) : Ex3 p
inductive Ex4 {t1 : Sort u1} {t2 : Sort u2} {t3 : Sort u3} {t4 : Sort u4} (p : t1 → t2 → t3 → t4 → Prop) : Prop
  | intro (x1 : t1) (x2 : t2) (x3 : t3) (x4 : t4) (h : p x1 x2 x3 x4) : Ex4 p
inductive Ex5 {t1 : Sort u1} {t2 : Sort u2} {t3 : Sort u3} {t4 : Sort u4} {t5 : Sort u5} (p : t1 → t2 → t3 → t4 → t5 → Prop) : Prop
  | intro (x1 : t1) (x2 : t2) (x3 : t3) (x4 : t4) (x5 : t5) (h : p x1 x2 x3 x4 x5) : Ex5 p
inductive Ex6 {t1 : Sort u1} {t2 : Sort u2} {t3 : Sort u3} {t4 : Sort u4} {t5 : Sort u5} {t6 : Sort u6} (p : t1 → t2 → t3 → t4 → t5 → t6 → Prop) : Prop
  | intro (x1 : t1) (x2 : t2) (x3 : t3) (x4 : t4) (x5 : t5) (x6 : t6) (h : p x1 x2 x3 x4 x5 x6) : Ex6 p
inductive Ex9 {t1 : Sort u1} {t2 : Sort u2} {t3 : Sort u3} {t4 : Sort u4} {t5 : Sort u5} {t6 : Sort u6} {t7 : Sort u7} {t8 : Sort u8} {t9 : Sort u9} (p : t1 → t2 → t3 → t4 → t5 → t6 → t7 → t8 → t9 → Prop) : Prop
  | intro (x1 : t1) (x2 : t2) (x3 : t3) (x4 : t4) (x5 : t5) (x6 : t6) (x7 : t7) (x8 : t8) (x9 : t9) (h : p x1 x2 x3 x4 x5 x6 x7 x8 x9) : Ex9 p
theorem no_ns {α : Type u1} {a : α} {P : Prop} (h : none = some a) : P := nomatch h
theorem no_sn {α : Type u1} {a : α} {P : Prop} (h : some a = none) : P := nomatch h
theorem ite_t {P Q : Prop} (h : P) : if true = true then P else Q := by rw [if_pos rfl]; exact h
theorem ite_f {P Q : Prop} (h : Q) : if false = true then P else Q := by rw [if_neg Bool.false_ne_true]; exact h
theorem arPred (n : Nat) : ((-1 : Int) + ((n + 1 : Nat) : Int)).toNat = n := by
  show ((-1 : Int) + ((n : Int) + 1)).toNat = n
  rw [Int.add_comm (n : Int) 1, Int.neg_add_cancel_left]; rfl
theorem arT2 {z : Int} (h : z < 2) : (1 + z).toNat ≤ 2 := Int.toNat_le.mpr (by rw [Int.add_comm]; exact h)
theorem arT3 {z : Int} (h : z < 3) : z.toNat ≤ 2 := Int.toNat_le.mpr (Int.le_of_lt_add_one h)
theorem arT43 {z : Int} (h : z < 4) : z.toNat ≤ 3 := Int.toNat_le.mpr (Int.le_of_lt_add_one h)
theorem arT4 {z : Int} (h : z < 4) : (1 + z).toNat ≤ 4 := Int.toNat_le.mpr (by rw [Int.add_comm]; exact h)
theorem arB {v0 : Nat} {v1 : Int} {v2 v3 : Nat} {v4 : Int} {v5 v6 v7 : Nat} (h0 : v0 ≤ 500) (h1 : v1 < 3) (h2 : v2 = v1.toNat) (h3 : v3 ≤ v0 + 1 + v2) (h4 : v4 < 4) (h5 : v5 + (v6 + 1) = (1 + v4).toNat) (h6 : v7 ≤ v3 + 1 + 31 * v5) : v7 ≤ 597 := by
  have a : v3 ≤ 500 + 1 + 2 := Nat.le_trans h3 (Nat.add_le_add (Nat.succ_le_succ h0) (Nat.le_trans (Nat.le_of_eq h2) (arT3 h1)))
  have b : v5 ≤ 3 := Nat.le_of_succ_le_succ (Nat.le_trans (Nat.succ_le_succ (Nat.le_add_right _ v6)) (Nat.le_trans (Nat.le_of_eq h5) (arT4 h4)))
  exact Nat.le_trans h6 (Nat.add_le_add (Nat.succ_le_succ a) (Nat.mul_le_mul_left 31 b))
theorem arC {v0 : Nat} {v1 : Int} {v2 v3 v4 : Nat} (h0 : v0 ≤ 900) (h1 : v1 < 2) (h2 : v2 + (v3 + 1) = (1 + v1).toNat) (h3 : v4 ≤ v0 + 1 + 3 * v2) : v4 ≤ 904 := by
  have b : v2 ≤ 1 := Nat.le_of_succ_le_succ (Nat.le_trans (Nat.succ_le_succ (Nat.le_add_right _ v3)) (Nat.le_trans (Nat.le_of_eq h2) (arT2 h1)))
  exact Nat.le_trans h3 (Nat.add_le_add (Nat.succ_le_succ h0) (Nat.mul_le_mul_left 3 b))
theorem ar3 {v0 v1 v2 : Nat} (h0 : v0 + v1 = v2) (h1 : v1 < v2) : v0 - 1 < v0 := by lia -abstractProof
theorem ar4 {v0 v1 v2 : Nat} (h0 : v0 + v1 = v2) (h1 : v1 < v2) : v0 - 1 + (v1 + 1) = v2 := by lia -abstractProof
theorem ar5 {v0 v1 v2 : Nat} (h0 : v0 + v1 = v2) (h1 : ¬v1 < v2) : v1 = v2 := by lia -abstractProof
theorem ar6 {v0 v1 : Nat} (h0 : v0 + (v1 + 1) < 1000) : v0 + 1 + v1 < 1000 := by rw [Nat.add_right_comm]; exact h0
theorem ar7 {v0 v1 : Nat} (h0 : v0 + 12 * (v1 + 1) < 9900) : v0 + 3 + 12 * v1 < 9900 := by lia -abstractProof
theorem ar12 {v0 v1 v2 v3 v4 : Nat} (h0 : v0 ≤ v1) (h1 : v2 + v3 = v0) (h2 : v4 ≤ v3) : v4 ≤ v1 := by lia -abstractProof
theorem ar14 {v0 v1 v2 : Nat} (h0 : v0 ≤ v1) (h1 : v2 ≤ v1) : Max.max v0 v2 ≤ v1 := by lia -abstractProof
theorem ar17 {v0 : Int} (h0 : 0 < v0) : v0 = Max.max v0 0 := by lia -abstractProof
theorem ar18 {v0 : Int} (h0 : ¬0 < v0) : 0 = (↑v0.toNat : Int) := by lia -abstractProof
theorem ar19 {v0 v1 : Nat} (h0 : v0 = v1 + (0 + 1)) : -(↑v0 : Int) ≤ (-1 : Int) := by lia -abstractProof
theorem ar20 {v0 v1 : Nat} (h0 : v0 = v1 + (0 + 1)) : ((-1 : Int) + (↑v0 : Int)).toNat = v1 := by rw [h0]; exact arPred v1
theorem ar21 {v0 : Nat} (h0 : 0 < v0) : -(↑v0 : Int) ≤ (-1 : Int) := by lia -abstractProof
theorem ar22 {v0 : Nat} : ((-1 : Int) + (↑v0 : Int)).toNat = v0 - 1 := by cases v0 with | zero => rfl | succ n => exact arPred n
theorem ar24 {v0 v1 : Nat} (h0 : v0 = v1 + (0 + 1)) : 0 < v0 := by simp [h0]
theorem ar25 {v0 v1 : Nat} (h0 : v0 = v1 + (0 + 1)) : v0 - 1 = v1 := by subst h0; rfl
theorem ar26 {v0 v1 v2 : Nat} (h0 : v0 < v1) (h1 : v2 = v0 + (0 + 1)) : v2 ≤ v1 := by subst h1; exact h0
theorem ar27 {v0 v1 : Nat} (h0 : v0 = v1 + (0 + 1)) : v1 < v0 := by subst h0; exact Nat.le_refl _
theorem ar28 {v0 v1 : Nat} (h0 : v0 = v1 + (0 + 1)) : v0 ≤ v1 + 1 := by subst h0; exact Nat.le_refl _
theorem ar31 {v0 v1 v2 : Nat} (h0 : v0 + (v1 + 1) < 1000) (h1 : v2 = v0 + 1) : v2 + v1 < 1000 := by lia -abstractProof
theorem ar32 {v0 v1 v2 : Nat} (h0 : v0 + 12 * (v1 + 1) < 9900) (h1 : v2 = v0 + 1) : v2 + 12 * v1 < 9900 := by lia -abstractProof
theorem ar35 {v0 : Nat} : v0 + 1 ≠ 0 := by lia -abstractProof
theorem ar36 {v0 : Nat} : v0 ≠ v0 + 1 := by simp
theorem ar37 {v0 v1 : Nat} (h0 : 0 < v0) : 1 ≤ v1 + v0 := by lia -abstractProof
theorem ar39 {v0 v1 v2 : Nat} (h0 : v0 ≤ v1 + 1 + 1 + v2) : v0 ≤ v1 + 1 + (v2 + 1) := by lia -abstractProof
theorem ar41 {v0 : Nat} (h0 : v0 = 16777216) : 1 ≤ v0 := by simp [h0]
theorem ar42 {v0 v1 v2 v3 : Nat} (h0 : v0 = 16777216) (h1 : v1 + v2 + (v3 + 1) ≤ 100000) : v1 + 1 ≤ v0 := by lia -abstractProof
theorem ar43 {v0 v1 v2 : Nat} (h0 : v0 + v1 + (v2 + 1) ≤ 100000) : v0 + 1 + v2 ≤ 100000 := by lia -abstractProof
theorem ar44 {v0 v1 v2 v3 : Nat} (h0 : v0 = 16777216) (h1 : v1 + v2 + (v3 + 1) ≤ 100000) : v2 + 1 ≤ v0 := by lia -abstractProof
theorem ar45 {v0 v1 v2 : Nat} (h0 : v0 + v1 + (v2 + 1) ≤ 100000) : v0 + (v1 + 1) + v2 ≤ 100000 := by lia -abstractProof
theorem ar46 {v0 v1 v2 : Nat} (h0 : v0 ≤ 100000) (h1 : v1 = 16777216) (h2 : v2 ≤ 0 + 1 + v0) : v2 ≤ v1 := by lia -abstractProof
theorem ar47 {v0 v1 : Nat} (h0 : v0 ≤ 100000) (h1 : v1 = 16777216) : v0 ≤ v1 := by rw [h1]; exact Nat.le_trans h0 (by decide)
theorem ar48 {v0 : Nat} (h0 : v0 = 16777216) : 2 ≤ v0 := by simp [h0]
theorem ar49 {v0 : Nat} (h0 : v0 + 12 * 1 < 9900) : v0 + 1 + 0 < 9900 := by lia -abstractProof
theorem ar50 {v0 : Nat} : -(↑v0 : Int) ≤ 0 := by simp
theorem ar51 {v0 : Nat} (h0 : 0 < v0) : 0 < (↑v0 : Int) := by simpa using h0
theorem ar52 {v0 v1 v2 : Nat} (h0 : v0 + (v1 + 1) ≤ v2) : v1 ≤ v2 := by lia -abstractProof
theorem ar55 {v0 v1 : Nat} (h0 : v0 ≤ 0 + 1 + v1) : v0 ≤ v1 + 1 := by rw [Nat.add_comm]; exact h0
theorem ar58 {v0 : Nat} (h0 : v0 + 12 * 3 < 9900) : v0 + 1 < 9900 := by lia -abstractProof
theorem ar59 {v0 v1 v2 : Nat} (h0 : v0 ≤ 100000) (h1 : v1 = 16777216) (h2 : v2 ≤ v0 + 1) : v2 ≤ v1 := by lia -abstractProof
theorem ar60 {v0 : Nat} (h0 : v0 + 12 * 3 < 9900) : v0 + 1 + 0 < 9900 := by lia -abstractProof
theorem ar62 {v0 v1 v2 : Nat} (h0 : v0 + v1 + 1 < v2 + 1) : v1 < v2 := by lia -abstractProof
theorem ar63 {v0 v1 v2 v3 : Nat} (h0 : v0 ≤ v1 + 1 + v2) : v0 ≤ v1 + (v3 + v2 + 1) := by lia -abstractProof
theorem ar64 {v0 v1 v2 : Nat} (h0 : v0 ≤ v1 + 1 + v2) : v0 ≤ v1 + (v2 + 1) := by lia -abstractProof
theorem ar66 {v0 v1 : Nat} (h0 : v0 < v1) : v1 = v1 - 1 + 1 := by lia -abstractProof
theorem ar67 {v0 v1 : Nat} (h0 : v0 < v1) : (↑v0 : Int) < (↑v1 : Int) := by simpa using h0
theorem ar68 {v0 : Nat} : 0 ≤ (↑v0 : Int) := by simp
theorem ar70 {v0 v1 : Nat} (h0 : v0 < v1) : v1 - (v1 - (v0 + 1)) = v0 + 1 := by rw [Nat.sub_sub_self h0]
theorem ar71 {v0 : Nat} (h0 : ¬0 < v0) : ¬0 < (↑v0 : Int) := by simp [h0]
theorem ar74 {v0 v1 v2 : Nat} (h0 : v0 + 1 ≤ v1 + 1) (h1 : v2 + 1 < v0 + 1) : v2 < v1 := by lia -abstractProof
theorem ar75 {v0 v1 v2 : Nat} (h0 : v0 ≤ v1) (h1 : v2 + 1 = v0) : v2 + 4 ≤ v1 + 3 := by lia -abstractProof
theorem ar76 {v0 v1 v2 v3 : Nat} (h0 : v0 = v1 + (v2 + v3)) : v0 - v3 = v1 + v2 := by rw [h0, ← Nat.add_assoc, Nat.add_sub_cancel]
theorem ar78 {v0 v1 v2 v3 v4 : Nat} (h0 : v0 ≤ 100000) (h1 : v1 = 16777216) (h2 : v2 + (v3 + 1) ≤ v0) (h3 : v4 ≤ v3) : v4 ≤ v1 := by lia -abstractProof
theorem ar79 {v0 v1 v2 v3 : Nat} (h0 : v0 ≤ 100000) (h1 : v1 = 16777216) (h2 : v2 + (v3 + 1) ≤ v0) : v2 ≤ v1 := by lia -abstractProof
theorem ar81 {v0 v1 v2 v3 : Nat} (h0 : v0 + 1 < v1 + 1) (h1 : v0 = v2 + v3) : v3 < v1 := by lia -abstractProof
theorem ar82 {v0 v1 v2 v3 : Nat} (h0 : v0 ≤ v1) (h1 : v2 ≤ v0) (h2 : v3 ≤ v2) : v3 ≤ v1 := by lia -abstractProof
theorem ar83 {v0 v1 v2 v3 v4 : Nat} (h0 : v0 + (v1 + 1) ≤ v2) (h1 : v1 = v3 + v4) : v0 + 1 + v4 ≤ v2 := by lia -abstractProof
theorem ar87 {v0 v1 : Nat} (h0 : ¬v0 < v1) : v1 ≤ v0 := by simpa using h0
theorem ar88 {v0 v1 : Nat} (h0 : ¬v0 < v1) : ¬(↑v0 : Int) < (↑v1 : Int) := by simp [h0]
theorem ar90 {v0 : Nat} (h0 : ¬0 < v0) : v0 = 0 := by simpa using h0
theorem ar91 {v0 v1 : Nat} (h0 : v0 ≤ v1) (h1 : ¬v0 < v1) : v1 = v0 := by lia -abstractProof
theorem ar92 {v0 v1 v2 v3 : Nat} (h0 : v0 ≤ v1 * v2) (h1 : v3 ≤ v1) : v3 + v0 ≤ v1 * v2 + v1 * 1 := by lia -abstractProof
theorem ar93 {v0 v1 : Nat} (h0 : v0 ≤ 30000) (h1 : v1 = 16777216) : v0 ≤ v1 := by rw [h1]; exact Nat.le_trans h0 (by decide)
theorem ar94 {v0 v1 : Nat} (h0 : v0 ≤ 3 * v1) (h1 : v1 ≤ 30000) : v0 + v1 * 64 ≤ 16777216 := by lia -abstractProof
theorem ar98 {v0 : Nat} : v0 + 4 ≤ v0 + 5 := by simp
theorem ar99 {v0 v1 v2 : Nat} (h0 : v0 ≤ 100000 - 1) (h1 : v1 ≤ v0 + 1) (h2 : v2 ≤ v1) : (↑v2 : Int) < 2 ^ 63 := by lia -abstractProof
theorem ar100 {v0 v1 : Nat} (h0 : v0 = 16777216) (h1 : v1 ≤ 100000) : v1 ≤ v0 := by exact Nat.le_trans h1 (by rw [h0]; decide)
theorem ar101 {v0 v1 : Nat} (h0 : v0 ≤ v1) (h1 : v1 ≤ 100000) : (↑v0 : Int) < 2 ^ 63 := by lia -abstractProof
theorem ar102 {v0 v1 : Nat} (h0 : v0 = 16777216) (h1 : v1 ≤ 100000) : v1 + 2 ≤ v0 := by lia -abstractProof
theorem ar104 {v0 : Nat} (h0 : v0 + 12 * 4 < 9900) : v0 + 1 < 9900 := by lia -abstractProof
theorem ar107 {v0 v1 : Nat} (h0 : v0 = 16777216) (h1 : v1 ≤ 100000) : 0 + v1 ≤ v0 := by lia -abstractProof
theorem ar111 {v0 : Nat} (h0 : v0 ≤ 100000) : 0 + v0 ≤ 100000 := by rw [Nat.add_comm]; exact h0
theorem ar114 {v0 : Nat} : ¬(↑v0 : Int) + 1 + 1 = 1 := by lia -abstractProof
theorem ar115 {v0 : Nat} : ¬(↑v0 : Int) + 2 = 1 := by lia -abstractProof
theorem ar116 {v0 v1 v2 : Nat} (h0 : v0 = 16777216) (h1 : v1 + (v2 + 1) ≤ 100001) : v1 ≤ v0 := by rw [h0]; exact Nat.le_trans (Nat.le_trans (Nat.le_add_right _ _) h1) (by decide)
theorem ar118 {v0 v1 : Nat} (h0 : v0 + (v1 + 1) ≤ 100001) : 0 + v1 ≤ 100000 := by lia -abstractProof
theorem ar121 {v0 : Nat} : 2 ≤ (↑v0 : Int) + 2 := by lia -abstractProof
theorem ar122 {v0 v1 v2 : Nat} (h0 : v0 = 16777216) (h1 : v1 + 1 + 1 + (v2 + 1) ≤ 100001) : v1 + 1 < v0 := by rw [h0]; exact Nat.le_trans (Nat.le_trans (Nat.le_add_right _ _) h1) (by decide)
theorem ar123 {v0 v1 v2 : Nat} (h0 : v0 = 16777216) (h1 : v1 + (v2 + 1) ≤ 100000) : v1 ≤ v0 := by rw [h0]; exact Nat.le_trans (Nat.le_trans (Nat.le_add_right _ _) h1) (by decide)
theorem ar124 {v0 v1 v2 : Nat} (h0 : v0 = 16777216) (h1 : v1 + 1 + 1 + (v2 + 1) ≤ 100001) : v1 + 1 ≤ v0 := by lia -abstractProof
theorem ar125 {v0 v1 : Nat} (h0 : v0 + 1 + 1 + (v1 + 1) ≤ 100001) : v0 + 1 + v1 ≤ 100001 := by lia -abstractProof
theorem ar128 {v0 v1 v2 : Nat} (h0 : v0 = 16777216) (h1 : v1 + 1 + (v2 + 1) ≤ 100001) : v1 + 1 ≤ v0 := by rw [h0]; exact Nat.le_trans (Nat.le_trans (Nat.le_add_right _ _) h1) (by decide)
theorem ar130 {v0 : Nat} : -2 ^ 62 ≤ (↑v0 : Int) := by simp
theorem ar131 {v0 : Nat} : -2 ^ 63 ≤ (↑v0 : Int) := by simp
theorem ar132 {v0 v1 : Nat} (h0 : v0 ≤ 100000) (h1 : v1 < v0) : (↑v1 : Int) < 2 ^ 63 := by lia -abstractProof
theorem ar134 {v0 : Nat} : -2 ^ 63 ≤ (↑(v0 - 1) : Int) := by simp
theorem ar135 {v0 v1 : Nat} (h0 : v0 ≤ 100000) (h1 : v1 < v0) : (↑(v1 - 1) : Int) < 2 ^ 63 := by exact Int.ofNat_lt.mpr (Nat.lt_of_le_of_lt (Nat.sub_le _ _) (Nat.lt_of_lt_of_le h1 (Nat.le_trans h0 (by decide))))
theorem ar140 {v0 : Nat} (h0 : v0 + 12 * 4 < 9900) : v0 + 1 + 0 < 9900 := by lia -abstractProof
theorem ar144 {v0 : Nat} (h0 : v0 = 16777216) : 4 ≤ v0 := by simp [h0]
theorem ar147 {v0 v1 : Nat} (h0 : v0 ≤ 100000) (h1 : v1 ≤ 1921) : 0 + v0 + 14 + v1 + 21 ≤ 16777216 := by exact Nat.le_trans (Nat.add_le_add_right (Nat.add_le_add (Nat.add_le_add_right (Nat.add_le_add_left h0 _) _) h1) _) (by decide)
theorem ar150 {v0 : Nat} : ¬(↑v0 : Int) + 1 = 4 ↔ ¬v0 = 3 := by lia -abstractProof
theorem ar151 {v0 : Nat} : ¬(↑v0 : Int) = 3 ↔ ¬v0 = 3 := by lia -abstractProof
theorem ar159 {v0 v1 : Nat} (h0 : v0 - v1 = 0) : v0 ≤ v1 := by lia -abstractProof
theorem ar160 {v0 v1 : Nat} (h0 : v0 ≥ v1) : v1 - v0 = 0 := by simp [h0]
theorem ar161 {v0 v1 : Nat} (h0 : v0 < v1) : v1 - v0 = v1 - (v0 + 1) + 1 := by rw [← Nat.sub_sub, Nat.sub_add_cancel (Nat.sub_pos_of_lt h0)]
theorem ar166 {v0 : Nat} : (↑v0 : Int) + 1 = 3 ↔ v0 = 2 := by lia -abstractProof
theorem ar169 {v0 v1 v2 : Nat} (h0 : v0 ≤ v1) (h1 : v2 ≤ v0 + 1) : v2 ≤ v1 + 1 := by lia -abstractProof
theorem ar170 {v0 v1 v2 : Nat} (h0 : v0 ≤ v1 + 1) (h1 : v2 = v0) : v2 ≤ v1 + 2 := by lia -abstractProof
theorem ar174 {v0 v1 v2 : Nat} (h0 : v0 ≤ 50000) (h1 : v1 ≤ v0) (h2 : v2 ≤ v1 + 1) : v2 ≤ 100000 := by lia -abstractProof
theorem ar176 {v0 v1 v2 v3 : Nat} (h0 : v0 ≤ v1 + 1) (h1 : v2 = v3) : v0 ≤ v1 + 1 ∧ v2 ≤ v3 + 1 := by lia -abstractProof
theorem ar177 {v0 v1 v2 v3 v4 v5 v6 : Nat} (h0 : v0 ≤ v1 + 1) (h1 : v2 ≤ v3 + 1) (h2 : v4 ≤ v0 + v5) (h3 : v6 ≤ v2 + v5) : v4 ≤ v1 + (v5 + 1) ∧ v6 ≤ v3 + (v5 + 1) := by lia -abstractProof
theorem ar178 {v0 v1 v2 : Nat} (h0 : v0 = 16777216) (h1 : v1 ≤ 50000) (h2 : v2 ≤ 0 + 1 + v1) : v2 ≤ v0 := by lia -abstractProof
theorem ar179 {v0 : Nat} (h0 : v0 = 16777216) : 3 ≤ v0 := by simp [h0]
theorem ar181 {v0 : Nat} (h0 : 1 ≤ v0) : 2 * 1 + 5 ≤ 11 * v0 := by lia -abstractProof
theorem ar182 {v0 v1 : Nat} (h0 : 2 * v0 + 5 ≤ 11 * v1) : v0 ≤ (11 * v1 - 5) / 2 := by exact (Nat.le_div_iff_mul_le (by decide)).mpr (by rw [Nat.mul_comm]; exact Nat.le_sub_of_add_le h0)
theorem ar183 {v0 v1 v2 v3 : Nat} (h0 : v0 ≤ 3) (h1 : v1 ≤ v2 + v0 * 1) (h2 : v2 ≤ (11 * v3 - 5) / 2 * v0) (h3 : 1 ≤ v3) (h4 : (11 * v3 - 5) / 2 * v0 ≤ (11 * v3 - 5) / 2 * 3) : 2 * (1 + v1 + 1) + 5 ≤ 11 * (v3 * 3) := by lia -abstractProof
theorem ar184 {v0 v1 : Nat} (h0 : 2 * v0 + 5 ≤ 11 * v1) (h1 : v1 ≤ 3 ^ 4) : v0 ≤ 450 := by lia -abstractProof
theorem ar185 {v0 v1 : Nat} (h0 : v0 = 16777216) (h1 : v1 ≤ 3) : v1 ≤ v0 := by exact Nat.le_trans h1 (by rw [h0]; decide)
theorem ar187 {v0 v1 : Nat} (h0 : v0 ≤ 3) (h1 : v1 ≤ 450 * v0) : v1 + v0 * 64 ≤ 16777216 := by lia -abstractProof
theorem ar188 {v0 v1 v2 : Nat} (h0 : v0 + v1 + v2 ≤ 450) : v0 + v1 ≤ 16777216 := by lia -abstractProof
theorem ar191 {v0 : Int} (h0 : 0 < v0) : v0 ≠ 0 := by lia -abstractProof
theorem ar192 {v0 v1 : Nat} (h0 : (↑v0 : Int) < (↑v1 : Int)) : v0 < v1 := by simpa using h0
theorem ar194 : (0 : Int) < (6 : Int) := by simp
theorem ar195 : (0 : Int) < (3 : Int) := by simp
theorem ar197 {v0 v1 : Nat} (h0 : 2 ≤ v0) : v1 + 1 ≤ v1 + v0 := by lia -abstractProof
theorem ar198 {v0 v1 : Nat} (h0 : v0 + v1 ≤ 1000) (h1 : 2 ≤ v1) : v0 + 1 ≤ 1000 := by lia -abstractProof
theorem ar199 {v0 : Int} (h0 : 0 ≤ v0) (h1 : v0 < 9) : (v0 - 4).natAbs ≤ 9 := by obtain ⟨n, rfl⟩ := Int.eq_ofNat_of_zero_le h0; exact (by decide : ∀ n : Nat, n < 9 → ((n : Int) - 4).natAbs ≤ 9) n (Int.ofNat_lt.mp h1)
theorem ar200 {v0 v1 : Nat} (h0 : 2 ≤ v0) : v1 + 1 + 1 ≤ v1 + v0 := by lia -abstractProof
theorem ar201 {v0 : Int} (h0 : 0 ≤ v0) (h1 : v0 < 4) : v0 = 0 ∨ v0 = 1 ∨ v0 = 2 ∨ v0 = 3 := by lia -abstractProof
theorem ar202 {v0 : Int} {v1 : Nat} (h0 : 0 ≤ v0) (h1 : v0 < 3) (h2 : ¬v0 = 0) (h3 : ¬v0 = 1) (h4 : ¬v0 = 2) : 0 < v1 := by lia -abstractProof
theorem ar207 {v0 : Nat} {v1 : Int} (h0 : v0 = 16777216) (h1 : v1 < 4) : v1 ≤ (↑v0 : Int) := by lia -abstractProof
theorem ar208 {v0 : Nat} {v1 : Int} {v2 : Nat} (h0 : v0 = 16777216) (h1 : v1 < 4) (h2 : v2 = v1.toNat) : v2 ≤ v0 := by rw [h0, h2]; exact Nat.le_trans (arT43 h1) (by decide)
theorem ar209 {v0 : Int} {v1 : Nat} (h0 : v0 < 4) (h1 : v1 = v0.toNat) : v1 ≤ 3 := by lia -abstractProof
theorem ar210 {v0 v1 v2 v3 : Nat} (h0 : v0 ≤ v1 + 2 + v2 * v3) (h1 : v2 * v3 ≤ 3 * v3) : v0 ≤ v1 + (2 + 3 * v3) := by lia -abstractProof
theorem ar211 {v0 : Nat} : (↑(v0 + 1) : Int) - 1 = (↑v0 : Int) := by simp
theorem ar212 {v0 : Int} {v1 v2 : Nat} (h0 : v0 < 4) (h1 : v1 + (v2 + 1) = v0.toNat) : v1 + 1 ≤ 3 := by have a := arT43 h0; rw [← h1] at a; exact Nat.le_trans (Nat.succ_le_succ (Nat.le_add_right _ _)) a
theorem ar213 {v0 v1 v2 v3 : Nat} (h0 : v0 + (2 + 3 * v1) ≤ 1000) (h1 : v2 ≤ v0 + 2 + v3 * v1) (h2 : v3 * v1 + v1 ≤ 3 * v1) : v2 + v1 ≤ 1000 := by lia -abstractProof
theorem ar215 {v0 v1 : Nat} {v2 : Int} (h0 : v0 + (v1 + 1) = v2.toNat) : v0 + 1 + v1 = v2.toNat := by rw [Nat.add_right_comm]; exact h0
theorem ar216 {v0 v1 v2 v3 v4 : Nat} (h0 : v0 ≤ v1 + 2 + v2 * v3) (h1 : v4 ≤ v0 + v3) : v4 ≤ v1 + 2 + (v2 * v3 + v3) := by lia -abstractProof
theorem ar218 {v0 : Nat} (h0 : v0 + 12 * 1 < 9900) : v0 + 1 < 9900 := by lia -abstractProof
theorem ar219 {v0 v1 : Nat} (h0 : v0 ≤ 10) (h1 : v1 = 16777216) : v0 ≤ v1 := by rw [h1]; exact Nat.le_trans h0 (by decide)
theorem ar220 {v0 v1 : Nat} (h0 : v0 ≤ 10) (h1 : v1 ≤ 2 * v0) : v1 + v0 * 64 ≤ 16777216 := by lia -abstractProof
theorem ar221 {v0 v1 : Nat} (h0 : v0 ≤ 2) (h1 : v1 ≤ 2) : 5 + v0 + 1 + v1 + 6 ≤ 20 := by exact Nat.le_trans (Nat.add_le_add_right (Nat.add_le_add (Nat.add_le_add_right (Nat.add_le_add_left h0 _) _) h1) _) (by decide)
theorem ar222 {v0 v1 v2 : Nat} (h0 : v0 ≤ 4) (h1 : v1 ≤ v2 + v0 * 1) (h2 : v2 ≤ 2 * v0) : v1 ≤ 12 := by lia -abstractProof
theorem ar224 {v0 v1 v2 v3 v4 : Nat} (h0 : v0 ≤ 18) (h1 : v1 ≤ 12) (h2 : v2 ≤ 12) (h3 : v3 ≤ 450) (h4 : v4 ≤ v0 + (v1 + (v2 + (v3 + 0))) + (0 + 1 + 1 + 1 + 1) * 3) : v4 ≤ 600 := by lia -abstractProof
theorem ar225 {v0 : Int} (h0 : 0 ≤ v0) (h1 : v0 < 11) : v0 = 0 ∨ v0 = 1 ∨ v0 = 2 ∨ v0 = 3 ∨ v0 = 4 ∨ v0 = 5 ∨ v0 = 6 ∨ v0 = 7 ∨ v0 = 8 ∨ v0 = 9 ∨ v0 = 10 := by obtain ⟨n, rfl⟩ := Int.eq_ofNat_of_zero_le h0; exact (by decide : ∀ n : Nat, n < 11 → (n : Int) = 0 ∨ (n : Int) = 1 ∨ (n : Int) = 2 ∨ (n : Int) = 3 ∨ (n : Int) = 4 ∨ (n : Int) = 5 ∨ (n : Int) = 6 ∨ (n : Int) = 7 ∨ (n : Int) = 8 ∨ (n : Int) = 9 ∨ (n : Int) = 10) n (Int.ofNat_lt.mp h1)
theorem ar229 {v0 : Nat} {v1 : Int} (h0 : v0 = 16777216) (h1 : v1 < 3) : v1 ≤ (↑v0 : Int) := by lia -abstractProof
theorem ar230 {v0 : Int} {v1 v2 : Nat} (h0 : v0 < 3) (h1 : v1 = v0.toNat - (v2 + 1)) : ((↑v1 : Int) + 1).natAbs ≤ 9 := by have a : v1 ≤ 2 := (by rw [h1]; exact Nat.le_trans (Nat.sub_le _ _) (arT3 h0)); exact Nat.le_trans (show v1 + 1 ≤ 3 from Nat.succ_le_succ a) (by decide)
theorem ar233 {v0 : Nat} {v1 : Int} {v2 v3 v4 : Nat} (h0 : v0 ≤ 500) (h1 : v1 < 3) (h2 : v2 + (v3 + 1) = v1.toNat) (h3 : v4 ≤ v0 + 1 + v2) : v4 ≤ 1000 := by have a := arT3 h1; rw [← h2] at a; clear h1 h2; lia -abstractProof
theorem ar234 {v0 : Int} (h0 : 0 ≤ v0) (h1 : v0 < 9) : v0.natAbs ≤ 9 := by lia -abstractProof
theorem ar236 {v0 v1 : Nat} (h0 : v0 ≤ 2) (h1 : v1 ≤ 2) : 5 + v0 + 1 + v1 + 6 ≤ 16777216 := by exact Nat.le_trans (Nat.add_le_add_right (Nat.add_le_add (Nat.add_le_add_right (Nat.add_le_add_left h0 _) _) h1) _) (by decide)
theorem ar238 {v0 v1 : Nat} {v2 : Int} (h0 : v0 + (v1 + 1) = v2.toNat) : v2.toNat - v1 = v2.toNat - (v1 + 1) + 1 := by rw [← h0, Nat.add_sub_cancel, show v0 + (v1 + 1) - v1 = v0 + 1 from by rw [Nat.add_comm v1 1, ← Nat.add_assoc, Nat.add_sub_cancel]]
theorem ar239 {v0 : Nat} {v1 : Int} {v2 v3 : Nat} (h0 : v0 ≤ 500) (h1 : v1 < 3) (h2 : v2 = v1.toNat) (h3 : v3 ≤ v0 + 1 + v2) : v3 ≤ 1000 := by have a := arT3 h1; rw [← h2] at a; clear h1 h2; lia -abstractProof
theorem ar240 {v0 : Int} (h0 : v0 < 4) : 1 + v0 < 2 ^ 62 := by lia -abstractProof
theorem ar241 {v0 : Int} (h0 : 0 ≤ v0) : -2 ^ 62 ≤ 1 + v0 := by lia -abstractProof
theorem ar242 {v0 : Int} {v1 : Nat} (h0 : v0 < 4) (h1 : v1 < (1 + v0).toNat) : v1 ≤ 3 := by exact Nat.le_of_lt_succ (Nat.lt_of_lt_of_le h1 (arT4 h0))
theorem ar244 {v0 : Int} {v1 : Nat} {v2 : Int} {v3 v4 : Nat} (h0 : v0 < 3) (h1 : v1 = v0.toNat) (h2 : v2 < 4) (h3 : v3 = (1 + v2).toNat) (h4 : v4 ≤ 600 * (v1 + v3)) : v4 + (v1 + v3) * 64 ≤ 16777216 := by have a := arT3 h0; have b := arT4 h2; rw [← h1] at a; rw [← h3] at b; clear h0 h1 h2 h3; lia -abstractProof
theorem ar245 {v0 : Int} {v1 : Nat} (h0 : v0 < 3) (h1 : v1 = v0.toNat) : v1 ≤ 2 := by rw [h1]; exact arT3 h0
theorem ar246 {v0 : Int} {v1 : Nat} (h0 : v0 < 4) (h1 : v1 = (1 + v0).toNat) : v1 ≤ 4 := by rw [h1]; exact arT4 h0
theorem ar247 {v0 : Int} {v1 v2 v3 : Nat} {v4 : Int} {v5 v6 : Nat} (h0 : v0 < 3) (h1 : v1 = v0.toNat) (h2 : v2 ≤ v3 + 1 + v1) (h3 : v4 < 4) (h4 : v5 = (1 + v4).toNat) (h5 : v6 ≤ v2 + 1 + 31 * v5) : v6 ≤ v3 + 200 := by have a := arT3 h0; have b := arT4 h3; rw [← h1] at a; rw [← h4] at b; clear h0 h1 h3 h4; lia -abstractProof
theorem ar248 {v0 : Nat} {v1 : Int} {v2 v3 : Nat} {v4 : Int} {v5 v6 v7 : Nat} (h0 : v0 ≤ 500) (h1 : v1 < 3) (h2 : v2 = v1.toNat) (h3 : v3 ≤ v0 + 1 + v2) (h4 : v4 < 4) (h5 : v5 + (v6 + 1) = (1 + v4).toNat) (h6 : v7 ≤ v3 + 1 + 31 * v5) : v7 ≤ 1000 := by exact Nat.le_trans (arB h0 h1 h2 h3 h4 h5 h6) (by decide)
theorem ar251 {v0 : Nat} {v1 : Int} {v2 v3 : Nat} {v4 : Int} {v5 v6 v7 : Nat} (h0 : v0 ≤ 500) (h1 : v1 < 3) (h2 : v2 = v1.toNat) (h3 : v3 ≤ v0 + 1 + v2) (h4 : v4 < 4) (h5 : v5 + (v6 + 1) = (1 + v4).toNat) (h6 : v7 ≤ v3 + 1 + 31 * v5) : v7 + 1 ≤ 1000 := by exact Nat.le_trans (Nat.succ_le_succ (arB h0 h1 h2 h3 h4 h5 h6)) (by decide)
theorem ar252 : (4 : Int) < (2 : Int) ^ (62 : Nat) := by simp
theorem ar253 : -(2 : Int) ^ (62 : Nat) ≤ (4 : Int) := by simp
theorem ar254 {v0 : Int} (h0 : 0 ≤ v0) : v0 = (↑v0.toNat : Int) := by lia -abstractProof
theorem ar255 {v0 : Nat} (h0 : v0 < 4) : (↑2 : Int) * (↑v0 : Int) ≤ 2 ^ 27 := by lia -abstractProof
theorem ar256 {v0 : Nat} (h0 : (↑v0 : Int) < 81) : v0 < 81 := by lia -abstractProof
theorem ar258 {v0 v1 v2 : Nat} (h0 : v0 = 16777216) (h1 : v1 + (v2 + 1) ≤ 4) : v1 ≤ v0 := by rw [h0]; exact Nat.le_trans (Nat.le_trans (Nat.le_add_right _ _) h1) (by decide)
theorem ar260 {v0 : Nat} (h0 : v0 < 4) : (((↑v0 : Int) + 1) * 1).natAbs ≤ 9 := by exact (by decide : ∀ v : Nat, v < 4 → (((v : Int) + 1) * 1).natAbs ≤ 9) v0 h0
theorem ar263 {v0 : Nat} {v1 : Int} {v2 v3 : Nat} {v4 : Int} {v5 v6 v7 : Nat} (h0 : v0 ≤ 500) (h1 : v1 < 3) (h2 : v2 = v1.toNat) (h3 : v3 ≤ v0 + 1 + v2) (h4 : v4 < 4) (h5 : v5 + (v6 + 1) = (1 + v4).toNat) (h6 : v7 ≤ v3 + 1 + 31 * v5) : v7 + 1 + 1 ≤ 1000 := by exact Nat.le_trans (Nat.succ_le_succ (Nat.succ_le_succ (arB h0 h1 h2 h3 h4 h5 h6))) (by decide)
theorem ar264 {v0 : Int} {v1 v2 v3 : Nat} (h0 : v0 < 3) (h1 : v1 = v0.toNat) (h2 : v2 ≤ v3 + 1 + 1 + 1 + v1) : v2 ≤ v3 + 1 + 1 + 3 := by exact Nat.le_trans h2 (Nat.add_le_add_left (Nat.le_trans (Nat.le_of_eq h1) (arT3 h0)) (v3 + 1 + 1 + 1))
theorem ar265 {v0 : Nat} {v1 : Int} {v2 v3 : Nat} {v4 : Int} {v5 v6 v7 : Nat} {v8 : Int} {v9 v10 v11 : Nat} (h0 : v0 ≤ 500) (h1 : v1 < 3) (h2 : v2 = v1.toNat) (h3 : v3 ≤ v0 + 1 + v2) (h4 : v4 < 4) (h5 : v5 + (v6 + 1) = (1 + v4).toNat) (h6 : v7 ≤ v3 + 1 + 31 * v5) (h7 : v8 < 3) (h8 : v9 + (v10 + 1) = v8.toNat) (h9 : v11 ≤ v7 + 1 + 1 + 1 + v9) : v11 ≤ 1000 := by exact Nat.le_trans h9 (Nat.le_trans (Nat.add_le_add (Nat.succ_le_succ (Nat.succ_le_succ (Nat.succ_le_succ (arB h0 h1 h2 h3 h4 h5 h6)))) (Nat.le_trans (Nat.le_add_right _ _) (Nat.le_trans (Nat.le_of_eq h8) (arT3 h7)))) (by decide))
theorem ar267 {v0 : Nat} {v1 : Int} (h0 : v0 ≤ 3) (h1 : 0 ≤ v1) (h2 : v1 < (↑v0 : Int)) : v1.natAbs ≤ 9 := by lia -abstractProof
theorem ar274 {v0 : Nat} {v1 : Int} {v2 v3 : Nat} {v4 : Int} {v5 v6 v7 v8 : Nat} (h0 : v0 ≤ 500) (h1 : v1 < 3) (h2 : v2 = v1.toNat) (h3 : v3 ≤ v0 + 1 + v2) (h4 : v4 < 4) (h5 : v5 + (v6 + 1) = (1 + v4).toNat) (h6 : v7 ≤ v3 + 1 + 31 * v5) (h7 : v8 ≤ v7 + 1 + 1 + 3) : v8 + 26 ≤ 1000 := by exact Nat.le_trans (Nat.add_le_add_right (Nat.le_trans h7 (Nat.add_le_add_right (Nat.succ_le_succ (Nat.succ_le_succ (arB h0 h1 h2 h3 h4 h5 h6))) 3)) 26) (by decide)
theorem ar278 {v0 : Nat} (h0 : v0 = 16777216) : 3 + 1 ≤ v0 := by simp [h0]
theorem ar281 {v0 v1 v2 v3 : Nat} (h0 : v0 ≤ 18) (h1 : v1 ≤ 12) (h2 : v2 ≤ 12) (h3 : v3 ≤ 450) : v0 + (v1 + (v2 + (v3 + 0))) + (0 + 1 + 1 + 1 + 1) * 64 ≤ 16777216 := by lia -abstractProof
theorem ar282 {v0 : Nat} {v1 : Int} {v2 : Nat} {v3 : Int} {v4 v5 : Nat} (h0 : v0 = 16777216) (h1 : v1 < 3) (h2 : v2 = v1.toNat) (h3 : v3 < 4) (h4 : v4 + (v5 + 1) = (1 + v3).toNat) : v2 + v4 ≤ v0 := by rw [h0]; have a := arT3 h1; have b := arT4 h3; rw [← h2] at a; rw [← h4] at b; clear h0 h1 h2 h3 h4; lia -abstractProof
theorem ar283 {v0 v1 : Nat} {v2 : Int} (h0 : v0 + (v1 + 1) = (1 + v2).toNat) : v0 + 1 + v1 = (1 + v2).toNat := by rw [Nat.add_right_comm]; exact h0
theorem ar284 {v0 v1 v2 v3 v4 : Nat} (h0 : v0 ≤ v1 + 1 + 31 * v2) (h1 : v3 ≤ v0 + 1 + 1 + 3) (h2 : v4 ≤ v3 + 26) : v4 ≤ v1 + 1 + 31 * (v2 + 1) := by lia -abstractProof
theorem ar285 {v0 v1 v2 : Nat} : v0 + v1 + (v2 + 1) ≤ v0 + v2 + v1 + 1 := by lia -abstractProof
theorem ar286 {v0 v1 v2 v3 v4 v5 v6 : Nat} (h0 : v0 + v1 ≤ v2 + (v3 + 0) + (v4 + (0 + 1)) + v5 + v6 + 1) (h1 : v5 = 0) : v0 + v1 ≤ v2 + v4 + v3 + (v6 + 1) + 1 := by lia -abstractProof
theorem ar287 {v0 v1 v2 v3 v4 v5 : Nat} (h0 : v0 + v1 ≤ v2 + v3 + (v4 + 1) + v5 + 1) : v0 + v1 ≤ v2 + v3 + v4 + (v5 + 1) + 1 := by rw [Nat.add_right_comm]; exact h0
theorem ar288 {v0 v1 v2 : Nat} (h0 : v0 + v1 ≤ 0 + 0 + 0 + v2 + 1) : v0 + v1 ≤ v2 + 1 := by simpa using h0
theorem ar289 {v0 v1 v2 : Nat} (h0 : v0 + v1 = v2) : v0 ≤ v2 := by lia -abstractProof
theorem ar290 {v0 v1 v2 : Nat} (h0 : v0 + v1 = v2) : v1 ≤ v2 := by lia -abstractProof
theorem ar291 {v0 v1 v2 v3 v4 v5 v6 : Nat} (h0 : v0 + v1 ≤ v2 + 1) (h1 : v3 ≤ v0) (h2 : v4 ≤ v0) : v3 + v4 + (Min.min v5 v1 + (v1 - v6)) ≤ 2 * (v2 + 1) := by have a : Min.min v5 v1 + (v1 - v6) ≤ v1 + v1 := Nat.add_le_add (Nat.min_le_right _ _) (Nat.sub_le _ _); lia -abstractProof
theorem ar292 {v0 v1 v2 v3 : Nat} (h0 : v0 ≤ v1) (h1 : v2 ≤ v1) (h2 : v3 ≤ 9) : v0 + v3 + v2 + 20 ≤ 2 * (v1 + 20) := by lia -abstractProof
theorem ar293 {v0 v1 v2 : Nat} (h0 : v0 ≤ v1) (h1 : v2 ≤ v1) : v0 + v2 + 20 ≤ 2 * (v1 + 20) := by lia -abstractProof
theorem ar294 {v0 v1 v2 v3 : Nat} (h0 : v0 ≤ v1 + v2 * 1) (h1 : v1 + v2 ≤ 2 * (v3 + 1)) : v0 + 20 ≤ 2 * (v3 + 20) := by lia -abstractProof
theorem ar295 {v0 v1 v2 v3 : Nat} (h0 : v0 + 20 ≤ v1 * (v2 + 20)) (h1 : v3 + 20 ≤ 2 * (v0 + 20)) : v3 + 20 ≤ 2 * (v1 * (v2 + 20)) := by lia -abstractProof
theorem ar296 {v0 : Int} (h0 : 0 ≤ v0) (h1 : v0 < 14) : v0 = 0 ∨ v0 = 1 ∨ v0 = 2 ∨ v0 = 3 ∨ v0 = 4 ∨ v0 = 5 ∨ v0 = 6 ∨ v0 = 7 ∨ v0 = 8 ∨ v0 = 9 ∨ v0 = 10 ∨ v0 = 11 ∨ v0 = 12 ∨ v0 = 13 := by obtain ⟨n, rfl⟩ := Int.eq_ofNat_of_zero_le h0; exact (by decide : ∀ n : Nat, n < 14 → (n : Int) = 0 ∨ (n : Int) = 1 ∨ (n : Int) = 2 ∨ (n : Int) = 3 ∨ (n : Int) = 4 ∨ (n : Int) = 5 ∨ (n : Int) = 6 ∨ (n : Int) = 7 ∨ (n : Int) = 8 ∨ (n : Int) = 9 ∨ (n : Int) = 10 ∨ (n : Int) = 11 ∨ (n : Int) = 12 ∨ (n : Int) = 13) n (Int.ofNat_lt.mp h1)
theorem ar299 {v0 : Int} (h0 : v0 < 2) : 1 + v0 < 2 ^ 62 := by lia -abstractProof
theorem ar301 {v0 : Int} {v1 : Nat} (h0 : 0 ≤ v0) (h1 : v1 = (1 + v0).toNat) : 1 ≤ v1 := by lia -abstractProof
theorem ar302 {v0 : Int} {v1 : Nat} (h0 : v0 < 2) (h1 : v1 = (1 + v0).toNat) : v1 ≤ 2 := by rw [h1]; exact arT2 h0
theorem ar303 {v0 : Int} {v1 v2 : Nat} (h0 : v0 < 2) (h1 : v1 + (v2 + 1) = (1 + v0).toNat) : v1 = 0 ∨ v1 = 1 := by have a := arT2 h0; rw [← h1] at a; clear h0 h1; lia -abstractProof
theorem ar304 {v0 v1 : Nat} (h0 : v0 ≤ 5000) (h1 : v1 + 20 ≤ 2 ^ 0 * (v0 + 20)) : v1 ≤ 10100 := by lia -abstractProof
theorem ar305 {v0 v1 : Nat} (h0 : v0 ≤ 5000) (h1 : v1 + 20 ≤ 2 ^ 1 * (v0 + 20)) : v1 ≤ 10100 := by lia -abstractProof
theorem ar306 {v0 : Nat} {v1 : Int} {v2 v3 v4 : Nat} (h0 : v0 ≤ 900) (h1 : v1 < 2) (h2 : v2 + (v3 + 1) = (1 + v1).toNat) (h3 : v4 ≤ v0 + 1 + 3 * v2) : v4 ≤ 1000 := by exact Nat.le_trans (arC h0 h1 h2 h3) (by decide)
theorem ar308 {v0 : Nat} {v1 : Int} {v2 v3 v4 : Nat} (h0 : v0 ≤ 900) (h1 : v1 < 2) (h2 : v2 + (v3 + 1) = (1 + v1).toNat) (h3 : v4 ≤ v0 + 1 + 3 * v2) : v4 + 1 ≤ 1000 := by exact Nat.le_trans (Nat.succ_le_succ (arC h0 h1 h2 h3)) (by decide)
theorem ar309 {v0 : Nat} : 0 < (↑v0 : Int) + 1 := by simp
theorem ar310 {v0 v1 : Nat} (h0 : v0 = 16777216) (h1 : v1 ≤ 10100) : v1 ≤ v0 := by exact Nat.le_trans h1 (by rw [h0]; decide)
theorem ar311 {v0 : Nat} {v1 : Int} {v2 v3 v4 : Nat} (h0 : v0 ≤ 900) (h1 : v1 < 2) (h2 : v2 + (v3 + 1) = (1 + v1).toNat) (h3 : v4 ≤ v0 + 1 + 3 * v2) : v4 + 1 + 1 ≤ 1000 := by exact Nat.le_trans (Nat.succ_le_succ (Nat.succ_le_succ (arC h0 h1 h2 h3))) (by decide)
theorem ar313 {v0 v1 v2 : Nat} (h0 : v0 ≤ 10100) (h1 : v1 ≤ v0) (h2 : v2 ≤ 9) : v1 + v2 ≤ 16777216 := by lia -abstractProof
theorem ar314 {v0 v1 v2 v3 : Nat} (h0 : v0 ≤ 10100) (h1 : v1 ≤ v0) (h2 : v2 ≤ v0) (h3 : v3 ≤ 9) : v1 + v3 + v2 ≤ 16777216 := by lia -abstractProof
theorem ar315 {v0 : Int} {v1 : Nat} (h0 : v0 < (↑v1 : Int) + 1) : v0 ≤ (↑v1 : Int) := by lia -abstractProof
theorem ar316 {v0 v1 v2 : Nat} (h0 : v0 ≤ v1 + 1 + 3 * v2) : v0 + 1 + 1 + 1 ≤ v1 + 1 + 3 * (v2 + 1) := by lia -abstractProof
theorem ar317 {v0 v1 v2 : Nat} (h0 : v0 ≤ 10100) (h1 : v1 ≤ v0) (h2 : v2 ≤ v0) : v1 + v2 ≤ 16777216 := by lia -abstractProof
theorem ar318 {v0 v1 v2 : Nat} (h0 : v0 ≤ v1 + 1 + 3 * v2) : v0 + 1 + 1 ≤ v1 + 1 + 3 * (v2 + 1) := by lia -abstractProof
theorem ar321 {v0 : Nat} (h0 : 0 < v0) : (↑v0 : Int) ≠ 0 := by lia -abstractProof
theorem ar322 {v0 v1 v2 : Nat} (h0 : v0 = 16777216) (h1 : v1 ≤ 10100) (h2 : v2 ≤ v1 + 1) : v2 ≤ v0 := by lia -abstractProof
theorem ar323 {v0 v1 v2 v3 v4 : Nat} (h0 : v0 = 16777216) (h1 : v1 ≤ 10100) (h2 : v2 ≤ v1 + 1) : Min.min v3 v2 + (v2 - v4) ≤ v0 := by rw [h0]; exact Nat.le_trans (Nat.add_le_add (Nat.min_le_right _ _) (Nat.sub_le _ _)) (by clear h0; lia -abstractProof)
theorem ar324 {v0 v1 v2 : Nat} (h0 : v0 ≤ 10100) (h1 : v1 + v2 ≤ 2 * (v0 + 1)) : v1 + v2 * 64 ≤ 16777216 := by lia -abstractProof
theorem ar325 {v0 v1 v2 : Nat} (h0 : v0 < v1) (h1 : v1 < v2) : v0 < v2 := by lia -abstractProof
theorem ar326 {v0 v1 : Nat} (h0 : v0 - v1 ≤ 0) (h1 : v1 ≤ v0) : v1 = v0 := by lia -abstractProof
theorem ar327 {v0 v1 : Nat} (h0 : v0 < v1) : (v0 + v1) / 2 < v1 := by lia -abstractProof
theorem ar328 {v0 v1 : Nat} (h0 : v0 ≤ v1) : v0 ≤ (v0 + v1) / 2 := by lia -abstractProof
theorem ar330 {v0 v1 v2 v3 : Nat} (h0 : v0 - v1 ≤ v2 + 1) (h1 : v1 ≤ v3) : v0 - (v3 + 1) ≤ v2 := by exact Nat.le_trans (Nat.sub_le_sub_left (Nat.succ_le_succ h1) v0) (by show v0 - (v1 + 1) ≤ v2; rw [← Nat.sub_sub]; exact Nat.sub_le_of_le_add h0)
theorem ar332 {v0 v1 v2 v3 : Nat} (h0 : v0 - v1 ≤ v2 + 1) (h1 : v3 < v0) : v3 - v1 ≤ v2 := by exact Nat.le_trans (Nat.sub_le_sub_right (Nat.le_sub_one_of_lt h1) v1) (by rw [Nat.sub_right_comm]; exact Nat.sub_le_of_le_add h0)
theorem ar336 {v0 v1 : Nat} (h0 : v0 ≤ v1) : ¬v1 < v0 := by simpa using h0
theorem ar337 {v0 v1 : Nat} (h0 : v0 < v1) : ¬v1 = 0 := by lia -abstractProof
theorem ar346 {v0 v1 v2 : Nat} (h0 : v0 ≠ v1) (h1 : v0 ≤ v2) (h2 : v1 ≤ v0) : v1 < v2 := by lia -abstractProof
theorem ar349 {v0 v1 : Nat} (h0 : v0 = v1) : v0 ≤ v1 := by subst h0; exact Nat.le_refl _
theorem ar352 {v0 v1 v2 : Nat} (h0 : v0 - v1 = v2 + 1) : v0 - (v1 + 1) = v2 := by rw [← Nat.sub_sub, h0]; rfl
theorem ar353 {v0 v1 v2 v3 : Nat} (h0 : v0 = v1) (h1 : v1 - v2 = v3 + 1) : v2 < v0 := by rw [h0]; exact Nat.lt_of_sub_eq_succ h1
theorem ar354 {v0 : Nat} : v0 - 0 = v0 - 0 := by simp
theorem ar355 {v0 v1 : Nat} (h0 : v0 + 1 = v1) : 0 < v1 := by lia -abstractProof
theorem ar356 {v0 v1 v2 : Nat} (h0 : v0 + 1 = v1) (h1 : v2 + 1 = v1) : v0 = v2 := by lia -abstractProof
theorem ar358 {v0 v1 v2 : Nat} (h0 : v0 < v1) (h1 : v2 = v1) : v0 < v2 := by subst h1; exact h0
theorem ar359 {v0 v1 v2 : Nat} (h0 : v0 < v1) (h1 : v2 = v1) : v0 ≤ v2 := by lia -abstractProof
theorem ar360 {v0 v1 : Nat} (h0 : v0 = v1) : v1 ≤ v0 := by subst h0; exact Nat.le_refl _
theorem ar361 {v0 v1 : Nat} (h0 : v0 = v1) (h1 : 0 = v1) : v0 = 0 := by subst h1; exact h0
theorem ar362 {v0 v1 : Nat} (h0 : v0 + 1 = v1) (h1 : 0 = v1) : False := by lia -abstractProof
theorem ar363 {v0 v1 : Nat} (h0 : v0 + 1 = v1) : v0 = v1 - 1 := by subst h0; rfl
theorem ar364 {v0 : Nat} (h0 : v0 < 64) : v0 ≤ 16777216 := by lia -abstractProof
theorem ar367 {v0 v1 : Int} (h0 : v0 < v1) : v0 ≠ v1 := by lia -abstractProof
theorem ar369 {v0 : Nat} (h0 : v0 + 12 * 9 < 9900) : v0 + 1 + 0 < 9900 := by lia -abstractProof
theorem ar371 {v0 : Nat} (h0 : v0 + 12 * 9 < 9900) : v0 + 1 < 9900 := by lia -abstractProof
theorem ar372 {v0 v1 : Nat} (h0 : v0 < 64) (h1 : v1 = 16777216) : v0 ≤ v1 := by lia -abstractProof
theorem ar376 {v0 v1 : Nat} (h0 : 1 + v0 ≤ v1 + 1) : v0 ≤ v1 := by lia -abstractProof
theorem ar377 {v0 v1 v2 : Nat} (h0 : 1 + v0 ≤ v1 + 1) (h1 : v2 ≤ v0) : v2 ≤ v1 + 1 := by lia -abstractProof
theorem ar385 {v0 : Nat} (h0 : v0 < 64) : (↑v0 : Int) < 2 ^ 63 := by lia -abstractProof
theorem ar388 {v0 : Nat} (h0 : v0 ≤ 600) : v0 + 6 ≤ 606 := by simpa using h0
theorem ar391 {v0 : Nat} (h0 : v0 + 12 * 606 < 9900) : v0 + 601 < 9900 := by lia -abstractProof
theorem ar392 {v0 : Nat} (h0 : v0 < 64) : v0 ≤ 100000 := by lia -abstractProof
theorem ar394 {v0 v1 : Nat} (h0 : v0 = 16777216) (h1 : v1 < 64) : v1 ≤ v0 := by lia -abstractProof
theorem ar395 {v0 v1 : Nat} (h0 : v0 = v1 + 2) : v1 ≤ v0 := by simp [h0]
theorem ar399 {v0 v1 v2 v3 v4 : Nat} (h0 : v0 = 16777216) (h1 : v1 ≤ 30000) (h2 : v2 ≤ v1 + 1) (h3 : v3 ≤ v2) (h4 : v4 ≤ v3) : v4 ≤ v0 := by lia -abstractProof
theorem ar401 {v0 : Nat} (h0 : v0 + 12 * 608 < 9900) : v0 + 1 < 9900 := by lia -abstractProof
theorem ar402 {v0 v1 v2 : Nat} (h0 : v0 ≤ 30000) (h1 : v1 ≤ v0 + 1) (h2 : v2 ≤ v1) : (↑v2 : Int) < 2 ^ 63 := by lia -abstractProof
theorem ar405 {v0 v1 v2 v3 : Nat} (h0 : v0 ≤ 30000) (h1 : v1 ≤ v0) (h2 : v2 ≤ v1) (h3 : v3 ≤ v2 + 1) : (↑v3 : Int) < 2 ^ 63 := by lia -abstractProof
theorem ar406 {v0 v1 v2 v3 v4 : Nat} (h0 : v0 = 16777216) (h1 : v1 ≤ 30000) (h2 : v2 ≤ v1) (h3 : v3 ≤ v2) (h4 : v4 ≤ v3 + 1) : v4 ≤ v0 := by lia -abstractProof
theorem ar407 {v0 v1 v2 v3 : Nat} (h0 : v0 ≤ 30000) (h1 : v1 ≤ v0 + 1) (h2 : v2 ≤ v1) (h3 : v3 ≤ v2) : v3 ≤ 100000 := by lia -abstractProof
theorem ar409 {v0 v1 v2 v3 : Nat} (h0 : v0 ≤ 30000) (h1 : v1 ≤ v0) (h2 : v2 ≤ v1) (h3 : v3 ≤ v2) : v3 ≤ 100000 := by lia -abstractProof
theorem ar410 {v0 v1 v2 v3 : Nat} (h0 : v0 ≤ 30000) (h1 : v1 ≤ v0 + 1) (h2 : v2 ≤ v1) (h3 : v3 ≤ v2) : (↑v3 : Int) < 9223372036854775808 := by lia -abstractProof
theorem ar411 {v0 v1 v2 v3 : Nat} (h0 : v0 ≤ 2) (h1 : v1 ≤ 4) (h2 : v2 ≤ v3 + (v0 + v1) * 1) (h3 : v3 ≤ 600 * (v0 + v1)) : v2 ≤ 3700 := by lia -abstractProof
theorem ar412 {v0 v1 : Nat} (h0 : v0 ≤ 63) (h1 : v1 = 16777216) : v0 ≤ v1 := by rw [h1]; exact Nat.le_trans h0 (by decide)
theorem ar413 {v0 v1 : Nat} (h0 : v0 = 16777216) : Min.min 60 v1 ≤ v0 := by rw [h0]; exact Nat.le_trans (Nat.min_le_left _ _) (by decide)
theorem ar414 {v0 : Nat} : Min.min 60 v0 ≤ 60 := by lia -abstractProof
theorem ar424 {v0 : Nat} (h0 : v0 + 12 * 620 < 9900) : v0 + 3 < 9900 := by lia -abstractProof
theorem ar430 {v0 : Nat} (h0 : v0 + 12 * 620 < 9900) : v0 + 603 < 9900 := by lia -abstractProof
theorem ar432 {v0 : Nat} (h0 : v0 < 48) : ¬(48 ≤ v0 ∧ v0 ≤ 57) := by lia -abstractProof
theorem ar433 {v0 : Nat} (h0 : v0 < 48) : 48 ≤ v0 → 57 < v0 := by lia -abstractProof
theorem ar434 {v0 : Nat} (h0 : 57 < v0) : ¬v0 ≤ 57 := by simpa using h0
theorem ar435 {v0 : Nat} (h0 : ¬v0 < 48) : 48 ≤ v0 := by simpa using h0
theorem ar436 {v0 : Nat} (h0 : ¬57 < v0) : v0 ≤ 57 := by simpa using h0
theorem ar437 {v0 : Nat} : v0 = 48 ∨ v0 = 49 ∨ v0 = 50 ∨ v0 = 51 ∨ v0 = 52 ∨ v0 = 53 ∨ v0 = 54 ∨ v0 = 55 ∨ v0 = 56 ∨ v0 = 57 ↔ 48 ≤ v0 ∧ v0 ≤ 57 := by exact ⟨fun h => by rcases h with rfl | rfl | rfl | rfl | rfl | rfl | rfl | rfl | rfl | rfl <;> decide, fun h => (by decide : ∀ v < 58, 48 ≤ v → v = 48 ∨ v = 49 ∨ v = 50 ∨ v = 51 ∨ v = 52 ∨ v = 53 ∨ v = 54 ∨ v = 55 ∨ v = 56 ∨ v = 57) v0 (Nat.lt_succ_of_le h.2) h.1⟩
theorem ar438 {v0 v1 : Nat} (h0 : 48 ≤ v0) : 10 * (↑v1 : Int) + (↑v0 : Int) - 48 = (↑(v1 * 10 + (v0 - 48)) : Int) := by lia -abstractProof
theorem ar439 {v0 : Nat} : 1 ≤ (↑v0 : Int) + 1 := by lia -abstractProof
theorem ar440 {v0 : Nat} (h0 : (↑v0 : Int) = 0) : v0 = 0 := by simpa using h0
theorem ar441 {v0 : Nat} : (-(↑v0 : Int)).natAbs = v0 := by simp
theorem ar442 {v0 : Nat} : (↑v0 : Int).natAbs = v0 := by simp
theorem ar443 {v0 v1 v2 : Nat} (h0 : v0 < v1) (h1 : v2 ≤ 57) : v0 * 10 + (v2 - 48) < v1 * 10 := by exact Nat.lt_of_lt_of_le (by rw [Nat.succ_mul]; exact Nat.add_lt_add_left (Nat.lt_succ_of_le (Nat.sub_le_sub_right h1 48)) _) (Nat.mul_le_mul_right 10 (Nat.succ_le_of_lt h0))
theorem ar444 {v0 v1 : Nat} : v0 + (v1 + 1) = v0 + 1 + v1 := by lia -abstractProof
theorem ar448 {v0 : Nat} : ¬(↑(v0 + 1 + 1) : Int) = 1 := by lia -abstractProof
theorem ar449 {v0 v1 v2 : Nat} {v3 v4 v5 : Int} (h0 : v0 + 0 = v1) (h1 : v0 ≤ v2) (h2 : v2 < v1) : v3 ≠ 0 ∧ (0 < v2 → v4 < v5) := by lia -abstractProof
theorem ar450 {v0 v1 v2 : Nat} (h0 : v0 + (v1 + 1) = v2) : v0 + 1 + v1 = v2 := by rw [Nat.add_right_comm]; exact h0
theorem ar451 {v0 v1 : Nat} (h0 : v0 ≤ v1) (h1 : ¬v1 = v0) : v0 + 1 ≤ v1 := by lia -abstractProof
theorem ar452 {v0 v1 v2 : Nat} (h0 : v0 + (v1 + 1) = v2) : v0 < v2 := by lia -abstractProof
theorem ar453 {v0 : Nat} {v1 v2 : Int} (h0 : 0 < v0 → v1 < v2) (h1 : 0 < v0) (h2 : v1 ≥ v2) : False := by lia -abstractProof
theorem ar459 {v0 : Int} (h0 : 0 ≤ v0) : ¬v0 < 0 := by simpa using h0
theorem ar461 {v0 v1 v2 : Nat} (h0 : v0 + v1 ≤ v2) : v1 ≤ v2 - v0 := by exact Nat.le_sub_of_add_le (by rw [Nat.add_comm]; exact h0)
theorem ar462 {v0 v1 v2 v3 : Nat} (h0 : v0 + v1 ≤ v2) (h1 : v3 ≤ v2 - v0) : v0 + v3 ≤ v2 := by exact Nat.le_trans (Nat.add_le_add_left h1 _) (Nat.le_of_eq (Nat.add_sub_of_le (Nat.le_trans (Nat.le_add_right _ _) h0)))
theorem ar463 {v0 v1 v2 v3 v4 : Nat} (h0 : v0 ≤ v1) (h1 : v2 = v3 + v1) (h2 : v4 = 0) : v4 + v0 ≤ v2 := by lia -abstractProof
theorem ar464 {v0 v1 v2 v3 v4 v5 : Nat} (h0 : v0 = v1 + v2) (h1 : v3 + v4 ≤ v2) (h2 : v5 = v1 + v3) : v5 + v4 ≤ v0 := by lia -abstractProof
theorem ar465 {v0 : Nat} {v1 : Int} : v0 - v1.toNat ≤ ((↑v0 : Int) - v1).toNat := by omega
theorem ar466 {v0 : Int} (h0 : 0 ≤ v0) : 0 ≤ v0 + 1 := by lia -abstractProof
theorem ar467 {v0 : Int} {v1 : Nat} (h0 : v0 ≤ (↑v1 : Int)) (h1 : ¬v0 + 1 ≤ (↑v1 : Int)) : v0 = (↑v1 : Int) := by lia -abstractProof
theorem ar468 {v0 : Nat} : ¬(↑v0 : Int) + 1 < 0 := by lia -abstractProof
theorem ar469 {v0 : Nat} : ¬(↑v0 : Int) < 0 := by simp
theorem ar470 {v0 : Nat} : Min.min ((↑v0 : Int) + 1) (↑v0 : Int) = Min.min (↑v0 : Int) (↑v0 : Int) := by lia -abstractProof
theorem ar471 {v0 : Nat} : v0 + 2 + v0 ≤ 2 * v0 + 2 := by lia -abstractProof
theorem ar472 {v0 : Nat} : v0 + 9 + v0 ≤ 2 * v0 + 9 := by lia -abstractProof
theorem ar473 {v0 : Nat} : v0 + v0 ≤ 2 * v0 + 2 := by lia -abstractProof
theorem ar474 {v0 : Nat} : v0 + v0 ≤ 2 * v0 + 9 := by lia -abstractProof
theorem ar475 {v0 : Nat} : v0 ≤ 2 * v0 + 2 := by lia -abstractProof
theorem ar476 {v0 v1 v2 v3 v4 : Nat} (h0 : v0 ≤ v1) (h1 : v2 ≤ v0) (h2 : v3 ≤ v0) (h3 : v1 ≤ v4) : v2 + v3 ≤ v4 + v4 := by lia -abstractProof
theorem ar477 {v0 : Nat} : v0 ≤ 4 * v0 + 6 := by lia -abstractProof
theorem ar478 {v0 : Nat} : v0 ≤ 4 * v0 + 27 := by lia -abstractProof
theorem ar479 {v0 : Nat} : 2 * v0 + 2 ≤ 4 * v0 + 6 := by lia -abstractProof
theorem ar480 {v0 : Nat} : 2 * v0 + 9 ≤ 4 * v0 + 27 := by lia -abstractProof
theorem ar481 {v0 : Nat} : 2 * (2 * v0 + 2) + 2 ≤ 4 * v0 + 6 := by lia -abstractProof
theorem ar482 {v0 : Nat} : 2 * (2 * v0 + 9) + 9 ≤ 4 * v0 + 27 := by lia -abstractProof
theorem ar483 {v0 : Nat} (h0 : v0 + 1 + 1 + 1 ≤ 2) : False := by simpa using h0
theorem ar484 {v0 : Int} (h0 : v0.natAbs ≤ 9) : (v0 + 9).toNat < 19 := by lia -abstractProof
theorem ar485 {v0 : Int} (h0 : v0.natAbs ≤ 9) : (↑(v0 + 9).toNat : Int) - 9 = v0 := by lia -abstractProof
theorem ar486 {v0 v1 : Nat} : v0 + 1 + (v1 * (v0 + 1) + 1 * (v0 + 1)) ≤ v1 * (v0 + 1) + 1 * (v0 + 1) + 1 * (v0 + 1) := by lia -abstractProof
theorem ar487 {v0 v1 : Nat} : v0 + 0 + (v1 * v0 + 1 * v0) ≤ v1 * v0 + 1 * v0 + 1 * v0 := by lia -abstractProof
theorem ar488 {v0 v1 : Nat} (h0 : v0 ≤ v1) : v0 * (0 + 1) ≤ v1 := by simpa using h0
theorem ar489 {v0 v1 : Nat} (h0 : v0 ≤ v1) : v0 * 1 ≤ v1 := by simpa using h0
theorem ar491 {v0 v1 : Nat} (h0 : v0 * (v1 + 1) ≤ 3 * (v1 + 1)) : 0 + v0 * (v1 + 1) + 0 ≤ 3 * (v1 + 1) := by simpa using h0
theorem ar492 {v0 v1 : Nat} (h0 : v0 * v1 ≤ 3 * v1) : 1 + v0 * v1 + 0 ≤ 3 * v1 + 1 := by lia -abstractProof
theorem ar493 {v0 v1 v2 v3 : Nat} (h0 : v0 ≤ 1 + 0) (h1 : v1 ≤ 0 + 4 + 0) (h2 : v2 ≤ 0 + 2 + 0) (h3 : v3 ≤ 0 + 13) : v0 + (v1 + (v2 + v3)) ≤ 20 := by lia -abstractProof
theorem ar494 {v0 v1 v2 : Nat} (h0 : v0 ≤ 2) (h1 : v1 ≤ 4) (h2 : v2 ≤ 20 * (v0 + v1)) : v2 ≤ 120 := by lia -abstractProof
theorem ar495 {v0 v1 v2 : Nat} (h0 : v0 + 20 ≤ v1 * (v2 + 20)) (h1 : v2 ≤ 3700) (h2 : v1 * (v2 + 20) ≤ 4 * (v2 + 20)) : v0 ≤ 15000 := by lia -abstractProof
theorem ar497 {v0 v1 v2 : Nat} : v0 ≤ v1 + v0 + v2 := by lia -abstractProof
theorem ar504 {v0 v1 : Nat} (h0 : v0 ≤ v1) : 1 + v0 ≤ 1 + v1 := by simpa using h0
theorem ar505 {v0 v1 v2 : Nat} (h0 : v0 ≤ v1) : 0 + v0 ≤ v2 + v1 := by lia -abstractProof
theorem ar506 {v0 v1 v2 : Nat} (h0 : v0 ≤ v1) : v0 ≤ v2 + v1 := by lia -abstractProof
theorem ar507 {v0 v1 v2 : Nat} (h0 : v0 ≤ 3 * v1) (h1 : v2 ≤ 3) : v2 + v0 ≤ 3 * (v1 + 1) := by lia -abstractProof
theorem ar508 {v0 v1 : Nat} (h0 : v0 = 0) : v0 + v1 + v0 = v1 := by simp [h0]
theorem ar514 {v0 v1 : Nat} (h0 : v0 ≤ 62) (h1 : v1 ≤ v0 + 1) : v1 < 64 := by lia -abstractProof
theorem ar515 {v0 v1 v2 : Nat} (h0 : v0 + v1 + v2 ≤ 15000) : v1 ≤ 99000 := by lia -abstractProof
theorem ar516 {v0 v1 v2 : Nat} (h0 : v0 + v1 + v2 ≤ 15000) : v1 ≤ 30000 := by lia -abstractProof
theorem ar520 {v0 : Nat} : (↑(v0 + 1) : Int) = 3 ↔ v0 = 2 := by lia -abstractProof
end
section
set_option linter.unusedVariables false
set_option maxRecDepth 100000
open PySem PySem.W PySem.Spec PySem.Calls
section
variable {prog : Program} {w : World} {A : Around} {E : Value → Shared → Prop} {R : Result → Shared → Prop} {h : Heap} {g : Array GenState} {d : Drawn} {t : Nat} {os : OsState}
variable {nm q : Str} {C N : Addr} {bs bm : List Value} {hdct : Bool} {sn : List Str} {sub : List Value} {ab : Bool} {col : Option Bool} {dd : Option Addr} {k0 k1 k2 k3 k5 : Option Value} {Bn newId inN : String} {bmN : List Value}
theorem x_check_new (Fn : ExcBaseFacts Bn newId inN bmN) (hcont : (Value.ref C :: bm).contains (.type Bn) = true) {M : Model} {rest : List Value} {Q : Unit → Shared → Prop} (hC : h.get? C = some (excClassObj nm q C N bs bm hdct sn sub ab col dd k0 k1 k2 k3 k5 newId))
    (hq : Q () ⟨h, g, d, t, os⟩) : wpAny M A (checkBuiltinCall newId ⟨.ref C :: rest, []⟩) Q E ⟨h, g, d, t, os⟩ :=
  wpAny_check_new_subU (bmB := bm) Fn (by rw [List.contains_cons] at hcont; exact hcont) .base hC hq
theorem x_new (Fn : ExcBaseFacts Bn newId inN bmN) (hcB : (Value.ref C :: bm).contains (.type Bn) = true) (hcA : (Value.ref C :: bm).contains (.type "AttributeError") = false) (hcN : (Value.ref C :: bm).contains (.type "NameError") = false) {rest : List Value}
    (hC : h.get? C = some (excClassObj nm q C N bs bm hdct sn sub ab col dd k0 k1 k2 k3 k5 newId))
    (hq : R (.ok (.ret (.ref (h.objs.size + 1)))) ⟨(h.push { cls := .type "tuple", data := .seq rest.toArray }).push
      { cls := .ref C, data := .fields #[.ref h.objs.size, .none, .none, .none, .bool false, .none] }, g, d, t, os⟩) (hrest : rest.length ≤ sizeLine) :
    codeAny (model prog w) A (.builtin newId ⟨.ref C :: rest, []⟩) R ⟨h, g, d, t, os⟩ := by
  have hends := Fn.ends
  refine codeAny_builtinAt Fn.entry ?_
  unfold Builtin.«BaseException.__new__»
  refine wpAt_bind ?_
  show wpAt _ _ _ (stack >>= _) _ _ _
  refine wpAt_bind (wpAt_stack fun p below => wpAt_of_wpAny ?_)
  wp_walk
  refine wpAt_of_wpAny ?_
  rw [Fn.owner]
  repeat (first | with_reducible refine wpAny_madeHere_exc Fn.canon hC ?_ | with_reducible refine wpAny_loadPart_at hC ?_ | (with_reducible refine wpAny_isSubtype_exc hC ?_; first | rw [hcB] | rw [hcA] | rw [hcN]) | wp_step)
  show R _ _
  rw [Heap.size_push]
  exact hq
theorem x_type_call (Fn : ExcBaseFacts Bn newId inN bmN) (hcB : (Value.ref C :: bm).contains (.type Bn) = true) (hcA : (Value.ref C :: bm).contains (.type "AttributeError") = false) (hcN : (Value.ref C :: bm).contains (.type "NameError") = false)
    {rest : List Value} {fI : Addr} {oI : Obj} {Q : Fin → Shared → Prop}
    (hC : h.get? C = some (excClassObj nm q C N bs bm hdct sn sub ab col dd k0 k1 k2 k3 k5 newId))
    (hi : ∀ h', (∀ b o, h.get? b = some o → h'.get? b = some o) → ∀ (Q : Option Value → Shared → Prop), Q (some (.ref fI)) ⟨h', g, d, t, os⟩ → ∀ A E, wpAny (model prog w) A (typeLookup (.ref C) "__init__") Q E ⟨h', g, d, t, os⟩)
    (hfI : h.get? fI = some oI) (hfc : oI.cls = .type "function")
    (hq : ∀ h' e, Heap.MadeExcOf h h' e (.ref C) rest →
      wpAny (model prog w) A (call (.ref fI) (.ref e :: rest)) (fun r s' => r = .none ∧ Q (.done (.ret (.ref e))) s') E ⟨h', g, d, t, os⟩) (hrest : rest.length ≤ sizeLine) :
    wpAny (model prog w) A (Builtin.«type.__call__» ⟨.ref C :: rest, []⟩) Q E ⟨h, g, d, t, os⟩ := by
  repeat (first | with_reducible refine wpAny_loadPart_at hC ?_ | with_reducible refine wpAny_madeBy_exc hC ?_ | wp_step)
  refine codeAny_call_builtin_code (Code.quiet_builtin _ Fn.quiet) (x_check_new Fn hcB hC ?_)
  refine x_new Fn hcB hcA hcN hC ?_ hrest
  show wpAny _ _ _ _ _ _
  have hC₁ := Heap.get?_push_of_some { cls := .ref C, data := .fields #[.ref h.objs.size, .none, .none, .none, .bool false, .none] }
    (Heap.get?_push_of_some { cls := .type "tuple", data := .seq rest.toArray } hC)
  have hfI₁ := Heap.get?_push_of_some { cls := .ref C, data := .fields #[.ref h.objs.size, .none, .none, .none, .bool false, .none] }
    (Heap.get?_push_of_some { cls := .type "tuple", data := .seq rest.toArray } hfI)
  have hget : ((h.push { cls := .type "tuple", data := .seq rest.toArray }).push
      { cls := .ref C, data := .fields #[.ref h.objs.size, .none, .none, .none, .bool false, .none] }).get? (h.objs.size + 1) = some
      { cls := .ref C, data := .fields #[.ref h.objs.size, .none, .none, .none, .bool false, .none] } := by heap_get
  have hcC : (Value.ref C :: bm).contains (.ref C) = true := by simp
  unfold isInstance
  repeat (first | with_reducible refine wpAny_loadPart_at hget ?_ | (with_reducible refine wpAny_isSubtype_exc hC₁ ?_; rw [hcC]) | wp_step)
  show wpAny _ _ (typeLookup (.ref C) _) _ _ _
  refine hi _ (fun b o e => Heap.get?_push_of_some _ (Heap.get?_push_of_some _ e)) _ ?_ _ _
  refine wpAny_holding (wpAny_bind ?_)
  unfold bindSpecial
  refine wpAny_bind (wpAny_typeOf (T := "function") ⟨_, hfI₁, hfc⟩ ?_)
  rw [if_pos (by decide)]
  refine wpAny_pure (wpAny_bind (wpAny_mono (hq _ (h.objs.size + 1) ⟨fun b o hb => Heap.get?_push_of_some _ (Heap.get?_push_of_some _ hb), Heap.get?_none_of_le (Nat.le_succ _), h.objs.size, hget, Heap.get?_none_of_le (Nat.le_refl _), ?_⟩) (fun r s' hr => ?_) fun _ _ x => x))
  · exact Heap.get?_push_of_some _ (Heap.get?_push_at rfl rfl)
  · obtain ⟨rfl, hQ⟩ := hr
    wp_walk
    exact hQ
theorem x_call (Fn : ExcBaseFacts Bn newId inN bmN) (hcB : (Value.ref C :: bm).contains (.type Bn) = true) (hcA : (Value.ref C :: bm).contains (.type "AttributeError") = false) (hcN : (Value.ref C :: bm).contains (.type "NameError") = false)
    {rest : List Value} {fI : Addr} {oI : Obj}
    (hC : h.get? C = some (excClassObj nm q C N bs bm hdct sn sub ab col dd k0 k1 k2 k3 k5 newId))
    (hi : ∀ h', (∀ b o, h.get? b = some o → h'.get? b = some o) → ∀ (Q : Option Value → Shared → Prop), Q (some (.ref fI)) ⟨h', g, d, t, os⟩ → ∀ A E, wpAny (model prog w) A (typeLookup (.ref C) "__init__") Q E ⟨h', g, d, t, os⟩)
    (hfI : h.get? fI = some oI) (hfc : oI.cls = .type "function") {Q : Value → Shared → Prop}
    (hq : ∀ h' e, Heap.MadeExcOf h h' e (.ref C) rest →
      wpAny (model prog w) (A.under (.builtin "type.__call__" ⟨.ref C :: rest, []⟩)) (call (.ref fI) (.ref e :: rest)) (fun r s' => r = .none ∧ Q (.ref e) s') E ⟨h', g, d, t, os⟩) (hrest : rest.length ≤ sizeLine) :
    wpAny (model prog w) A (call (.ref C) rest) Q E ⟨h, g, d, t, os⟩ := by
  have f1 := tc_lookup
  have f2 := tc_bind (.ref C)
  have hT : (⟨h, g, d, t, os⟩ : Shared).TypeIs (.ref C) "type" := ⟨_, hC, rfl⟩
  refine wpAny_call (codeAny_of_tree ?_)
  show wpAny _ _ (callAny (.ref C) _) _ _ _
  repeat (any_goals (first | assumption | with_reducible refine wpAny_loadPart_at hC ?_ | wp_step))
  refine ⟨rfl, ?_⟩
  refine codeAny_call_builtin_at (Code.quiet_builtin _ (by decide +kernel)) entry_typeCall (wpAny_check_type_call_sub hC (x_type_call (hrest := hrest) Fn hcB hcA hcN hC hi hfI hfc fun h' e hm => ?_))
  exact hq h' e hm
end
end
section
set_option linter.unusedVariables false
set_option maxRecDepth 100000
set_option maxHeartbeats 4000000
open PySem PySem.W PySem.Spec PySem.Calls
theorem x_wdType : typeOf (.builtin "Exception.__init__") = pure (.type "wrapper_descriptor") := by kernel_rfl
theorem x_slot_wd_get : Slot "wrapper_descriptor" "__get__" "wrapper_descriptor.__get__" := .of (owner := "wrapper_descriptor") (n := "__get__") (by rw [typeLookup_type, builtinLookup_eq_fast]; kernel_rfl) (by decide +kernel) (by decide +kernel) (by decide +kernel)
  (by first | exact .inl (by decide +kernel) | exact .inr (by decide +kernel)) (by rw [isSubtype_type]; kernel_rfl)
theorem x_entry_wd_get : entryFor table "wrapper_descriptor.__get__" = some Builtin.«wrapper_descriptor.__get__» := entryFor_of_tree (by kernel_rfl)
theorem x_args_wd (a b c : Value) : argsOk "wrapper_descriptor.__get__" ⟨[a, b, c], []⟩ := by unfold argsOk; kernel_rfl
section
variable {prog : Program} {w : World} {M : Model} {A : Around} {E : Value → Shared → Prop} {h : Heap} {g : Array GenState} {d : Drawn} {t : Nat} {os : OsState}
theorem x_super_ga {so D x C : Addr} {ox : Obj} {l₀ l : List Value} {K : Frag} {tk : Tok} {Q : Fin → Shared → Prop}
    (hso : h.get? so = some { cls := .type "super", dict := none, data := .fields #[.ref D, .ref x, .ref C], slots := #[] }) (hno : Looks (model prog w) h (opaqueClassAbove (.ref C)) none)
    (hC : Looks (model prog w) h (mroOf (.ref C)) l₀) (hl : (l₀.dropWhile (· != .ref D)).drop 1 = l) (X : K.In h) (hx : h.get? x = some ox) (hcls : ox.cls = .ref C) (hs : Looks (model prog w) h (isSubtype (.ref C) (.type "Exception")) true)
    (hf : alongIn K ("__init__" : Str) l = some (some (.builtin "Exception.__init__"))) (hxC : x ≠ C)
    (hq : Q (.done (.ret (.ref h.objs.size))) ⟨h.push { cls := .type "method-wrapper", data := .fields #[.builtin "Exception.__init__", .ref x] }, g, d, t, os⟩) :
    wpAny (model prog w) A (Builtin.«super.__getattribute__» ⟨[.ref so, .str ("__init__" : Str) tk], []⟩) Q E ⟨h, g, d, t, os⟩ := by
  have hlk := x_slot_wd_get.lookup
  have hty := x_wdType
  have hne : (Value.ref x == Value.ref C) = false := by simp [hxC]
  have hT : (⟨h, g, d, t, os⟩ : Shared).TypeIs (.builtin "Exception.__init__") "wrapper_descriptor" := x_wdType
  have hcut : ".".intercalate ("Exception.__init__".cutAt '.').dropLast = "Exception" := by decide +kernel
  have hdt : ({ cls := .type "super", dict := none, data := .fields #[.ref D, .ref x, .ref C], slots := #[] } : Obj).data = .fields #[.ref D, .ref x, .ref C] := rfl
  have f0 : (#[.ref D, .ref x, .ref C] : Array Value)[0]? = some (.ref D) := rfl
  have f1 : (#[.ref D, .ref x, .ref C] : Array Value)[1]? = some (.ref x) := rfl
  have f2 : (#[.ref D, .ref x, .ref C] : Array Value)[2]? = some (.ref C) := rfl
  unfold Builtin.«super.__getattribute__»
  repeat (first
    | (with_reducible refine wpAny_field hso hdt f0 ?_) | (with_reducible refine wpAny_field hso hdt f1 ?_) | (with_reducible refine wpAny_field hso hdt f2 ?_)
    | (with_reducible refine ks_wpAny_notOpaque hno ?_)
    | (with_reducible refine Looks.at hC ?_; rw [hl])
    | (refine ks_forIn_along X (fun _ _ => rfl) rfl ?_ hf)
    | (with_reducible refine wpAny_typeOf hT ?_)
    | (with_reducible refine wpAny_call_entry x_slot_wd_get hT x_entry_wd_get ?_ (x_args_wd _ _ _))
    | (with_reducible refine ⟨_, rfl, ?_⟩)
    | (simp only [hne, Bool.or_false, Bool.false_eq_true, if_false])
    | wp_step
    | dsimp only)
  rw [hcls, hcut]
  refine Looks.at hs ?_
  wp_walk
  refine ⟨_, rfl, ?_⟩
  wp_walk
  exact hq
theorem x_getMethod {so D x C : Addr} {ox : Obj} {l₀ l : List Value} {K : Frag} {pl : Sem Bool} {Q : Value × List Value → Shared → Prop}
    (hso : h.get? so = some { cls := .type "super", dict := none, data := .fields #[.ref D, .ref x, .ref C], slots := #[] }) (hno : Looks (model prog w) h (opaqueClassAbove (.ref C)) none)
    (hC : Looks (model prog w) h (mroOf (.ref C)) l₀) (hl : (l₀.dropWhile (· != .ref D)).drop 1 = l) (X : K.In h) (hx : h.get? x = some ox) (hcls : ox.cls = .ref C) (hs : Looks (model prog w) h (isSubtype (.ref C) (.type "Exception")) true)
    (hf : alongIn K ("__init__" : Str) l = some (some (.builtin "Exception.__init__"))) (hxC : x ≠ C)
    (hq : Q (.ref h.objs.size, []) ⟨h.push { cls := .type "method-wrapper", data := .fields #[.builtin "Exception.__init__", .ref x] }, g, d, t + 1, os⟩) :
    wpAny (model prog w) A (getMethod (.ref so) ("__init__" : Str) pl) Q E ⟨h, g, d, t, os⟩ := by
  have hlk := F.ks_slot_super_ga.lookup
  have hcan := F.ks_canon_super_ga
  have hT : ∀ t', (⟨h, g, d, t', os⟩ : Shared).TypeIs (.ref so) "super" := fun _ => ⟨_, hso, rfl⟩
  unfold getMethod
  refine wpAny_bind (wpAny_specialOf (hT _) hlk ?_)
  show wpAny _ _ (if (Manifest.canonical "super.__getattribute__" != "object.__getattribute__") = true then _ else _) _ _ _
  rw [if_pos hcan]
  unfold getAttr getAttrBy
  refine wpAny_bind (wpAny_bind (wpAny_mkText (wpAny_holding (wpAny_bind (wpAny_typeOf (hT _) (wpAny_bind (wpAny_of_eq hlk ?_)))))))
  show wpAny _ _ (getAttrByItsOwn (.ref so) (.str ("__init__" : Str) t) (.type "super") (.builtin "super.__getattribute__") true false) _ _ _
  unfold getAttrByItsOwn hookBefore callGetattribute boundAndCalled
  refine wpAny_bind (wpAny_of_eq (show (if onTheHeap (.type "super") then typeLookup (.type "super") "__getattr__" else pure none) = pure none from rfl) ?_)
  refine wpAny_bind (wpAny_attempt (wpAny_holding ?_))
  show wpAny _ _ (bindSpecial (.builtin "super.__getattribute__") (.ref so) >>= _) _ _ _
  refine wpAny_bind (wpAny_of_eq (F.ks_slot_super_ga.bind _) ?_)
  refine wpAny_mono (Q := fun v s' => v = .ref h.objs.size ∧ s' = ⟨h.push { cls := .type "method-wrapper", data := .fields #[.builtin "Exception.__init__", .ref x] }, g, d, t + 1, os⟩) (E := fun _ _ => False)
    (wpAny_call_entry F.ks_slot_super_ga (hT _) F.ks_entry_super_ga (x_super_ga (Q := fun fin s' => ∃ v, fin = .done (.ret v) ∧ (v = .ref h.objs.size ∧ s' = ⟨h.push { cls := .type "method-wrapper", data := .fields #[.builtin "Exception.__init__", .ref x] }, g, d, t + 1, os⟩)) hso hno hC hl X hx hcls hs hf hxC ⟨_, rfl, rfl, rfl⟩) (F.ks_gaArgs_super _ _)) (fun v s' hv => ?_) fun _ _ z => z.elim
  obtain ⟨rfl, rfl⟩ := hv
  exact wpAny_pure (wpAny_pure hq)
theorem x_call_mw {b x C : Addr} {ox oC : Obj} {cd : ClassData} {vs : Array Value} {v : Value} (hb : h.get? b = some { cls := .type "method-wrapper", dict := none, data := .fields #[.builtin "Exception.__init__", .ref x], slots := #[] })
    (hx : h.get? x = some ox) (hcls : ox.cls = .ref C) (hd : ox.data = .fields vs) (hv : 0 < vs.size) (hC : h.get? C = some oC) (hCd : oC.data = .cls cd) (hs : Looks (model prog w) h (isSubtype (.ref C) (.type "Exception")) true) {R : Result → Shared → Prop}
    (hq : R (.ok (.ret .none)) ⟨(h.push { cls := .type "tuple", data := .seq #[v] }).update x (Obj.mapFields (·.setIfInBounds 0 (.ref h.objs.size))), g, d, t, os⟩) :
    codeAny (model prog w) A (.call (.ref b) ⟨[v], []⟩) R ⟨h, g, d, t, os⟩ := by
  obtain ⟨c1, c2, c3, c4⟩ := oC
  dsimp only at hCd; subst hCd
  obtain ⟨y1, y2, y3, y4⟩ := ox
  dsimp only at hd hcls; subst hd; subst hcls
  have FB := F.excBase_Exception
  have hshort := FB.noStar
  have hx1 := Heap.get?_push_of_some (h := h) { cls := .type "tuple", data := .seq #[v] } hx
  obtain ⟨v0, hv0⟩ : ∃ v0, vs[0]? = some v0 := ⟨vs[0], by simp [hv]⟩
  refine codeAny_of_tree ?_
  show wpAny _ A.in1 (callAny (.ref b) _) _ _ _
  unfold callAny
  refine wpAny_bind (wpAny_load hb ?_)
  show wpAny _ _ (checkBoundCall "Exception.__init__" ⟨[.ref x, v], []⟩ >>= fun _ => again (.builtin "Exception.__init__" ⟨[.ref x, v], []⟩)) _ _ _
  refine wpAny_bind ?_
  simp only [checkBoundCall, checkBuiltinCall, FB.initKind, FB.initSplit, FB.initRow]
  repeat (first | with_reducible refine wpAny_loadPart_at hx ?_ | with_reducible refine wpAny_loadPart_at hx1 ?_ | with_reducible refine wpAny_loadPart_at hC ?_ | with_reducible refine Looks.at hs ?_ | (rw [hv0]) | wp_step)
  refine ⟨Code.quiet_builtin _ (by decide +kernel), ?_⟩
  refine codeAny_builtin FB.initEntry ?_
  unfold Builtin.«BaseException.__init__»
  repeat (first | with_reducible refine wpAny_loadPart_at hx ?_ | with_reducible refine wpAny_loadPart_at hx1 ?_ | with_reducible refine wpAny_loadPart_at hC ?_ | with_reducible refine Looks.at hs ?_ | (rw [hv0]) | wp_step)
  cases v0 <;> wp_walk <;> exact hq
end
end
section
set_option linter.unusedVariables false
set_option maxRecDepth 100000
set_option maxHeartbeats 4000000
open PySem PySem.W PySem.Spec PySem.Calls Builtin Builtin.ObjectAttr Builtin.Getset_descriptor
section
variable {prog : Program} {w : World} {A : Around} {K : Frag} {C x : Addr} {s : Shared} {R : Result → Shared → Prop} {ox : Obj} {name : Str} {v : Value} {cd : ClassData}
theorem x_osa_open {od : Option Obj} {tk : Tok} {r : Option Value} (X : K.In s.heap) (I : W.InstAt s.heap x ox C od) (hc : clsIn K C = some cd) (ne : cd.mro.isEmpty = false) (hob : cd.mro.contains (.type "object") = true) (href : ∀ self, refuseLoop self "__setattr__" cd.mro = pure ()) (ht : takerIn K C name = some r)
    (h : ∀ b, wpAny (model prog w) A.in1 (match r with | some a => setByDescriptor a (.ref x) v | none => storeInOwnDict (.ref x) (.ref C) (.str name tk) name v b)
      (fun fin s' => match fin with | .done f => R (.ok f) s' | .again c' => c'.quiet = true ∧ codeAny (model prog w) A c' R s') (fun e s' => R (.error e) s') s) :
    codeAny (model prog w) A (.call (.builtin "object.__setattr__") ⟨[.ref x, .str name tk, v], []⟩) R s := by
  have SF := PySem.F.store_object
  have sub : Looks (model prog w) s.heap (isInstance (.ref x) (.type "object")) true := I.type.andThen (looks_mroIn X (by unfold mroIn; rw [hc, Option.bind_some, if_neg (by rw [ne]; decide), hob]))
  refine codeAny_call_builtin SF.slot.plain SF.entry (@check_slot (model prog w) _ _ s "object.__setattr__" "object" "__setattr__" (.ref x) [.str name tk, v] [] _ SF.kind SF.split sub (SF.args (.ref x) (.str name tk) v) ?_)
  obtain ⟨attr, ha, hr⟩ := Option.bind_eq_some_iff.mp ht
  have hm : Looks (model prog w) s.heap (mroOf (.ref C)) cd.mro := (looks_clsIn X hc).andThen .now
  have L3 : Looks (model prog w) s.heap (storeTaker? attr) r := by
    cases attr with
    | none => obtain rfl := Option.some.inj hr; exact .now
    | some a =>
      obtain ⟨b, hb, rfl⟩ := Option.map_eq_some_iff.mp hr
      refine (looks_takesIn X hb).andThen ?_
      cases b <;> exact .now
  rw [osa_eq, refuse_eq]
  refine wpAny_bind (wpAny_bind (I.type.here (wpAny_bind (hm.here ?_))))
  rw [href]
  refine wpAny_pure (wpAny_bind (I.type.here (wpAny_bind ((looks_findIn X ha).here (wpAny_bind (L3.here ?_))))))
  exact h _
theorem x_set_new {E : Value → Shared → Prop} {vs : Array Value} {sl : Array (Option Value)} {Q : Unit → Shared → Prop} (X : K.In s.heap) (hx : s.heap.get? x = some ⟨.ref C, none, .fields vs, sl⟩) (hs : findIn K (.ref C) "__setattr__" = some (some (.builtin "object.__setattr__")))
    (hc : clsIn K C = some cd) (ne : cd.mro.isEmpty = false) (hob : cd.mro.contains (.type "object") = true) (href : ∀ self, refuseLoop self "__setattr__" cd.mro = pure ()) (ht : takerIn K C name = some none) (hh : cd.hasDict = true)
    (hq : ∀ h', (∀ b o, b ≠ x → s.heap.get? b = some o → h'.get? b = some o) → h'.get? x = some ⟨.ref C, some s.heap.objs.size, .fields vs, sl⟩ → h'.get? s.heap.objs.size = some (dictOf [⟨PyData.keyHash w.params name, .str name (s.toks + 1), v⟩] 1) →
      Q () { s with heap := h', toks := s.toks + 2 }) : wpAny (model prog w) A (setAttr (.ref x) name v) Q E s := by
  have I : W.InstAt s.heap x ⟨.ref C, none, .fields vs, sl⟩ C none := ⟨hx, rfl, rfl, trivial⟩
  refine set_plain X I hs (x_osa_open (s := { s with toks := s.toks + 1 }) X I hc ne hob href ht fun b => ?_)
  dsimp only
  have hx1 := Heap.get?_push_of_some (h := s.heap) { cls := .type "dict", data := .dict #[] } hx
  have hd1 : (s.heap.push { cls := .type "dict", data := .dict #[] }).get? s.heap.objs.size = some { cls := .type "dict", data := .dict #[] } := Heap.get?_push_size _ rfl
  have hne : x ≠ s.heap.objs.size := Nat.ne_of_lt (Heap.lt_size hx)
  generalize hh1 : s.heap.push { cls := .type "dict", data := .dict #[] } = h1 at hx1 hd1
  have keep1 : ∀ b o, s.heap.get? b = some o → h1.get? b = some o := fun b o e => hh1 ▸ Heap.get?_push_of_some _ e
  have hx2 : (h1.update x fun o => { o with dict := some s.heap.objs.size }).get? x = some ⟨.ref C, some s.heap.objs.size, .fields vs, sl⟩ := Heap.get?_update_self (fun o => { o with dict := some s.heap.objs.size }) hx1 rfl
  have hd2 : (h1.update x fun o => { o with dict := some s.heap.objs.size }).get? s.heap.objs.size = some { cls := .type "dict", data := .dict #[] } := (Heap.get?_update_other _ _ hne).trans hd1
  unfold storeInOwnDict
  refine wpAny_bind (wpAny_pure (wpAny_bind ?_))
  show wpAny _ _ (instanceDict x true) _ _ _
  unfold instanceDict
  refine wpAny_bind (wpAny_loadPart hx (wpAny_bind (Looks.at (looks_clsIn X hc) ?_)))
  rw [hh]
  refine wpAny_bind (wpAny_alloc ?_)
  rw [hh1]
  refine wpAny_bind (wpAny_update hx1 (wpAny_pure ?_))
  dsimp only
  generalize hh2 : (h1.update x fun o => { o with dict := some s.heap.objs.size }) = h2 at hx2 hd2
  have keep2 : ∀ b o, b ≠ x → s.heap.get? b = some o → h2.get? b = some o := fun b o hb e => hh2 ▸ (Heap.get?_update_other _ _ (Ne.symm hb)).trans (keep1 b o e)
  unfold storeInDict
  refine wpAny_bind (wpAny_pure (wpAny_bind ?_))
  unfold nsSet
  refine wpAny_bind (wpAny_bind (wpAny_askSetting (wpAny_pure (wpAny_bind (wpAny_mkText (wpAny_bind (wpAny_loadPart hd2 ?_)))))))
  dsimp only
  have c : (!(#[] : Array DictEntry).any (·.key.isStr name) && (#[] : Array DictEntry).any (·.refKey)) = false := by simp
  rw [aRefKeyMayBeTheName_at, c]
  refine wpAny_updatePart hd2 ?_
  have e : Obj.putName name (PyData.keyHash w.params name) (.str name (s.toks + 1)) v (dictOf [] 0) = dictOf [⟨PyData.keyHash w.params name, .str name (s.toks + 1), v⟩] 1 := by
    rw [putName_dict]; rfl
  have hd3 : (h2.update s.heap.objs.size (Obj.putName name (PyData.keyHash w.params name) (.str name (s.toks + 1)) v)).get? s.heap.objs.size = some (dictOf [⟨PyData.keyHash w.params name, .str name (s.toks + 1), v⟩] 1) := by
    refine (Heap.get?_update_self _ hd2 ?_).trans ?_
    · show Obj.isFreed (Obj.putName name (PyData.keyHash w.params name) (.str name (s.toks + 1)) v (dictOf [] 0)) = false
      rw [e]; rfl
    · show some (Obj.putName name (PyData.keyHash w.params name) (.str name (s.toks + 1)) v (dictOf [] 0)) = _
      rw [e]
  refine wpAny_bind (wpAny_lookBehind hd3 (by kernel_rfl) ?_)
  refine wpAny_pure (hq _ (fun b o hb e => ?_) ((Heap.get?_update_other _ _ (Ne.symm hne)).trans hx2) hd3)
  exact (Heap.get?_update_other _ _ (Nat.ne_of_gt (Heap.lt_size e))).trans (keep2 b o hb e)
theorem x_set_more {E : Value → Shared → Prop} {dx : Addr} {dt : Data} {es : List DictEntry} {n : Nat} {sl : Array (Option Value)} {Q : Unit → Shared → Prop} (X : K.In s.heap) (hx : s.heap.get? x = some ⟨.ref C, some dx, dt, sl⟩) (hnc : notCls ⟨.ref C, some dx, dt, sl⟩ = true) (hdx : s.heap.get? dx = some (dictOf es n)) (hs : findIn K (.ref C) "__setattr__" = some (some (.builtin "object.__setattr__")))
    (hc : clsIn K C = some cd) (ne : cd.mro.isEmpty = false) (hob : cd.mro.contains (.type "object") = true) (href : ∀ self, refuseLoop self "__setattr__" cd.mro = pure ()) (ht : takerIn K C name = some none) (hh : cd.hasDict = true) (hr : es.any (·.refKey) = false) (hz : es.length < 1000)
    (hq : ∀ h', (∀ b o, b ≠ dx → s.heap.get? b = some o → h'.get? b = some o) → h'.get? dx = some (dictOf (putL name (PyData.keyHash w.params name) (.str name (s.toks + 1)) v es) (putN name es n)) →
      Q () { s with heap := h', toks := s.toks + 2 }) : wpAny (model prog w) A (setAttr (.ref x) name v) Q E s := by
  have I : W.InstAt s.heap x ⟨.ref C, some dx, dt, sl⟩ C (some (dictOf es n)) := ⟨hx, rfl, hnc, hdx⟩
  refine set_plain X I hs (x_osa_open (s := { s with toks := s.toks + 1 }) X I hc ne hob href ht fun b => ?_)
  dsimp only
  unfold storeInOwnDict
  refine wpAny_bind (wpAny_pure (wpAny_bind ?_))
  show wpAny _ _ (instanceDict x true) _ _ _
  unfold instanceDict
  refine wpAny_bind (wpAny_loadPart hx (wpAny_bind (Looks.at (looks_clsIn X hc) ?_)))
  rw [hh]
  refine wpAny_pure (a := some dx) ?_
  dsimp only
  unfold storeInDict
  refine wpAny_bind (wpAny_pure (wpAny_bind ?_))
  unfold nsSet
  refine wpAny_bind (wpAny_bind (wpAny_askSetting (wpAny_pure (wpAny_bind (wpAny_mkText (wpAny_bind (wpAny_loadPart hdx ?_)))))))
  dsimp only
  have c : (!es.toArray.any (·.key.isStr name) && es.toArray.any (·.refKey)) = false := by simp only [List.any_toArray, hr, Bool.and_false]
  rw [aRefKeyMayBeTheName_at, c]
  refine wpAny_updatePart hdx ?_
  have e := putName_dict name (PyData.keyHash w.params name) (.str name (s.toks + 1)) v es n
  have hd3 : (s.heap.update dx (Obj.putName name (PyData.keyHash w.params name) (.str name (s.toks + 1)) v)).get? dx = some (dictOf (putL name (PyData.keyHash w.params name) (.str name (s.toks + 1)) v es) (putN name es n)) := by
    refine (Heap.get?_update_self _ hdx ?_).trans ?_
    · rw [e]; rfl
    · rw [e]
  have hlen : ∀ es : List DictEntry, (putL name (PyData.keyHash w.params name) (.str name (s.toks + 1)) v es).length ≤ es.length + 1 := by
    intro es
    induction es with
    | nil => exact Nat.le_refl _
    | cons a r ih => unfold putL; split <;> simp <;> exact ih
  refine wpAny_bind (wpAny_lookBehind hd3 (pastItsLine_dict (by rw [List.size_toArray, sizeLine_eq]; have := hlen es; exact Nat.le_trans this (Nat.le_trans hz (by decide)))) ?_)
  refine wpAny_pure (hq _ (fun b o hb e => (Heap.get?_update_other _ _ (Ne.symm hb)).trans e) hd3)
end
end
section
set_option linter.unusedVariables false
set_option maxRecDepth 100000
open PySem PySem.W PySem.Spec PySem.Calls PyProof.Rows PyProof.V
inductive PV where
  | none
  | bool (b : Bool)
  | int (i : Int)
  | str (x : Str)
  | tup (ds : List PV)
  | lst (ds : List PV)
noncomputable abbrev PH := Addr → Option Obj
theorem no_df {es : Array DictEntry} {n : Nat} {vs : Array Value} {P : Prop} (h : Data.dict es n = Data.fields vs) : P := nomatch h
structure SeqO (T : String) (o : Obj) (vs : List Value) : Prop where
  cls : o.cls = .type T
  dict : o.dict = none
  slots : o.slots = #[]
  data : ∃ n, o.data = .seq vs.toArray n
theorem SeqO.plain {h : Heap} {a : Addr} {o : Obj} {vs : List Value} (x : SeqO "list" o vs) (e : h.get? a = some o) : h.PlainList a vs.toArray := by
  obtain ⟨c, d, dt, sl⟩ := o
  obtain ⟨h1, h2, h3, n, h4⟩ := x
  cases h1; cases h2; cases h3; cases h4
  exact ⟨n, e⟩
theorem SeqO.of_plain {h : Heap} {a : Addr} {xs : Array Value} (x : h.PlainList a xs) : ∃ o, h.get? a = some o ∧ SeqO "list" o xs.toList := let ⟨n, e⟩ := x; ⟨_, e, rfl, rfl, rfl, n, by simp⟩
mutual
inductive Dat (g : PH) : Value → PV → Prop
  | none : Dat g .none .none
  | bool (b) : Dat g (.bool b) (.bool b)
  | int (i t) : Dat g (.int i t) (.int i)
  | str (x t) : Dat g (.str x t) (.str x)
  | tup {a o vs ds} : g a = some o → SeqO "tuple" o vs → DatAll g vs ds → Dat g (.ref a) (.tup ds)
  | lst {a o vs ds} : g a = some o → SeqO "list" o vs → DatAll g vs ds → Dat g (.ref a) (.lst ds)
inductive DatAll (g : PH) : List Value → List PV → Prop
  | nil : DatAll g [] []
  | cons {v vs d ds} : Dat g v d → DatAll g vs ds → DatAll g (v :: vs) (d :: ds)
end
noncomputable def DInv (g : PH) (v : Value) : PV → Prop
  | .none => v = .none
  | .bool b => v = .bool b
  | .int i => ∃ t, v = .int i t
  | .str x => ∃ t, v = .str x t
  | .tup ds => Ex3 fun a o vs => And4 (v = .ref a) (g a = some o) (SeqO "tuple" o vs) (DatAll g vs ds)
  | .lst ds => Ex3 fun a o vs => And4 (v = .ref a) (g a = some o) (SeqO "list" o vs) (DatAll g vs ds)
theorem Dat.inv {g : PH} {v : Value} {d : PV} (h : Dat g v d) : DInv g v d :=
  Dat.casesOn (motive_1 := fun v d _ => DInv g v d) h rfl (fun _ => rfl) (fun _ t => ⟨t, rfl⟩) (fun _ t => ⟨t, rfl⟩) (fun a b c => ⟨_, _, _, rfl, a, b, c⟩) (fun a b c => ⟨_, _, _, rfl, a, b, c⟩)
noncomputable def Le (g h : PH) : Prop := ∀ b o, g b = some o → h b = some o
theorem Le.rfl {g : PH} : Le g g := fun _ _ e => e
theorem Le.trans {a b c : PH} (x : Le a b) (y : Le b c) : Le a c := fun p o e => y p o (x p o e)
theorem Dat.le {g g' : PH} (k : Le g g') {v d} (h : Dat g v d) : Dat g' v d :=
  Dat.rec (motive_1 := fun v d _ => Dat g' v d) (motive_2 := fun vs ds _ => DatAll g' vs ds) .none .bool .int .str (fun h o _ r => .tup (k _ _ h) o r) (fun h o _ r => .lst (k _ _ h) o r) .nil (fun _ _ h r => .cons h r) h
inductive All2 {α β : Type} (R : α → β → Prop) : List α → List β → Prop
  | nil : All2 R [] []
  | cons {a b as bs} : R a b → All2 R as bs → All2 R (a :: as) (b :: bs)
theorem All2.mono {α β : Type} {R R' : α → β → Prop} (k : ∀ a b, R a b → R' a b) {as bs} (h : All2 R as bs) : All2 R' as bs := by
  induction h with
  | nil => exact .nil
  | cons h _ ih => exact .cons (k _ _ h) ih
theorem All2.append {α β : Type} {R : α → β → Prop} {as bs cs ds} (h : All2 R as bs) (k : All2 R cs ds) : All2 R (as ++ cs) (bs ++ ds) := by
  induction h with
  | nil => exact k
  | cons h _ ih => exact .cons h ih
theorem All2.length {α β : Type} {R : α → β → Prop} {as bs} (h : All2 R as bs) : as.length = bs.length := by
  induction h with
  | nil => rfl
  | cons _ _ ih => exact congrArg Nat.succ ih
theorem All2.one {α β : Type} {R : α → β → Prop} {as : List α} {b : β} (h : All2 R as [b]) : ∃ a, as = [a] ∧ R a b := by
  cases h with | cons h r => cases r; exact ⟨_, rfl, h⟩
theorem All2.two {α β : Type} {R : α → β → Prop} {as : List α} {b c : β} (h : All2 R as [b, c]) : Ex2 fun a a' => And3 (as = [a, a']) (R a b) (R a' c) := by
  cases h with | cons h r => obtain ⟨_, rfl, i⟩ := r.one; exact ⟨_, _, rfl, h, i⟩
theorem All2.get {α β : Type} {R : α → β → Prop} {as : List α} {bs : List β} (h : All2 R as bs) : ∀ {i : Nat} {b : β}, bs[i]? = some b → ∃ a, as[i]? = some a ∧ R a b := by
  induction h with
  | nil => intro i b e; cases e
  | cons h _ ih =>
    intro i b e
    cases i with
    | zero => cases e; exact ⟨_, rfl, h⟩
    | succ i => exact ih (i := i) e
theorem All2.flip {α β : Type} {R : α → β → Prop} {as : List α} {bs : List β} (h : All2 R as bs) : All2 (fun b a => R a b) bs as := by
  induction h with
  | nil => exact .nil
  | cons h _ ih => exact .cons h ih
theorem All2.set {α β : Type} {R : α → β → Prop} {a : α} {b : β} (hr : R a b) {as : List α} {bs : List β} (h : All2 R as bs) : ∀ (i : Nat), All2 R (as.set i a) (bs.set i b) := by
  induction h with
  | nil => intro i; exact .nil
  | cons h r ih =>
    intro i
    cases i with
    | zero => exact .cons hr r
    | succ i => exact .cons h (ih i)
theorem All2.take {α β : Type} {R : α → β → Prop} {as : List α} {bs : List β} (h : All2 R as bs) : ∀ (n : Nat), All2 R (as.take n) (bs.take n) := by
  induction h with
  | nil => intro n; rw [List.take_nil, List.take_nil]; exact .nil
  | cons h r ih =>
    intro n
    cases n with
    | zero => exact .nil
    | succ n => exact .cons h (ih n)
theorem All2.drop {α β : Type} {R : α → β → Prop} {as : List α} {bs : List β} (h : All2 R as bs) : ∀ (n : Nat), All2 R (as.drop n) (bs.drop n) := by
  induction h with
  | nil => intro n; rw [List.drop_nil, List.drop_nil]; exact .nil
  | cons h r ih =>
    intro n
    cases n with
    | zero => exact .cons h r
    | succ n => exact ih n
theorem datAll_iff {g : PH} {vs ds} : DatAll g vs ds ↔ All2 (Dat g) vs ds :=
  ⟨fun h => DatAll.rec (motive_1 := fun _ _ _ => True) (motive_2 := fun vs ds _ => All2 (Dat g) vs ds) trivial (fun _ => trivial) (fun _ _ => trivial) (fun _ _ => trivial) (fun _ _ _ _ => trivial) (fun _ _ _ _ => trivial) .nil (fun h _ _ r => .cons h r) h,
    fun h => by
      induction h with
      | nil => exact .nil
      | cons h _ ih => exact .cons h ih⟩
theorem DatAll.le {g g' : PH} (k : Le g g') {vs ds} (h : DatAll g vs ds) : DatAll g' vs ds := datAll_iff.mpr ((datAll_iff.mp h).mono fun _ _ => Dat.le k)
theorem DatAll.length {g : PH} {vs ds} (h : DatAll g vs ds) : vs.length = ds.length := (datAll_iff.mp h).length
theorem DatAll.get {g : PH} {vs : List Value} {ds : List PV} (h : DatAll g vs ds) {i : Nat} {d : PV} (hd : ds[i]? = some d) : ∃ v, vs[i]? = some v ∧ Dat g v d := (datAll_iff.mp h).get hd
theorem DatAll.get' {g : PH} {vs : List Value} {ds : List PV} (h : DatAll g vs ds) {i : Nat} {v : Value} (hd : vs[i]? = some v) : ∃ d, ds[i]? = some d ∧ Dat g v d := (datAll_iff.mp h).flip.get hd
theorem DatAll.append {g : PH} {vs ws ds es} (h : DatAll g vs ds) (k : DatAll g ws es) : DatAll g (vs ++ ws) (ds ++ es) := datAll_iff.mpr ((datAll_iff.mp h).append (datAll_iff.mp k))
theorem DatAll.take {g : PH} {vs ds} (h : DatAll g vs ds) (n : Nat) : DatAll g (vs.take n) (ds.take n) := datAll_iff.mpr ((datAll_iff.mp h).take n)
theorem DatAll.drop {g : PH} {vs ds} (h : DatAll g vs ds) (n : Nat) : DatAll g (vs.drop n) (ds.drop n) := datAll_iff.mpr ((datAll_iff.mp h).drop n)
inductive Dsc where
  | d (x : PV)
  | m (a : Addr)
  | v (x : Value)
  | obj (o : Obj)
noncomputable def Is (g : PH) (v : Value) : Dsc → Prop
  | .d x => Dat g v x
  | .m a => v = .ref a
  | .v x => v = x
  | .obj o => ∃ a, v = .ref a ∧ g a = some o
theorem Is.le {g g' : PH} (k : Le g g') {v : Value} {D : Dsc} (h : Is g v D) : Is g' v D := by
  cases D with
  | d x => exact Dat.le k h
  | m a => exact h
  | v x => exact h
  | obj o => obtain ⟨a, e, h⟩ := h; exact ⟨a, e, k _ _ h⟩
theorem dat_all2 {g : PH} {vs : List Value} : ∀ {ds : List PV}, All2 (Is g) vs (ds.map Dsc.d) → DatAll g vs ds := by
  induction vs with
  | nil => intro ds h; cases ds with | nil => exact .nil | cons => cases h
  | cons v vs ih => intro ds h; cases ds with | nil => cases h | cons => cases h with | cons h r => exact .cons h (ih r)
inductive MO where
  | lst (ds : List Dsc)
  | dct (kvs : List (Str × Dsc))
  | map (kvs : List (Str × Dsc))
  | cell (D : Dsc)
  | cell0
structure Gl where
  prog : Program
  w : World
  base : Heap
  K : Frag
  p : Program
  loose : List Str
  mean : ExcName → Option Value
  mg : Str → Option Value
  mb : Str → Option Value
  os : OsState
structure Gl.Ok (G : Gl) : Prop where
  X : G.K.In G.base
  T : Top G.p G.loose G.mean G.mg G.mb G.base
noncomputable abbrev Gl.M (G : Gl) : Model := model G.prog G.w
noncomputable def EntIs (G : Gl) (g : PH) (e : DictEntry) (kv : Str × Dsc) : Prop :=
  (∃ t, e.key = .str kv.1 t) ∧ e.hash = PyData.keyHash G.w.params kv.1 ∧ Is g e.val kv.2
noncomputable def MOk (G : Gl) (g : PH) (o : Obj) : MO → Prop
  | .lst Ds => ∃ vs, SeqO "list" o vs ∧ All2 (Is g) vs Ds
  | .dct kvs => ∃ es n, o = dictOf es n ∧ All2 (EntIs G g) es kvs
  | .map kvs => ∃ kv, o.IsDictOf (PySem.strKind G.prog G.w) kv ∧ All2 (fun a b => a.1 = b.1 ∧ Is g a.2 b.2) kv kvs
  | .cell D => ∃ v, o.data = .cell (some v) ∧ Is g v D
  | .cell0 => o.data = .cell none
theorem MOk.le {G : Gl} {g g' : PH} (k : Le g g') {o : Obj} {mo : MO} (h : MOk G g o mo) : MOk G g' o mo := by
  cases mo with
  | lst Ds => obtain ⟨vs, e, h⟩ := h; exact ⟨vs, e, h.mono fun _ _ => Is.le k⟩
  | dct kvs => obtain ⟨es, n, e, h⟩ := h; exact ⟨es, n, e, h.mono fun _ _ ⟨a, b, c⟩ => ⟨a, b, c.le k⟩⟩
  | map kvs => obtain ⟨kv, e, h⟩ := h; exact ⟨kv, e, h.mono fun _ _ ⟨a, c⟩ => ⟨a, c.le k⟩⟩
  | cell D => obtain ⟨v, e, h⟩ := h; exact ⟨v, e, h.le k⟩
  | cell0 => exact h
structure St where
  loc : List (Str × Dsc)
  mu : List (Addr × MO)
structure Kx where
  A : Around
  env : Env
  envs : List Env
noncomputable def Kx.fr (k : Kx) : List Addr := k.envs.filterMap (·.frame)
structure Kx.Ok (k : Kx) : Prop where
  frames : k.A.frames = some k.envs
  kind : k.env.scope.kind = .function
  glob : k.env.globals = mainGlobals
  blt : k.env.builtins = builtinsNs
  hand : k.A.handled = none
noncomputable def Room (A : Around) (n : Nat) : Prop := A.depth + n < 1000 ∧ A.units + 12 * n < 9900
structure Kp (G : Gl) (k : Kx) (keep : PH) (hid : Addr → Prop) : Prop where
  base : ∀ b o, G.base.get? b = some o → keep b = some o
  L : keep k.env.locals = none
  Lb : G.base.objs.size ≤ k.env.locals
  hk : ∀ a, hid a → ∃ o, keep a = some o
  fr : ∀ e ∈ k.envs, e.scope.kind ≠ .module ∧ ∃ F, e.frame = some F ∧ G.base.get? F = none ∧ (F = k.env.locals ∨ ∃ o, keep F = some o ∧ ∀ vs, o.data ≠ .fields vs)
  frh : ∀ b ∈ k.fr, b = k.env.locals ∨ hid b
noncomputable def Kept (fr : List Addr) (k : PH) (h : Heap) : Prop := ∀ b o, k b = some o → (b ∉ fr ∧ h.get? b = some o) ∨ (b ∈ fr ∧ ∃ sl, h.get? b = some { o with slots := sl })
structure Site (G : Gl) (k : Kx) (keep : PH) (hid : Addr → Prop) (σ : St) (s : Shared) (g : PH) : Prop where
  base : ∀ b o, G.base.get? b = some o → g b = some o
  gh : ∀ b o, g b = some o → s.heap.get? b = some o
  kept : Kept k.fr keep s.heap
  ghid : ∀ a, hid a → g a = none
  gL : g k.env.locals = none
  locs : ∃ m, s.heap.Ns k.env.locals m ∧ ∀ x D, σ.loc.lookup x = some D → ∃ v, m x = some v ∧ Is g v D
  mus : ∀ p ∈ σ.mu, g p.1 = none ∧ keep p.1 = none ∧ p.1 ≠ k.env.locals ∧ ∃ o, s.heap.get? p.1 = some o ∧ MOk G g o p.2
  nodup : (σ.mu.map (·.1)).Nodup
  gens : s.gens = #[]
  os : s.os = G.os
noncomputable def PH.ext (g : PH) (a : Addr) (o : Obj) : PH := fun b => if b = a then some o else g b
theorem PH.le_ext {g : PH} {a : Addr} {o : Obj} (h : g a = none) : Le g (g.ext a o) := fun b o' e => by
  unfold PH.ext
  by_cases hb : b = a
  · subst hb; rw [h] at e; exact no_ns e
  · rw [if_neg hb]; exact e
theorem PH.ext_self {g : PH} {a : Addr} {o : Obj} : g.ext a o a = some o := by simp [PH.ext]
structure Gro (L : Addr) (h h' : Heap) : Prop where
  objs : ∀ b o, b ≠ L → h.get? b = some o → h'.get? b = some o
  ns : ∀ m, h.Ns L m → h'.Ns L m
theorem Gro.of {L : Addr} {h h' : Heap} (k : ∀ b o, h.get? b = some o → h'.get? b = some o) : Gro L h h' := ⟨fun b o _ e => k b o e, fun _ hm => hm.keeps k⟩
section
variable {G : Gl} {k : Kx} {keep : PH} {hid : Addr → Prop} {σ : St} {s s' : Shared} {g : PH}
theorem Kept.keep_get {fr : List Addr} {kp : PH} {h : Heap} (x : Kept fr kp h) {b : Addr} {o : Obj} (e : kp b = some o) : ∃ sl, h.get? b = some { o with slots := sl } := by
  rcases x b o e with ⟨_, h⟩ | ⟨_, h⟩
  · exact ⟨o.slots, h⟩
  · exact h
theorem Kept.mono {fr : List Addr} {kp : PH} {h h' : Heap} (x : Kept fr kp h) (c : ∀ b o, (∃ o', kp b = some o') → h.get? b = some o → h'.get? b = some o) : Kept fr kp h' := by
  intro b o e
  rcases x b o e with ⟨n, q⟩ | ⟨n, sl, q⟩
  · exact .inl ⟨n, c b o ⟨o, e⟩ q⟩
  · exact .inr ⟨n, sl, c b _ ⟨o, e⟩ q⟩
theorem Site.lookup (S : Site G k keep hid σ s g) {x : Str} {D : Dsc} (h : σ.loc.lookup x = some D) : (Ex2 fun m v => And3 (s.heap.Ns k.env.locals m) (m x = some v) (Is g v D)) := by
  obtain ⟨m, hm, hl⟩ := S.locs
  obtain ⟨v, hv, hi⟩ := hl x D h
  exact ⟨m, v, hm, hv, hi⟩
theorem Site.Llt (S : Site G k keep hid σ s g) : k.env.locals < s.heap.objs.size := by
  obtain ⟨m, hm, _⟩ := S.locs; exact hm.lt
theorem Site.gfresh (S : Site G k keep hid σ s g) : g s.heap.objs.size = none := by
  cases q : g s.heap.objs.size with
  | none => rfl
  | some o => exact absurd (Heap.lt_size (S.gh _ _ q)) (Nat.lt_irrefl _)
theorem Site.same (S : Site G k keep hid σ s g) (hK : Kp G k keep hid) (hk : Gro k.env.locals s.heap s'.heap) (hg : s'.gens = s.gens := by rfl) (ho : s'.os = s.os := by rfl) : Site G k keep hid σ s' g where
  base := S.base
  gh := fun b o e => hk.objs b o (fun q => by rw [q, S.gL] at e; exact no_ns e) (S.gh b o e)
  kept := S.kept.mono fun b o hb e => hk.objs b o (fun q => by obtain ⟨o', hb⟩ := hb; rw [q, hK.L] at hb; exact no_ns hb) e
  ghid := S.ghid
  gL := S.gL
  locs := let ⟨m, hm, hl⟩ := S.locs; ⟨m, hk.ns m hm, hl⟩
  mus := fun p hp => let ⟨a, b, c, o, ho, hm⟩ := S.mus p hp; ⟨a, b, c, o, hk.objs _ _ c ho, hm⟩
  nodup := S.nodup
  gens := hg.trans S.gens
  os := ho.trans S.os
theorem Site.grow (S : Site G k keep hid σ s g) {a : Addr} {o : Obj} (ha : s.heap.objs.size ≤ a) (hK : Kp G k keep hid) (hk : Gro k.env.locals s.heap s'.heap) (ho' : s'.heap.get? a = some o)
    (hg : s'.gens = s.gens := by rfl) (ho : s'.os = s.os := by rfl) : Site G k keep hid σ s' (g.ext a o) ∧ Le g (g.ext a o) := by
  have S' := S.same hK hk hg ho
  have ga : g a = none := by
    cases q : g a with
    | none => rfl
    | some o => exact absurd (Heap.lt_size (S.gh _ _ q)) (Nat.not_lt.mpr ha)
  have l := PH.le_ext (o := o) ga
  refine ⟨⟨fun b o' e => l _ _ (S.base b o' e), fun b o' e => ?_, S'.kept, fun b hb => ?_, ?_, ?_, fun p hp => ?_, S.nodup, S'.gens, S'.os⟩, l⟩
  · unfold PH.ext at e
    by_cases hb : b = a
    · rw [if_pos hb] at e; obtain rfl := Option.some.inj e; rw [hb]; exact ho'
    · rw [if_neg hb] at e; exact S'.gh b o' e
  · have : b ≠ a := by
      obtain ⟨o1, h1⟩ := hK.hk b hb
      obtain ⟨sl, h2⟩ := S.kept.keep_get h1
      exact fun q => absurd (Heap.lt_size h2) (Nat.not_lt.mpr (q ▸ ha))
    simp [PH.ext, this, S.ghid b hb]
  · have : k.env.locals ≠ a := fun q => absurd S.Llt (Nat.not_lt.mpr (q ▸ ha))
    simp [PH.ext, this, S.gL]
  · obtain ⟨m, hm, hl⟩ := S'.locs
    exact ⟨m, hm, fun x D e => let ⟨v, hv, hi⟩ := hl x D e; ⟨v, hv, hi.le l⟩⟩
  · obtain ⟨h1, h2, h3, o1, h4, h5⟩ := S.mus p hp
    have : p.1 ≠ a := fun q => absurd (Heap.lt_size h4) (Nat.not_lt.mpr (q ▸ ha))
    exact ⟨by simp [PH.ext, this, h1], h2, h3, o1, hk.objs _ _ h3 h4, h5.le l⟩
theorem Site.own (S : Site G k keep hid σ s g) {a : Addr} {o : Obj} {mo : MO} (ha : s.heap.objs.size ≤ a) (hK : Kp G k keep hid) (hk : Gro k.env.locals s.heap s'.heap) (ho' : s'.heap.get? a = some o) (hm : MOk G g o mo)
    (hg : s'.gens = s.gens := by rfl) (ho : s'.os = s.os := by rfl) : Site G k keep hid ⟨σ.loc, (a, mo) :: σ.mu⟩ s' g := by
  have S' := S.same hK hk hg ho
  refine ⟨S'.base, S'.gh, S'.kept, S'.ghid, S'.gL, S'.locs, fun p hp => ?_, ?_, S'.gens, S'.os⟩
  · rcases List.mem_cons.mp hp with rfl | hp
    · refine ⟨?_, ?_, fun q => absurd S.Llt (Nat.not_lt.mpr (q ▸ ha)), o, ho', hm⟩
      · cases q : g a with
        | none => rfl
        | some o => exact absurd (Heap.lt_size (S.gh _ _ q)) (Nat.not_lt.mpr ha)
      · cases q : keep a with
        | none => rfl
        | some o => obtain ⟨sl, h⟩ := S.kept.keep_get q; exact absurd (Heap.lt_size h) (Nat.not_lt.mpr ha)
    · exact S'.mus p hp
  · simp only [List.map_cons, List.nodup_cons]
    refine ⟨fun hm => ?_, S.nodup⟩
    obtain ⟨p, hp, e⟩ := List.mem_map.mp hm
    obtain ⟨_, _, _, o1, h4, _⟩ := S.mus p hp
    exact absurd (Heap.lt_size h4) (Nat.not_lt.mpr (e ▸ ha))
noncomputable def put (x : Str) (D : Dsc) (l : List (Str × Dsc)) : List (Str × Dsc) := (x, D) :: l
theorem lookup_put {x y : Str} {D : Dsc} {l : List (Str × Dsc)} : (put x D l).lookup y = if y = x then some D else l.lookup y := by
  unfold put
  rw [List.lookup_cons]
  by_cases h : y = x
  · simp [h]
  · have : (y == x) = false := by simpa using h
    simp [h, this]
theorem Site.bind (S : Site G k keep hid σ s g) (hK : Kp G k keep hid) {x : Str} {v : Value} {D : Dsc} (hs : Heap.SameBut k.env.locals s.heap s'.heap) (hn : ∀ m, s.heap.Ns k.env.locals m → s'.heap.Ns k.env.locals fun y => if y = x then some v else m y) (hv : Is g v D)
    (hg : s'.gens = s.gens := by rfl) (ho : s'.os = s.os := by rfl) : Site G k keep hid ⟨put x D σ.loc, σ.mu⟩ s' g where
  base := S.base
  gh := fun b o e => (hs.2 b fun q => by rw [q, S.gL] at e; exact no_ns e).trans (S.gh b o e)
  kept := S.kept.mono fun b o hb e => (hs.2 b fun q => by obtain ⟨o', h⟩ := hb; rw [q, hK.L] at h; exact no_ns h).trans e
  ghid := S.ghid
  gL := S.gL
  locs := by
    obtain ⟨m, hm, hl⟩ := S.locs
    refine ⟨_, hn m hm, fun y D' e => ?_⟩
    dsimp only at e
    rw [lookup_put] at e
    by_cases hy : y = x
    · rw [if_pos hy] at e; obtain rfl := Option.some.inj e; exact ⟨v, by simp [hy], hv⟩
    · rw [if_neg hy] at e; obtain ⟨u, h1, h2⟩ := hl y D' e; exact ⟨u, by simp [hy, h1], h2⟩
  mus := fun p hp => let ⟨a, b, c, o, ho, hm⟩ := S.mus p hp; ⟨a, b, c, o, (hs.2 _ c).trans ho, hm⟩
  nodup := S.nodup
  gens := hg.trans S.gens
  os := ho.trans S.os
inductive MuUp (a : Addr) (mo mo' : MO) : List (Addr × MO) → List (Addr × MO) → Prop
  | head {r} : MuUp a mo mo' ((a, mo) :: r) ((a, mo') :: r)
  | tail {p r r'} : MuUp a mo mo' r r' → MuUp a mo mo' (p :: r) (p :: r')
theorem MuUp.mem {a : Addr} {mo mo' : MO} {l l'} (h : MuUp a mo mo' l l') : (a, mo) ∈ l := by
  induction h with
  | head => exact .head _
  | tail _ ih => exact .tail _ ih
theorem MuUp.addrs {a : Addr} {mo mo' : MO} {l l'} (h : MuUp a mo mo' l l') : l'.map (·.1) = l.map (·.1) := by
  induction h with
  | head => rfl
  | tail _ ih => simp [ih]
theorem MuUp.mem' {a : Addr} {mo mo' : MO} {l l'} (h : MuUp a mo mo' l l') (nd : (l.map (·.1)).Nodup) {p} (hp : p ∈ l') : p = (a, mo') ∨ (p ∈ l ∧ p.1 ≠ a) := by
  induction h with
  | head =>
    simp only [List.map_cons, List.nodup_cons] at nd
    rcases List.mem_cons.mp hp with rfl | hp
    · exact .inl rfl
    · exact .inr ⟨.tail _ hp, fun q => nd.1 (q ▸ List.mem_map_of_mem hp)⟩
  | tail h ih =>
    simp only [List.map_cons, List.nodup_cons] at nd
    rcases List.mem_cons.mp hp with rfl | hp
    · refine .inr ⟨.head _, fun q => nd.1 ?_⟩
      rw [q]; exact List.mem_map_of_mem h.mem
    · rcases ih nd.2 hp with e | ⟨e, n⟩
      · exact .inl e
      · exact .inr ⟨.tail _ e, n⟩
theorem Site.upd (S : Site G k keep hid σ s g) {a : Addr} {mo mo' : MO} {mu' : List (Addr × MO)} {o' : Obj} (hu : MuUp a mo mo' σ.mu mu') (hs : Heap.ExtBut a s.heap s'.heap) (ho' : s'.heap.get? a = some o') (hm : MOk G g o' mo')
    (hg : s'.gens = s.gens := by rfl) (ho : s'.os = s.os := by rfl) : Site G k keep hid ⟨σ.loc, mu'⟩ s' g := by
  obtain ⟨ga, ka, la, o, hoa, _⟩ := S.mus _ hu.mem
  refine ⟨S.base, fun b o e => hs b o (fun q => by rw [q, ga] at e; exact no_ns e) (S.gh b o e), S.kept.mono fun b o hb e => hs b o (fun q => by obtain ⟨o1, h⟩ := hb; rw [q, ka] at h; exact no_ns h) e, S.ghid, S.gL, ?_, fun p hp => ?_, by rw [hu.addrs]; exact S.nodup, hg.trans S.gens, ho.trans S.os⟩
  · obtain ⟨m, hm, hl⟩ := S.locs
    exact ⟨m, hm.at' fun o e => hs _ o (fun q => la q.symm) e, hl⟩
  · rcases hu.mem' S.nodup hp with rfl | ⟨h, n⟩
    · exact ⟨ga, ka, la, o', ho', hm⟩
    · obtain ⟨a1, a2, a3, o1, a4, a5⟩ := S.mus p h
      exact ⟨a1, a2, a3, o1, hs _ _ n a4, a5⟩
theorem Site.forget (S : Site G k keep hid σ s g) {σ' : St} (hl : ∀ x D, σ'.loc.lookup x = some D → σ.loc.lookup x = some D) (hm : σ'.mu.Sublist σ.mu) : Site G k keep hid σ' s g where
  base := S.base
  gh := S.gh
  kept := S.kept
  ghid := S.ghid
  gL := S.gL
  locs := let ⟨m, hm, h⟩ := S.locs; ⟨m, hm, fun x D e => h x D (hl x D e)⟩
  mus := fun p hp => S.mus p (hm.subset hp)
  nodup := (hm.map _).nodup S.nodup
  gens := S.gens
  os := S.os
theorem Site.freeze (S : Site G k keep hid σ s g) {a : Addr} {xs : List PV} {mu' : List (Addr × MO)} {loc' : List (Str × Dsc)} (hp : σ.mu.Perm ((a, .lst (xs.map Dsc.d)) :: mu')) (hK : Kp G k keep hid)
    (hl : ∀ x D, loc'.lookup x = some D → σ.loc.lookup x = some D ∨ (σ.loc.lookup x = some (.m a) ∧ D = .d (.lst xs))) :
    ∃ g', Le g g' ∧ Site G k keep hid ⟨loc', mu'⟩ s g' ∧ Dat g' (.ref a) (.lst xs) := by
  obtain ⟨ga, ka, la, o, hoa, vs, hso, hall⟩ := S.mus (a, .lst (xs.map Dsc.d)) (hp.symm.subset (.head _))
  have l := PH.le_ext (o := o) ga
  have nd := (hp.map (·.1)).nodup_iff.mp S.nodup
  simp only [List.map_cons, List.nodup_cons] at nd
  have hD : Dat (g.ext a o) (.ref a) (.lst xs) := .lst PH.ext_self hso (DatAll.le l (dat_all2 hall))
  refine ⟨g.ext a o, l, ⟨fun b o' e => l _ _ (S.base b o' e), fun b o' e => ?_, S.kept, fun b hb => ?_, by simp [PH.ext, Ne.symm la, S.gL], ?_, fun p hp' => ?_, nd.2, S.gens, S.os⟩, hD⟩
  · unfold PH.ext at e
    by_cases hb : b = a
    · rw [if_pos hb] at e; obtain rfl := Option.some.inj e; rw [hb]; exact hoa
    · rw [if_neg hb] at e; exact S.gh b o' e
  · have : b ≠ a := fun q => by obtain ⟨o1, h1⟩ := hK.hk b hb; rw [q, ka] at h1; exact no_ns h1
    simp [PH.ext, this, S.ghid b hb]
  · obtain ⟨m, hm, h⟩ := S.locs
    refine ⟨m, hm, fun x D e => ?_⟩
    rcases hl x D e with e1 | ⟨e1, rfl⟩
    · obtain ⟨v, hv, hi⟩ := h x D e1; exact ⟨v, hv, hi.le l⟩
    · obtain ⟨v, hv, hi⟩ := h x _ e1; refine ⟨v, hv, ?_⟩; rw [show v = .ref a from hi]; exact hD
  · obtain ⟨a1, a2, a3, o1, a4, a5⟩ := S.mus p (hp.symm.subset (.tail _ hp'))
    have : p.1 ≠ a := fun q => nd.1 (q ▸ List.mem_map_of_mem hp')
    exact ⟨by simp [PH.ext, this, a1], a2, a3, o1, a4, a5.le l⟩
end
noncomputable def TbOk (keep g : PH) (L ea : Addr) (vs : Array Value) (h : Heap) : Prop :=
  vs[1]? = some .none ∨ (Ex4 fun T oT ts fl => And8 (vs[1]? = some (.ref T)) (h.get? T = some oT) (oT.data = .fields ts) (ts[3]? = some fl) ((fl = .none ∨ fl = rawInt L)) (keep T = none) (g T = none) (T ≠ ea))
structure FSite (G : Gl) (pf : Addr) (k : Kx) (keep g : PH) (n : Int) (e : Value) (s : Shared) : Prop where
  gh : ∀ b o, g b = some o → s.heap.get? b = some o
  kept : Kept k.fr keep s.heap
  ns : ∃ m, s.heap.Ns k.env.locals m
  gens : s.gens = #[]
  os : s.os = G.os
  exc : (Ex6 fun ea oe vs dd od x => And13 (e = .ref ea) (keep ea = none) (g ea = none) (keep dd = none) (g dd = none) (dd ≠ k.env.locals) (s.heap.get? ea = some oe) (oe.cls = .ref pf) (oe.dict = some dd) (oe.data = .fields vs) (s.heap.get? dd = some od) (MOk G (fun _ => none) od (.dct [(("what" : Str), .d (.str x)), (("step" : Str), .d (.int n))])) (TbOk keep g k.env.locals ea vs s.heap))
variable (G : Gl) (pf : Addr) (k : Kx)
noncomputable def AW (σ : St) (t : Sem Value) (P : St → Dsc → Prop) (F : Int → Prop) : Prop :=
  ∀ keep hid s g Q E, Kp G k keep hid → Site G k keep hid σ s g →
    (∀ σ' D v s' g', P σ' D → Le g g' → Site G k keep hid σ' s' g' → Is g' v D → Q v s') →
    (∀ n e s', F n → FSite G pf k keep g n e s' → E e s') → wpAny G.M k.A t Q E s
noncomputable def AB (σ : St) (t : Sem Bool) (P : St → Bool → Prop) (F : Int → Prop) : Prop :=
  ∀ keep hid s g Q E, Kp G k keep hid → Site G k keep hid σ s g →
    (∀ σ' b s' g', P σ' b → Le g g' → Site G k keep hid σ' s' g' → Q b s') →
    (∀ n e s', F n → FSite G pf k keep g n e s' → E e s') → wpAny G.M k.A t Q E s
noncomputable def AL (σ : St) (t : Sem (List Value)) (P : St → List Dsc → Prop) (F : Int → Prop) : Prop :=
  ∀ keep hid s g Q E, Kp G k keep hid → Site G k keep hid σ s g →
    (∀ σ' Ds vs s' g', P σ' Ds → Le g g' → Site G k keep hid σ' s' g' → All2 (Is g') vs Ds → Q vs s') →
    (∀ n e s', F n → FSite G pf k keep g n e s' → E e s') → wpAny G.M k.A t Q E s
noncomputable def AX (σ : St) (t : Sem Flow) (P : St → Prop) (R : St → Dsc → Prop) (F : Int → Prop) : Prop :=
  ∀ keep hid s g Q E, Kp G k keep hid → Site G k keep hid σ s g →
    (∀ σ' s' g', P σ' → Le g g' → Site G k keep hid σ' s' g' → Q .next s') →
    (∀ σ' D v s' g', R σ' D → Le g g' → Site G k keep hid σ' s' g' → Is g' v D → Q (.ret v) s') →
    (∀ n e s', F n → FSite G pf k keep g n e s' → E e s') → wpAny G.M k.A t Q E s
noncomputable def AO1 (σ : St) (f : Value → Sem Value) (D : Dsc) (P : St → Dsc → Prop) (F : Int → Prop) : Prop :=
  ∀ keep hid s g Q E v, Kp G k keep hid → Site G k keep hid σ s g → Is g v D →
    (∀ σ' D v s' g', P σ' D → Le g g' → Site G k keep hid σ' s' g' → Is g' v D → Q v s') →
    (∀ n e s', F n → FSite G pf k keep g n e s' → E e s') → wpAny G.M k.A (f v) Q E s
noncomputable def AO2 (σ : St) (f : Value → Value → Sem Value) (D₁ D₂ : Dsc) (P : St → Dsc → Prop) (F : Int → Prop) : Prop :=
  ∀ keep hid s g Q E v₁ v₂, Kp G k keep hid → Site G k keep hid σ s g → Is g v₁ D₁ → Is g v₂ D₂ →
    (∀ σ' D v s' g', P σ' D → Le g g' → Site G k keep hid σ' s' g' → Is g' v D → Q v s') →
    (∀ n e s', F n → FSite G pf k keep g n e s' → E e s') → wpAny G.M k.A (f v₁ v₂) Q E s
noncomputable def AC (σ : St) (f : Value) (Ds : List Dsc) (P : St → Dsc → Prop) (F : Int → Prop) : Prop :=
  ∀ keep hid s g Q E vs, Kp G k keep hid → Site G k keep hid σ s g → All2 (Is g) vs Ds →
    (∀ σ' D v s' g', P σ' D → Le g g' → Site G k keep hid σ' s' g' → Is g' v D → Q v s') →
    (∀ n e s', F n → FSite G pf k keep g n e s' → E e s') → wpAny G.M k.A (call f vs) Q E s
noncomputable def AT (σ : St) (D : Dsc) (P : Bool → Prop) : Prop :=
  ∀ keep hid s g Q E v, Kp G k keep hid → Site G k keep hid σ s g → Is g v D →
    (∀ b s' g', P b → Le g g' → Site G k keep hid σ s' g' → Q b s') → wpAny G.M k.A (truthy v) Q E s
variable {G pf k}
variable {σ : St} {P : St → Dsc → Prop} {PB : St → Bool → Prop} {PL : St → List Dsc → Prop} {PX : St → Prop} {R : St → Dsc → Prop} {F : Int → Prop}
theorem FSite.le {keep g g' : PH} {n : Int} {e : Value} {s : Shared} (l : Le g g') (x : FSite G pf k keep g' n e s) : FSite G pf k keep g n e s := by
  have no : ∀ a, g' a = none → g a = none := fun a h => by
    cases q : g a with
    | none => rfl
    | some o => rw [l a o q] at h; exact no_sn h
  obtain ⟨a1, a2, a3, a4, a5, ea, oe, vs, dd, od, xx, b1, b2, b3, b4, b5, b6, b7, b8, b9, b10, b11, b12, b13⟩ := x
  refine ⟨fun b o h => a1 b o (l b o h), a2, a3, a4, a5, ea, oe, vs, dd, od, xx, b1, b2, no _ b3, b4, no _ b5, b6, b7, b8, b9, b10, b11, b12, ?_⟩
  rcases b13 with h | ⟨T, oT, ts, fl, c1, c2, c3, c4, c5, c6, c7, c8⟩
  · exact .inl h
  · exact .inr ⟨T, oT, ts, fl, c1, c2, c3, c4, c5, c6, no _ c7, c8⟩
theorem AW.mono {t : Sem Value} {P' : St → Dsc → Prop} {F' : Int → Prop} (h : AW G pf k σ t P' F') (hp : ∀ σ D, P' σ D → P σ D) (hf : ∀ n, F' n → F n) : AW G pf k σ t P F :=
  fun keep hid s g Q E hK S ok er => h keep hid s g Q E hK S (fun σ' D v s' g' p => ok σ' D v s' g' (hp _ _ p)) fun n e s' f => er n e s' (hf n f)
theorem AX.mono {t : Sem Flow} {PX' : St → Prop} {R' : St → Dsc → Prop} {F' : Int → Prop} (h : AX G pf k σ t PX' R' F') (hp : ∀ σ, PX' σ → PX σ) (hr : ∀ σ D, R' σ D → R σ D) (hf : ∀ n, F' n → F n) : AX G pf k σ t PX R F :=
  fun keep hid s g Q E hK S ok rt er => h keep hid s g Q E hK S (fun σ' s' g' p => ok σ' s' g' (hp _ p)) (fun σ' D v s' g' p => rt σ' D v s' g' (hr _ _ p)) fun n e s' f => er n e s' (hf n f)
theorem Site.tok {keep hid s g} (S : Site G k keep hid σ s g) {tk : Nat} : Site G k keep hid σ { s with toks := tk } g := ⟨S.base, S.gh, S.kept, S.ghid, S.gL, S.locs, S.mus, S.nodup, S.gens, S.os⟩
section leaf
theorem aw_int {i : Int} {u : Nat} {pos : Pos} (h : P σ (.d (.int i))) : AW G pf k σ (eval (.Constant (.int i) u pos) k.env) P F :=
  fun _ _ _ g _ _ _ S ok _ => wpAny_Constant_int (ok _ _ _ _ g h .rfl S.tok (.int i _))
theorem aw_str {x : Str} {u : Nat} {pos : Pos} (h : P σ (.d (.str x))) : AW G pf k σ (eval (.Constant (.str x) u pos) k.env) P F :=
  fun _ _ _ g _ _ _ S ok _ => wpAny_Constant_str (ok _ _ _ _ g h .rfl S.tok (.str x _))
theorem aw_none {u : Nat} {pos : Pos} (h : P σ (.d .none)) : AW G pf k σ (eval (.Constant .none u pos) k.env) P F :=
  fun _ _ _ g _ _ _ S ok _ => wpAny_Constant_none (ok _ _ _ _ g h .rfl S .none)
theorem aw_bool {b : Bool} {u : Nat} {pos : Pos} (h : P σ (.d (.bool b))) : AW G pf k σ (eval (.Constant (.bool b) u pos) k.env) P F :=
  fun _ _ _ g _ _ _ S ok _ => wpAny_Constant_bool (ok _ _ _ _ g h .rfl S (.bool b))
theorem aw_loc (hk : k.Ok) {x : Str} {pos : Pos} {D : Dsc} (hx : k.env.kindOf x = some .local) (hl : σ.loc.lookup x = some D) (h : P σ D) (hd : (x == ("__debug__" : Str)) = false := by decide) : AW G pf k σ (eval (.Name x pos) k.env) P F :=
  fun _ _ _ g _ _ _ S ok _ => let ⟨_, _, hm, hv, hi⟩ := S.lookup hl; wpAny_Name (wpAny_loadName_local hk.kind hx hm hv (ok _ _ _ _ g h .rfl S hi)) hd
theorem aw_cell (hk : k.Ok) {x : Str} {pos : Pos} {D : Dsc} {c : Addr} (hx : k.env.kindOf x = some .cell) (hc : k.env.cells.lookup x = some c) (hm : (c, .cell D) ∈ σ.mu) (h : P σ D) (hd : (x == ("__debug__" : Str)) = false := by decide) : AW G pf k σ (eval (.Name x pos) k.env) P F :=
  fun _ _ _ g _ _ _ S ok _ => let ⟨_, _, _, o, ho, v, hv, hi⟩ := S.mus _ hm; wpAny_Name (wpAny_loadName_cell hk.kind hx hc ⟨o, ho, hv⟩ (ok _ _ _ _ g h .rfl S hi)) hd
theorem Site.stays {keep hid s g} (S : Site G k keep hid σ s g) : ∀ b o, G.base.get? b = some o → s.heap.get? b = some o := fun b o e => S.gh _ _ (S.base b o e)
theorem aw_glob (hG : G.Ok) (hk : k.Ok) {x : Str} {pos : Pos} {v : Value} (hx : k.env.kindOf x = some .globalImplicit) (e : nsIn G.K mainGlobals x = some (some v)) (h : P σ (.v v)) (hd : (x == ("__debug__" : Str)) = false := by decide) : AW G pf k σ (eval (.Name x pos) k.env) P F :=
  fun _ _ _ g _ _ _ S ok _ => Name_function_global hk.kind hx (loadGlobal_global (by rw [hk.glob]; exact hG.T.g.keeps S.stays) (mg_of hG.X hG.T.g e) (ok _ _ _ _ g h .rfl S rfl)) hd
theorem aw_blt (hG : G.Ok) (hk : k.Ok) {x : Str} {pos : Pos} {v : Value} (hx : k.env.kindOf x = some .globalImplicit) (e : nsIn G.K mainGlobals x = some none) (hv : bootBuiltins x = some v) (h : P σ (.v v)) (hn : x ≠ "__name__" := by decide) (hd : (x == ("__debug__" : Str)) = false := by decide) : AW G pf k σ (eval (.Name x pos) k.env) P F :=
  fun _ _ _ g _ _ _ S ok _ => Name_function_global hk.kind hx (loadGlobal_builtin (by rw [hk.glob]; exact hG.T.g.keeps S.stays) (mg_none_of hG.X hG.T.g e) (by rw [hk.blt]; exact hG.T.b.keeps S.stays) ((hG.T.builtins x hn).trans hv) (ok _ _ _ _ g h .rfl S rfl)) hd
end leaf
section expr
theorem aw_bin {l r : Expr} {op : Operator} {pos : Pos}
    (h : AW G pf k σ (eval l k.env) (fun σ₁ D₁ => AW G pf k σ₁ (eval r k.env) (fun σ₂ D₂ => AO2 G pf k σ₂ (binaryOp op) D₁ D₂ P F) F) F) : AW G pf k σ (eval (.BinOp l op r pos) k.env) P F :=
  fun keep hid s g Q E hK S ok er => wpAny_BinOp (h keep hid s g _ E hK S (fun σ₁ D₁ v₁ s₁ g₁ h₁ l₁ S₁ i₁ => h₁ keep hid s₁ g₁ _ E hK S₁
    (fun σ₂ D₂ v₂ s₂ g₂ h₂ l₂ S₂ i₂ => h₂ keep hid s₂ g₂ Q E v₁ v₂ hK S₂ (i₁.le l₂) i₂ (fun σ' D v s' g' p l => ok σ' D v s' g' p (l₁.trans (l₂.trans l))) fun n e s' f x => er n e s' f (x.le (l₁.trans l₂)))
    fun n e s' f x => er n e s' f (x.le l₁)) er)
theorem aw_cmp {l r : Expr} {op : CmpOp} {pos : Pos}
    (h : AW G pf k σ (eval l k.env) (fun σ₁ D₁ => AW G pf k σ₁ (eval r k.env) (fun σ₂ D₂ => AO2 G pf k σ₂ (compareOp op) D₁ D₂ P F) F) F) (hb : behindInMarks op r = false := by rfl) : AW G pf k σ (eval (.Compare l [op] [r] pos) k.env) P F :=
  fun keep hid s g Q E hK S ok er => wpAny_Compare1 (h keep hid s g _ E hK S (fun σ₁ D₁ v₁ s₁ g₁ h₁ l₁ S₁ i₁ => h₁ keep hid s₁ g₁ _ E hK S₁
    (fun σ₂ D₂ v₂ s₂ g₂ h₂ l₂ S₂ i₂ => h₂ keep hid s₂ g₂ Q E v₁ v₂ hK S₂ (i₁.le l₂) i₂ (fun σ' D v s' g' p l => ok σ' D v s' g' p (l₁.trans (l₂.trans l))) fun n e s' f x => er n e s' f (x.le (l₁.trans l₂)))
    fun n e s' f x => er n e s' f (x.le l₁)) er) hb
theorem ab_cmp {l r : Expr} {op : CmpOp} {pos : Pos} {whole : Sem Value}
    (h : AW G pf k σ (eval l k.env) (fun σ₁ D₁ => AW G pf k σ₁ (eval r k.env) (fun σ₂ D₂ => AO2 G pf k σ₂ (compareOp op) D₁ D₂ (fun σ₃ D₃ => AT G k σ₃ D₃ (PB σ₃)) F) F) F) (hb : behindInMarks op r = false := by rfl) : AB G pf k σ (PySem.isTrue (.Compare l [op] [r] pos) k.env whole) PB F :=
  fun keep hid s g Q E hK S ok er => wpAny_isTrue_Compare1 (h keep hid s g _ E hK S (fun σ₁ D₁ v₁ s₁ g₁ h₁ l₁ S₁ i₁ => h₁ keep hid s₁ g₁ _ E hK S₁
    (fun σ₂ D₂ v₂ s₂ g₂ h₂ l₂ S₂ i₂ => h₂ keep hid s₂ g₂ _ E v₁ v₂ hK S₂ (i₁.le l₂) i₂ (fun σ₃ D₃ v₃ s₃ g₃ h₃ l₃ S₃ i₃ => h₃ keep hid s₃ g₃ Q E v₃ hK S₃ i₃ fun b s' g' p l S' => ok _ b s' g' p (l₁.trans (l₂.trans (l₃.trans l))) S')
      fun n e s' f x => er n e s' f (x.le (l₁.trans l₂)))
    fun n e s' f x => er n e s' f (x.le l₁)) er) hb
theorem ab_val {e : Expr} {whole : Sem Value} (h : AW G pf k σ whole (fun σ₁ D => AT G k σ₁ D (PB σ₁)) F)
    (hs : PySem.isTrue e k.env whole = (do let v ← whole; standAt (Expr.pos e); holding [v] (truthy v)) := by rfl) : AB G pf k σ (PySem.isTrue e k.env whole) PB F :=
  fun keep hid s g Q E hK S ok er => wpAny_isTrue_value (h keep hid s g _ E hK S (fun σ₁ D v s₁ g₁ h₁ l₁ S₁ i₁ => h₁ keep hid s₁ g₁ Q E v hK S₁ i₁ fun b s' g' p l S' => ok _ b s' g' p (l₁.trans l) S') er) hs
theorem ab_not {x : Expr} {pos : Pos} {whole : Sem Value} (h : AB G pf k σ (PySem.isTrue x k.env (eval x k.env)) (fun σ' b => PB σ' (!b)) F) : AB G pf k σ (PySem.isTrue (.UnaryOp .Not x pos) k.env whole) PB F :=
  fun keep hid s g Q E hK S ok er => wpAny_isTrue_Not (h keep hid s g _ E hK S (fun σ' b s' g' p l S' => ok σ' (!b) s' g' p l S') er)
theorem ab_bool {op : BoolOp} {es : List Expr} {pos : Pos} {whole : Sem Value} (h : AB G pf k σ (allTrue op es k.env) PB F) : AB G pf k σ (PySem.isTrue (.BoolOp op es pos) k.env whole) PB F :=
  fun keep hid s g Q E hK S ok er => wpAny_isTrue_BoolOp (h keep hid s g Q E hK S ok er)
theorem ab_and {x : Expr} {rest : List Expr} (h : AB G pf k σ (PySem.isTrue x k.env (eval x k.env)) (fun σ' b => if b = true then AB G pf k σ' (allTrue .And rest k.env) PB F else PB σ' false) F) : AB G pf k σ (allTrue .And (x :: rest) k.env) PB F :=
  fun keep hid s g Q E hK S ok er => wpAny_allTrue_And_cons (h keep hid s g _ E hK S (fun σ' b s' g' p l S' => by
    cases b with
    | true => rw [if_pos rfl] at p ⊢; exact p keep hid s' g' Q E hK S' (fun σ'' b s'' g'' p l' S'' => ok σ'' b s'' g'' p (l.trans l') S'') fun n e s'' f x => er n e s'' f (x.le l)
    | false => rw [if_neg (by decide)] at p ⊢; exact ok σ' false s' g' p l S') er)
theorem ab_or {x : Expr} {rest : List Expr} (h : AB G pf k σ (PySem.isTrue x k.env (eval x k.env)) (fun σ' b => if b = true then PB σ' true else AB G pf k σ' (allTrue .Or rest k.env) PB F) F) : AB G pf k σ (allTrue .Or (x :: rest) k.env) PB F :=
  fun keep hid s g Q E hK S ok er => wpAny_allTrue_Or_cons (h keep hid s g _ E hK S (fun σ' b s' g' p l S' => by
    cases b with
    | false => rw [if_neg (by decide)] at p ⊢; exact p keep hid s' g' Q E hK S' (fun σ'' b s'' g'' p l' S'' => ok σ'' b s'' g'' p (l.trans l') S'') fun n e s'' f x => er n e s'' f (x.le l)
    | true => rw [if_pos rfl] at p ⊢; exact ok σ' true s' g' p l S') er)
theorem ab_and_nil (h : PB σ true) : AB G pf k σ (allTrue .And [] k.env) PB F :=
  fun _ _ s g _ _ _ S ok _ => wpAny_allTrue_And_nil (ok σ true s g h .rfl S)
theorem ab_or_nil (h : PB σ false) : AB G pf k σ (allTrue .Or [] k.env) PB F :=
  fun _ _ s g _ _ _ S ok _ => wpAny_allTrue_Or_nil (ok σ false s g h .rfl S)
theorem aw_ife {t b o : Expr} {pos : Pos} (h : AB G pf k σ (PySem.isTrue t k.env (eval t k.env)) (fun σ' c => if c = true then AW G pf k σ' (eval b k.env) P F else AW G pf k σ' (eval o k.env) P F) F) : AW G pf k σ (eval (.IfExp t b o pos) k.env) P F :=
  fun keep hid s g Q E hK S ok er => wpAny_IfExp (h keep hid s g _ E hK S (fun σ' c s' g' p l S' => by
    cases c with
    | true => rw [if_pos rfl] at p ⊢; exact p keep hid s' g' Q E hK S' (fun σ'' D v s'' g'' p l' => ok σ'' D v s'' g'' p (l.trans l')) fun n e s'' f x => er n e s'' f (x.le l)
    | false => rw [if_neg (by decide)] at p ⊢; exact p keep hid s' g' Q E hK S' (fun σ'' D v s'' g'' p l' => ok σ'' D v s'' g'' p (l.trans l')) fun n e s'' f x => er n e s'' f (x.le l)) er)
theorem al_nil {pos : Pos} (h : PL σ []) : AL G pf k σ (spliced (backTo pos (starEach [] k.env))) PL F :=
  fun _ _ s g _ _ _ S ok _ => spliced_nil (ok σ [] [] s g h .rfl S .nil)
theorem al_cons {e : Expr} {es : List Expr} {pos : Pos} (h : AW G pf k σ (eval e k.env) (fun σ₁ D => AL G pf k σ₁ (spliced (backTo pos (starEach es k.env))) (fun σ₂ Ds => PL σ₂ (D :: Ds)) F) F)
    (hs : starEach (e :: es) k.env = (false, eval e k.env) :: starEach es k.env := by rfl) : AL G pf k σ (spliced (backTo pos (starEach (e :: es) k.env))) PL F := by
  intro keep hid s g Q E hK S ok er
  rw [hs]
  exact spliced_cons (h keep hid s g _ E hK S (fun σ₁ D v s₁ g₁ h₁ l₁ S₁ i₁ => h₁ keep hid s₁ g₁ _ E hK S₁
    (fun σ₂ Ds vs s₂ g₂ p l₂ S₂ i₂ => ok σ₂ (D :: Ds) (v :: vs) s₂ g₂ p (l₁.trans l₂) S₂ (.cons (i₁.le l₂) i₂)) fun n e s' f x => er n e s' f (x.le l₁)) er)
inductive Callee (G : Gl) : Value → Prop
  | blt (id) : Callee G (.builtin id)
  | type (T) : Callee G (.type T)
  | own {f} : keepIn G.K f = true → Callee G f
theorem evalArgs_all {M : Model} {A : Around} {E : Value → Shared → Prop} {s : Shared} {f : Value} {pos : Pos} {es : List Expr} {env : Env} {Q : Args → Shared → Prop} (hp : (backTo pos (starEach es env)).any (·.1) = false)
    (h : wpAny M A (spliced (backTo pos (starEach es env))) (fun vs s' => Q ⟨vs, []⟩ s') E s) : wpAny M A (evalArgs f true (backTo pos (starEach es env)) []) Q E s := by
  cases q : backTo pos (starEach es env) with
  | nil =>
    rw [q] at h
    unfold evalArgs
    show wpAny M A (spliced [] >>= _) Q E s
    refine wpAny_bind (wpAny_mono h (fun vs s' h' => ?_) fun _ _ x => x)
    refine wpAny_holding ?_
    exact wpAny_bind (wpAny_pure (wpAny_bind (wpAny_pure (wpAny_pure h'))))
  | cons p r =>
    obtain ⟨b, t⟩ := p
    rw [q] at hp h
    simp only [List.any_cons, Bool.or_eq_false_iff] at hp
    obtain ⟨rfl, _⟩ := hp
    exact evalArgs_plain h
theorem callWith_any (hG : G.Ok) {A : Around} {E : Value → Shared → Prop} {s : Shared} {f : Value} {pos : Pos} {first : List Value} {es : List Expr} {env : Env} {Q : Value → Shared → Prop} (hf : Callee G f) (hp : (backTo pos (starEach es env)).any (·.1) = false)
    (h : wpAny G.M A (spliced (backTo pos (starEach es env))) (fun vs s' => (∀ b o, G.base.get? b = some o → s'.heap.get? b = some o) ∧ wpAny G.M A (call f (first ++ vs)) Q E s') E s) : wpAny G.M A (callWith pos f first (backTo pos (starEach es env)) []) Q E s := by
  cases hf with
  | blt id => exact callWith_builtin hp (evalArgs_all hp (wpAny_mono h (fun _ _ x => x.2) fun _ _ x => x))
  | type T => exact PySem.callWith_type hp (evalArgs_all hp (wpAny_mono h (fun _ _ x => x.2) fun _ _ x => x))
  | own hk => exact callWith_of (P := fun h => G.K.In h) (by rw [hp]; rfl) (keeps_K hk) (evalArgs_all hp (wpAny_mono h (fun _ _ x => ⟨hG.X.keeps x.1, x.2⟩) fun _ _ x => x))
theorem aw_call (hG : G.Ok) {id : Str} {p pos : Pos} {es : List Expr} (h : AW G pf k σ (eval (.Name id p) k.env) (fun σ₁ D => ∃ f, D = .v f ∧ Callee G f ∧ AL G pf k σ₁ (spliced (backTo pos (starEach es k.env))) (fun σ₂ Ds => AC G pf k σ₂ f Ds P F) F) F)
    (hp : (backTo pos (starEach es k.env)).any (·.1) = false := by rfl) : AW G pf k σ (eval (.Call (.Name id p) es [] pos) k.env) P F := by
  intro keep hid s g Q E hK S ok er
  refine wpAny_Call_NameR (h keep hid s g _ E hK S (fun σ₁ D v s₁ g₁ h₁ l₁ S₁ i₁ => ?_) er)
  obtain ⟨f, rfl, hf, h₂⟩ := h₁
  cases i₁
  refine callWith_any hG hf hp (h₂ keep hid s₁ g₁ _ E hK S₁ (fun σ₂ Ds vs s₂ g₂ h₃ l₂ S₂ i₂ => ⟨S₂.stays, ?_⟩) fun n e s' f x => er n e s' f (x.le l₁))
  exact h₃ keep hid s₂ g₂ Q E vs hK S₂ i₂ (fun σ' D v s' g' p l => ok σ' D v s' g' p (l₁.trans (l₂.trans l))) fun n e s' f x => er n e s' f (x.le (l₁.trans l₂))
noncomputable def OfType (σ : St) : Dsc → String → Prop
  | .d (.str _), T => T = "str"
  | .d (.lst _), T => T = "list"
  | .d (.tup _), T => T = "tuple"
  | .m a, T => T = "list" ∧ ∃ Ds, (a, .lst Ds) ∈ σ.mu
  | _, _ => False
theorem OfType.typeIs {keep hid s g} (S : Site G k keep hid σ s g) {v : Value} {D : Dsc} {T : String} (h : OfType σ D T) (i : Is g v D) : s.TypeIs v T ∧ ∀ a, v = .ref a → ∃ ob, s.heap.get? a = some ob ∧ ob.dict = none := by
  cases D with
  | d x =>
    cases x with
    | str x => cases h; obtain ⟨_, rfl⟩ := Dat.inv i; exact ⟨rfl, fun _ e => by cases e⟩
    | lst x => cases h; obtain ⟨_, _, _, rfl, hm, ho, _⟩ := Dat.inv i; exact ⟨⟨_, S.gh _ _ hm, ho.cls⟩, fun _ e => by cases e; exact ⟨_, S.gh _ _ hm, ho.dict⟩⟩
    | tup x => cases h; obtain ⟨_, _, _, rfl, hm, ho, _⟩ := Dat.inv i; exact ⟨⟨_, S.gh _ _ hm, ho.cls⟩, fun _ e => by cases e; exact ⟨_, S.gh _ _ hm, ho.dict⟩⟩
    | none => cases h
    | bool _ => cases h
    | int _ => cases h
  | m a =>
    obtain ⟨rfl, Ds, hm⟩ := h
    obtain ⟨_, _, _, o, ho, vs, hq, _⟩ := S.mus _ hm
    cases i
    exact ⟨⟨_, ho, hq.cls⟩, fun _ e => by cases e; exact ⟨_, ho, hq.dict⟩⟩
  | v x => cases h
  | obj o => cases h
theorem aw_meth (hG : G.Ok) {o : Expr} {name : Str} {apos pos : Pos} {es : List Expr} {T id : String} (hT : PlainAttrs T) (hsl : Slot T name id) (hty : typeOf (.builtin id) = pure (.type "method_descriptor"))
    (h : AW G pf k σ (eval o k.env) (fun σ₁ D => OfType σ₁ D T ∧ AL G pf k σ₁ (spliced (backTo pos (starEach es k.env))) (fun σ₂ Ds => AC G pf k σ₂ (.builtin id) (D :: Ds) P F) F) F)
    (ha : attributeBase o name k.env (eval o k.env) = eval o k.env := by rfl)
    (hp : (((List.all (backTo pos (starEach es k.env)) fun x => !x.fst) && List.all (backToKw pos (keywordEach [] k.env)) fun x => Option.isSome x.fst) && decide ((List.length es + List.length ([] : List Keyword) + if List.isEmpty ([] : List Keyword) = true then 0 else 1) < 30)) = true := by rfl)
    (hl : (apos.endLine == pos.line) = true := by rfl) (hp' : (backTo pos (starEach es k.env)).any (·.1) = false := by rfl) : AW G pf k σ (eval (.Call (.Attribute o name apos) es [] pos) k.env) P F := by
  intro keep hid s g Q E hK S ok er
  refine wpAny_Call_method ha hp hl hT hsl hty (h keep hid s g _ E hK S (fun σ₁ D v s₁ g₁ h₁ l₁ S₁ i₁ => ?_) er)
  obtain ⟨hO, h₂⟩ := h₁
  obtain ⟨t1, t2⟩ := hO.typeIs S₁ i₁
  refine ⟨t1, t2, callWith_any hG (.blt id) hp' (h₂ keep hid s₁ g₁ _ E hK S₁ (fun σ₂ Ds vs s₂ g₂ h₃ l₂ S₂ i₂ => ⟨S₂.stays, ?_⟩) fun n e s' f x => er n e s' f (x.le l₁))⟩
  exact h₃ keep hid s₂ g₂ Q E (v :: vs) hK S₂ (.cons (i₁.le l₂) i₂) (fun σ' D v s' g' p l => ok σ' D v s' g' p (l₁.trans (l₂.trans l))) fun n e s' f x => er n e s' f (x.le (l₁.trans l₂))
theorem aw_sub {o i : Expr} {pos : Pos} (h : AW G pf k σ (eval o k.env) (fun σ₁ D₁ => AW G pf k σ₁ (eval i k.env) (fun σ₂ D₂ => AO2 G pf k σ₂ (subscriptTail o i) D₁ D₂ P F) F) F) : AW G pf k σ (eval (.Subscript o i pos) k.env) P F :=
  fun keep hid s g Q E hK S ok er => Subscript_ (h keep hid s g _ E hK S (fun σ₁ D₁ v₁ s₁ g₁ h₁ l₁ S₁ i₁ => h₁ keep hid s₁ g₁ _ E hK S₁
    (fun σ₂ D₂ v₂ s₂ g₂ h₂ l₂ S₂ i₂ => h₂ keep hid s₂ g₂ Q E v₁ v₂ hK S₂ (i₁.le l₂) i₂ (fun σ' D v s' g' p l => ok σ' D v s' g' p (l₁.trans (l₂.trans l))) fun n e s' f x => er n e s' f (x.le (l₁.trans l₂)))
    fun n e s' f x => er n e s' f (x.le l₁)) er)
theorem aw_attr {o : Expr} {attr : Str} {pos : Pos} (h : AW G pf k σ (eval o k.env) (fun σ₁ D => AO1 G pf k σ₁ (fun v => getAttr v attr true) D P F) F)
    (hs : eval (Expr.Attribute o attr pos) k.env = (do let v ← eval o k.env; standAt (Pos.atName pos); let r ← holding [v] (getAttr v attr true); letTemporaryGo o v r; pure r) := by rfl) : AW G pf k σ (eval (.Attribute o attr pos) k.env) P F :=
  fun keep hid s g Q E hK S ok er => Attribute_any_ (h keep hid s g _ E hK S (fun σ₁ D v s₁ g₁ h₁ l₁ S₁ i₁ => h₁ keep hid s₁ g₁ Q E v hK S₁ i₁ (fun σ' D v s' g' p l => ok σ' D v s' g' p (l₁.trans l)) fun n e s' f x => er n e s' f (x.le l₁)) er) hs
theorem aw_tuple {es : List Expr} {u : Nat} {pos : Pos} (h : AL G pf k σ (spliced (backTo pos (starEach es k.env))) (fun σ' Ds => ∃ xs, Ds = xs.map Dsc.d ∧ xs.length ≤ sizeLine ∧ P σ' (.d (.tup xs))) F) : AW G pf k σ (eval (.Tuple es u pos) k.env) P F := by
  intro keep hid s g Q E hK S ok er
  refine Tuple_ (h keep hid s g _ E hK S (fun σ' Ds vs s' g' p l S' i => ?_) er)
  obtain ⟨xs, rfl, hn, p⟩ := p
  have hv := dat_all2 i
  refine wpAny_newTuple ?_ (hv.length ▸ hn)
  obtain ⟨S'', l'⟩ := S'.grow (s' := { s' with heap := s'.heap.push ({ cls := .type "tuple", data := .seq vs.toArray }) }) (o := { cls := .type "tuple", data := .seq vs.toArray }) (Nat.le_refl _) hK (.of fun b o e => Heap.get?_push_of_some _ e) (Heap.get?_push_size _ rfl)
  exact ok σ' _ _ _ _ p (l.trans l') S'' (.tup PH.ext_self ⟨rfl, rfl, rfl, 0, rfl⟩ (hv.le l'))
theorem aw_list {es : List Expr} {pos : Pos} (h : AL G pf k σ (spliced (backTo pos (starEach es k.env))) (fun σ' Ds => Ds.length ≤ sizeLine ∧ ∀ a, P ⟨σ'.loc, (a, .lst Ds) :: σ'.mu⟩ (.m a)) F) : AW G pf k σ (eval (.List es pos) k.env) P F := by
  intro keep hid s g Q E hK S ok er
  refine List_ (h keep hid s g _ E hK S (fun σ' Ds vs s' g' p l S' i => ?_) er)
  refine wpAny_newList ?_ (i.length ▸ p.1)
  refine ok _ _ _ _ g' (p.2 _) l (S'.own (s' := { s' with heap := s'.heap.push ({ cls := .type "list", data := .seq vs.toArray }) }) (o := { cls := .type "list", data := .seq vs.toArray }) (Nat.le_refl _) hK (.of fun b o e => Heap.get?_push_of_some _ e) (Heap.get?_push_size _ rfl) ⟨vs, ⟨rfl, rfl, rfl, 0, rfl⟩, i⟩) rfl
theorem aw_listD {es : List Expr} {pos : Pos} (h : AL G pf k σ (spliced (backTo pos (starEach es k.env))) (fun σ' Ds => ∃ xs, Ds = xs.map Dsc.d ∧ xs.length ≤ sizeLine ∧ P σ' (.d (.lst xs))) F) : AW G pf k σ (eval (.List es pos) k.env) P F := by
  intro keep hid s g Q E hK S ok er
  refine List_ (h keep hid s g _ E hK S (fun σ' Ds vs s' g' p l S' i => ?_) er)
  obtain ⟨xs, rfl, hn, p⟩ := p
  have hv := dat_all2 i
  refine wpAny_newList ?_ (hv.length ▸ hn)
  obtain ⟨S'', l'⟩ := S'.grow (s' := { s' with heap := s'.heap.push ({ cls := .type "list", data := .seq vs.toArray }) }) (o := { cls := .type "list", data := .seq vs.toArray }) (Nat.le_refl _) hK (.of fun b o e => Heap.get?_push_of_some _ e) (Heap.get?_push_size _ rfl)
  exact ok σ' _ _ _ _ p (l.trans l') S'' (.lst PH.ext_self ⟨rfl, rfl, rfl, 0, rfl⟩ (hv.le l'))
end expr
end
section
set_option linter.unusedVariables false
set_option maxRecDepth 100000
open PySem PySem.W PySem.Spec PySem.Calls PyProof.Rows PyProof.V
variable {G : Gl} {pf : Addr} {k : Kx}
structure Kx.Fun (k : Kx) : Prop where
  top : ∃ outer, k.envs = k.env :: outer
  frame : k.env.frame = some k.env.locals
theorem funFrames_of {keep : PH} {hid : Addr → Prop} {h : Heap} (hK : Kp G k keep hid) (kp : Kept k.fr keep h) (hn : ∃ m, h.Ns k.env.locals m) : h.FunFrames G.base k.envs := by
  have all : ∀ l : List Env, (∀ e ∈ l, e ∈ k.envs) → h.FunFrames G.base l := by
    intro l
    induction l with
    | nil => intro _; trivial
    | cons e r ih =>
      intro hl
      obtain ⟨h1, Fa, h2, h3, h4⟩ := hK.fr e (hl e (.head _))
      refine ⟨h1, ⟨Fa, ?_⟩, ih fun x hx => hl x (.tail _ hx)⟩
      rcases h4 with rfl | ⟨o, ho, hd⟩
      · obtain ⟨m, o, es, ep, ho, hd, _⟩ := hn
        exact ⟨o, h2, h3, ho, fun vs q => by rw [hd] at q; exact no_df q⟩
      · obtain ⟨sl, q⟩ := kp.keep_get ho
        exact ⟨_, h2, h3, q, hd⟩
  exact all _ fun _ x => x
theorem Kept.slots {fr : List Addr} {kp : PH} {h h' : Heap} (x : Kept fr kp h) (hs : Heap.SlotsOnly fr h h') : Kept fr kp h' := by
  intro b o e
  rcases x b o e with ⟨n, q⟩ | ⟨n, sl, q⟩
  · exact .inl ⟨n, (hs.2.1 b n).trans q⟩
  · obtain ⟨sl', q'⟩ := hs.2.2 b _ q; exact .inr ⟨n, sl', q'⟩
theorem entry_new (hk : k.Ok) (hF : k.Fun) {keep : PH} {hid : Addr → Prop} {g : PH} {n : Int} {s : Shared} {ea dd : Addr} {oe od : Obj} {vs : Array Value} {xx : Str} {head : Value} {had : Bool} {Q : Unit → Shared → Prop} {E : Value → Shared → Prop}
    (hK : Kp G k keep hid) (hfr : ∀ b ∈ k.fr, g b = none) (gh : ∀ b o, g b = some o → s.heap.get? b = some o) (kp : Kept k.fr keep s.heap) (ns : ∃ m, s.heap.Ns k.env.locals m) (gens : s.gens = #[]) (os : s.os = G.os)
    (b2 : keep ea = none) (b3 : g ea = none) (b4 : keep dd = none) (b5 : g dd = none) (b6 : dd ≠ k.env.locals) (b7 : s.heap.get? ea = some oe) (b8 : oe.cls = .ref pf) (b9 : oe.dict = some dd) (b10 : oe.data = .fields vs)
    (b11 : s.heap.get? dd = some od) (b12 : MOk G (fun _ => none) od (.dct [(("what" : Str), .d (.str xx)), (("step" : Str), .d (.int n))])) (hsz : 1 < vs.size)
    (h : ∀ s', FSite G pf k keep g n (.ref ea) s' → (Ex5 fun oe vs T oT ts => And9 (s'.heap.get? ea = some oe) (oe.data = .fields vs) (vs[1]? = some (.ref T)) (s'.heap.get? T = some oT) (oT.data = .fields ts) (ts[3]? = some (rawInt k.env.locals)) (T ≠ ea) (keep T = none) (g T = none)) → Q () s') :
    wpAny G.M k.A (do let a ← frameOf k.env; let pl ← entryPlaceOf k.env.locals had; let b ← EntryCells.newEntry head a .none (rawInt k.env.locals) .none pl; setField (.ref ea) 1 b) Q E s := by
  obtain ⟨outer, ho⟩ := hF.top
  have ff := funFrames_of hK kp ns
  have hL : k.env.locals ∈ k.fr := by unfold Kx.fr; rw [ho]; simp [hF.frame]
  have eaF : ea ∉ k.fr := fun hm => by
    obtain ⟨_, o, q, hnf⟩ := ff.mem hm
    rw [b7] at q; obtain rfl := Option.some.inj q; exact hnf vs b10
  have ddF : dd ∉ k.fr := fun hm => by
    unfold Kx.fr at hm
    obtain ⟨e, he, hf⟩ := List.mem_filterMap.mp hm
    obtain ⟨_, F, h2, _, h4⟩ := hK.fr e he
    rw [hf] at h2; obtain rfl := Option.some.inj h2
    rcases h4 with h4 | ⟨o, h4, _⟩
    · exact b6 h4
    · rw [b4] at h4; exact no_ns h4
  refine wpAny_bind (wpAny_frameOf_fun (by rw [hk.frames, ho]) (ho ▸ ff) hF.frame fun h₁ hs₁ => ?_)
  have hs₁ : Heap.SlotsOnly k.fr s.heap h₁ := by unfold Kx.fr; rw [ho]; exact hs₁
  refine wpAny_bind (wpAny_entryPlaceOf fun pl hpl => ?_)
  unfold EntryCells.newEntry newFields
  refine wpAny_bind (wpAny_newObj_type ?_ (hpl.sizeOk5 _ _ _ _ _))
  have he₁ : h₁.get? ea = some oe := (hs₁.2.1 ea eaF).trans b7
  generalize hts : (([head, .ref k.env.locals, .none, rawInt k.env.locals, .none] : List Value) ++ (if pl.isEmpty then List.replicate 6 Value.none else pl)).toArray = ts
  have h3 : ts[3]? = some (rawInt k.env.locals) := by rw [← hts]; simp
  have he₂ := Heap.get?_push_of_some (h := h₁) { cls := .type "traceback", dict := none, data := .fields ts } he₁
  refine wpAny_setField he₂ b10 hsz ?_
  have hTe : h₁.objs.size ≠ ea := Nat.ne_of_gt (Heap.lt_size he₁)
  have hd₃ := Obj.data_mapFields b10 (·.setIfInBounds 1 (Value.ref h₁.objs.size))
  have he₃ := Heap.get?_update_self (Obj.mapFields (·.setIfInBounds 1 (Value.ref h₁.objs.size))) he₂ (Obj.isFreed_of_fields hd₃)
  have hT₃ := (Heap.get?_update_other (h₁.push { cls := .type "traceback", dict := none, data := .fields ts }) (Obj.mapFields (·.setIfInBounds 1 (Value.ref h₁.objs.size))) (Ne.symm hTe)).trans (Heap.get?_push_size h₁ rfl)
  have kpp : ∀ b o, b ≠ ea → h₁.get? b = some o → ((h₁.push { cls := .type "traceback", dict := none, data := .fields ts }).update ea (Obj.mapFields (·.setIfInBounds 1 (Value.ref h₁.objs.size)))).get? b = some o := fun b o hbe hb => by
    rw [Heap.get?_update_other _ _ (Ne.symm hbe)]; exact Heap.get?_push_of_some _ hb
  have kT : ∀ (p : PH), (∀ b o, p b = some o → ∃ o', s.heap.get? b = some o') → p h₁.objs.size = none := fun p hp => by
    cases q : p h₁.objs.size with
    | none => rfl
    | some o => obtain ⟨o', q'⟩ := hp _ _ q; have := Heap.lt_size q'; rw [← hs₁.1] at this; exact absurd this (Nat.lt_irrefl _)
  have kT1 : keep h₁.objs.size = none := kT keep fun b o q => let ⟨sl, q'⟩ := kp.keep_get q; ⟨_, q'⟩
  have kT2 : g h₁.objs.size = none := kT g fun b o q => ⟨o, gh b o q⟩
  have hcls : (oe.mapFields (·.setIfInBounds 1 (Value.ref h₁.objs.size))).cls = oe.cls := Obj.cls_mapFields _ _
  have hdict : (oe.mapFields (·.setIfInBounds 1 (Value.ref h₁.objs.size))).dict = oe.dict := by obtain ⟨c, d, dt, sl⟩ := oe; cases dt <;> rfl
  refine h _ ⟨fun b o q => kpp b o (fun z => by rw [z, b3] at q; exact no_ns q) ((hs₁.2.1 b fun z => by rw [hfr b z] at q; exact no_ns q).trans (gh b o q)), ?_, ?_, gens, os, ?_⟩ ⟨_, _, h₁.objs.size, _, ts, he₃, hd₃, by simp [hsz], hT₃, rfl, h3, hTe, kT1, kT2⟩
  · exact (kp.slots hs₁).mono fun b o hb q => kpp b o (fun z => by obtain ⟨o', hb⟩ := hb; rw [z, b2] at hb; exact no_ns hb) q
  · obtain ⟨m, o, es, ep, q1, q2, q3⟩ := ns
    obtain ⟨sl, q4⟩ := hs₁.2.2 _ o q1
    exact ⟨m, _, es, ep, kpp _ _ (fun z => eaF (z ▸ hL)) q4, q2, q3⟩
  · refine ⟨ea, _, _, dd, od, xx, rfl, b2, b3, b4, b5, b6, he₃, hcls.trans b8, hdict.trans b9, hd₃, kpp _ _ (fun z => ?_) ((hs₁.2.1 dd ddF).trans b11), b12, .inr ⟨h₁.objs.size, _, ts, _, by simp [hsz], hT₃, rfl, h3, .inr rfl, kT1, kT2, hTe⟩⟩
    subst z
    rw [b7] at b11; obtain rfl := Option.some.inj b11
    obtain ⟨es, m, rfl, _⟩ := b12
    exact no_df b10
theorem Site.gfr {keep : PH} {hid : Addr → Prop} {g : PH} {σ : St} {s : Shared} (hK : Kp G k keep hid) (S : Site G k keep hid σ s g) : ∀ b ∈ k.fr, g b = none := fun b hb => by
  rcases hK.frh b hb with rfl | h
  · exact S.gL
  · exact S.ghid b h
theorem fault_noted (hk : k.Ok) (hF : k.Fun) {keep : PH} {hid : Addr → Prop} {g : PH} {n : Int} {e : Value} {s : Shared} {Q : Unit → Shared → Prop} {E : Value → Shared → Prop} (hK : Kp G k keep hid) (hfr : ∀ b ∈ k.fr, g b = none) (x : FSite G pf k keep g n e s)
    (h : ∀ s' ea, e = .ref ea → FSite G pf k keep g n (.ref ea) s' → (Ex5 fun oe vs T oT ts => And9 (s'.heap.get? ea = some oe) (oe.data = .fields vs) (vs[1]? = some (.ref T)) (s'.heap.get? T = some oT) (oT.data = .fields ts) (ts[3]? = some (rawInt k.env.locals)) (T ≠ ea) (keep T = none) (g T = none)) → Q () s') :
    wpAny G.M k.A (noteFrame e k.env) Q E s := by
  obtain ⟨gh, kp, ns, gens, os, ea, oe, vs, dd, od, xx, rfl, b2, b3, b4, b5, b6, b7, b8, b9, b10, b11, b12, b13⟩ := id x
  unfold noteFrame
  simp only [hF.frame]
  rcases b13 with h1 | ⟨T, oT, ts, fl, h1, hT, hdT, h3, hfl, kT, gT, hTe⟩
  · refine wpAny_bind (wpAny_field b7 b10 h1 ?_)
    first | refine ite_f ?_ | rw [if_neg (by decide)]
    exact entry_new hk hF hK hfr gh kp ns gens os b2 b3 b4 b5 b6 b7 b8 b9 b10 b11 b12 (Array.getElem?_eq_some_iff.mp h1).1 fun s' y z => h s' ea rfl y z
  · refine wpAny_bind (wpAny_field b7 b10 h1 ?_)
    rw [if_pos (show (Value.ref T != Value.none) = true from by simp)]
    refine wpAny_bind (wpAny_field hT hdT h3 ?_)
    rcases hfl with rfl | rfl
    · rw [if_neg (show ¬ ((Value.none == rawInt k.env.locals) = true) from by simp [rawInt])]
      refine wpAny_bind (wpAny_setField hT hdT (Array.getElem?_eq_some_iff.mp h3).1 ?_)
      have other : ∀ b, b ≠ T → (s.heap.update T (Obj.mapFields (·.setIfInBounds 3 Value.none))).get? b = s.heap.get? b := fun b hb => Heap.get?_update_other _ _ (Ne.symm hb)
      have LT : k.env.locals ≠ T := fun q => by
        obtain ⟨m, o, es, ep, q1, q2, _⟩ := ns
        rw [q, hT] at q1; obtain rfl := Option.some.inj q1; rw [hdT] at q2; exact no_df q2.symm
      refine entry_new hk hF hK hfr (fun b o q => (other b fun z => by rw [z, gT] at q; exact no_ns q).trans (gh b o q)) (kp.mono fun b o hb q => (other b fun z => by obtain ⟨o', hb⟩ := hb; rw [z, kT] at hb; exact no_ns hb).trans q) ?_ gens os b2 b3 b4 b5 b6
        ((other ea (Ne.symm hTe)).trans b7) b8 b9 b10 ((other dd ?_).trans b11) b12 (Array.getElem?_eq_some_iff.mp h1).1 fun s' y z => h s' ea rfl y z
      · obtain ⟨m, hm⟩ := ns
        exact ⟨m, hm.at' fun o q => (other _ LT).trans q⟩
      · intro q; rw [q, hT] at b11; obtain rfl := Option.some.inj b11
        obtain ⟨es, m, rfl, _⟩ := b12
        exact no_df hdT
    · rw [if_pos (show (rawInt k.env.locals == rawInt k.env.locals) = true from by simp)]
      exact wpAny_pure (h s ea rfl x ⟨oe, vs, T, oT, ts, b7, b10, h1, hT, hdT, h3, hTe, kT, gT⟩)
theorem fault_flight {keep : PH} {g : PH} {n : Int} {ea : Addr} {s : Shared} {fl : Option Addr} {Q : Unit → Shared → Prop} {E : Value → Shared → Prop} (x : FSite G pf k keep g n (.ref ea) s) (hfl : fl = none ∨ fl = some k.env.locals)
    (h : ∀ s', FSite G pf k keep g n (.ref ea) s' → (∀ b o, s.heap.get? b = some o → (∀ vs, o.data ≠ .fields vs) → s'.heap.get? b = some o) →
      ((Ex3 fun oe vs T => And3 (s.heap.get? ea = some oe) (oe.data = .fields vs) (vs[1]? = some (.ref T))) → (Ex5 fun oe vs T oT ts => And6 (s'.heap.get? ea = some oe) (oe.data = .fields vs) (vs[1]? = some (.ref T)) (s'.heap.get? T = some oT) (oT.data = .fields ts) (ts[3]? = some (fl.elim .none fun f => rawInt f)))) → Q () s') :
    wpAny G.M k.A (setFlight (.ref ea) fl) Q E s := by
  obtain ⟨gh, kp, ns, gens, os, ea', oe, vs, dd, od, xx, e, b2, b3, b4, b5, b6, b7, b8, b9, b10, b11, b12, b13⟩ := id x
  cases e
  unfold setFlight
  rcases b13 with h1 | ⟨T, oT, ts, fl', h1, hT, hdT, h3, hfl', kT, gT, hTe⟩
  · refine wpAny_bind (wpAny_field b7 b10 h1 ?_)
    first | refine ite_f ?_ | rw [if_neg (by decide)]
    refine wpAny_pure (h s x (fun _ _ q _ => q) fun ⟨oe', vs', T, q1, q2, q3⟩ => ?_)
    rw [b7] at q1; obtain rfl := Option.some.inj q1; rw [b10] at q2; cases q2; rw [h1] at q3; cases q3
  · refine wpAny_bind (wpAny_field b7 b10 h1 ?_)
    rw [if_pos (show (Value.ref T != Value.none) = true from by simp)]
    have h3s := (Array.getElem?_eq_some_iff.mp h3).1
    refine wpAny_setField hT hdT h3s ?_
    generalize hv : (fl.elim Value.none fun f => rawInt f) = v
    have other : ∀ b, b ≠ T → (s.heap.update T (Obj.mapFields (·.setIfInBounds 3 v))).get? b = s.heap.get? b := fun b hb => Heap.get?_update_other _ _ (Ne.symm hb)
    have hdT' := Obj.data_mapFields hdT (·.setIfInBounds 3 v)
    have hT' := Heap.get?_update_self (Obj.mapFields (·.setIfInBounds 3 v)) hT (Obj.isFreed_of_fields hdT')
    have h3' : (ts.setIfInBounds 3 v)[3]? = some v := by simp [h3s]
    have nof : ∀ b o, s.heap.get? b = some o → (∀ vs, o.data ≠ .fields vs) → (s.heap.update T (Obj.mapFields (·.setIfInBounds 3 v))).get? b = some o := fun b o q hn => (other b fun z => by rw [z, hT] at q; obtain rfl := Option.some.inj q; exact hn ts hdT).trans q
    refine h _ ⟨fun b o q => (other b fun z => by rw [z, gT] at q; exact no_ns q).trans (gh b o q), kp.mono fun b o hb q => (other b fun z => by obtain ⟨o', hb⟩ := hb; rw [z, kT] at hb; exact no_ns hb).trans q, ?_, gens, os,
      ea, oe, vs, dd, od, xx, rfl, b2, b3, b4, b5, b6, (other ea (Ne.symm hTe)).trans b7, b8, b9, b10, nof dd od b11 ?_, b12, .inr ⟨T, _, _, v, h1, hT', hdT', h3', ?_, kT, gT, hTe⟩⟩ nof fun _ => ⟨oe, vs, T, _, _, (other ea (Ne.symm hTe)).trans b7, b10, h1, hT', hdT', by first | (rw [h3']; done) | (rw [hv]; exact h3')⟩
    · obtain ⟨m, o, es, ep, q1, q2, q3⟩ := ns
      exact ⟨m, o, es, ep, nof _ _ q1 (fun vs q => by (rw [q2] at q; exact no_df q)), q2, q3⟩
    · obtain ⟨es, m, rfl, _⟩ := b12
      intro vs q; exact no_df q
    · rcases hfl with rfl | rfl
      · exact .inl hv.symm
      · exact .inr hv.symm
theorem fault_loop (hk : k.Ok) (hF : k.Fun) {keep : PH} {hid : Addr → Prop} {g : PH} {n : Int} {e : Value} {s : Shared} {E : Value → Shared → Prop} (hK : Kp G k keep hid) (hfr : ∀ b ∈ k.fr, g b = none) (x : FSite G pf k keep g n e s)
    (h : ∀ s', FSite G pf k keep g n e s' → E e s') : notedBy G.M k.A k.env (cameBackBy G.M k.A k.env E) e s := by
  unfold notedBy
  refine fault_noted hk hF hK hfr x fun s' ea he y z => ?_
  subst he
  unfold cameBackBy
  obtain ⟨oe, vs, T, oT, ts, q1, q2, q3, _⟩ := z
  refine wpAny_bind (wpAny_field q1 q2 q3 ?_)
  rw [if_neg (show ¬ ((Value.ref T == Value.none) = true) from by simp)]
  exact fault_flight y (.inr hF.frame) fun s'' w _ _ => h s'' w
end
section
set_option linter.unusedVariables false
set_option maxRecDepth 100000
open PySem PySem.W PySem.Spec PySem.Calls PyProof.Rows PyProof.V
variable {G : Gl} {pf : Addr} {k : Kx}
variable {σ : St} {P : St → Dsc → Prop} {PB : St → Bool → Prop} {PL : St → List Dsc → Prop} {PX : St → Prop} {R : St → Dsc → Prop} {F : Int → Prop}
theorem ax_nil (h : PX σ) : AX G pf k σ (execs [] k.env) PX R F := fun _ _ s g _ _ _ S ok _ _ => wpAny_execs_nil (ok σ s g h .rfl S)
theorem ax_cons {st : Stmt} {rest : List Stmt} (h : AX G pf k σ (exec st k.env) (fun σ' => AX G pf k σ' (execs rest k.env) PX R F) R F) : AX G pf k σ (execs (st :: rest) k.env) PX R F :=
  fun keep hid s g Q E hK S ok rt er => wpAny_execs_cons (h keep hid s g _ E hK S
    (fun σ' s' g' p l S' => p keep hid s' g' Q E hK S' (fun σ'' s'' g'' p' l' => ok σ'' s'' g'' p' (l.trans l')) (fun σ'' D v s'' g'' p' l' => rt σ'' D v s'' g'' p' (l.trans l')) fun n e s'' f x => er n e s'' f (x.le l))
    (fun σ' D v s' g' p l S' i => rt σ' D v s' g' p l S' i) er)
theorem ax_ret {e : Expr} {pos : Pos} (h : AW G pf k σ (eval e k.env) R F) : AX G pf k σ (exec (.Return (some e) pos) k.env) PX R F :=
  fun keep hid s g Q E hK S ok rt er => wpAny_Return_some (h keep hid s g _ E hK S (fun σ' D v s' g' p l S' i => rt σ' D v s' g' p l S' i) er)
theorem ax_expr {e : Expr} {pos : Pos} (h : AW G pf k σ (eval e k.env) (fun σ' _ => PX σ') F) (hi : interactive k.env = false := by rfl) (hs : swapsWith e none pos.line k.env = pure false := by rfl) : AX G pf k σ (exec (.Expr e pos) k.env) PX R F :=
  fun keep hid s g Q E hK S ok rt er => wpAny_Expr_any (h keep hid s g _ E hK S (fun σ' D v s' g' p l S' i => ok σ' s' g' p l S') er) hi hs
theorem ax_if {t : Expr} {b o : List Stmt} {pos : Pos} (h : AB G pf k σ (PySem.isTrue t k.env (eval t k.env)) (fun σ' c => if c = true then AX G pf k σ' (execs b k.env) PX R F else AX G pf k σ' (execs o k.env) PX R F) F) : AX G pf k σ (exec (.If t b o pos) k.env) PX R F :=
  fun keep hid s g Q E hK S ok rt er => wpAny_If (h keep hid s g _ E hK S (fun σ' c s' g' p l S' => by
    cases c with
    | true => rw [if_pos rfl] at p ⊢; exact p keep hid s' g' Q E hK S' (fun σ'' s'' g'' p' l' => ok σ'' s'' g'' p' (l.trans l')) (fun σ'' D v s'' g'' p' l' => rt σ'' D v s'' g'' p' (l.trans l')) fun n e s'' f x => er n e s'' f (x.le l)
    | false => rw [if_neg (by decide)] at p ⊢; exact p keep hid s' g' Q E hK S' (fun σ'' s'' g'' p' l' => ok σ'' s'' g'' p' (l.trans l')) (fun σ'' D v s'' g'' p' l' => rt σ'' D v s'' g'' p' (l.trans l')) fun n e s'' f x => er n e s'' f (x.le l)) er)
noncomputable def AS (G : Gl) (k : Kx) (σ : St) (t : Expr) (D : Dsc) (PX : St → Prop) : Prop :=
  ∀ keep hid s g (Q : Unit → Shared → Prop) (E : Value → Shared → Prop) v, Kp G k keep hid → Site G k keep hid σ s g → Is g v D → (∀ σ' s' g', PX σ' → Le g g' → Site G k keep hid σ' s' g' → Q () s') → wpAny G.M k.A (assign t k.env v) Q E s
noncomputable def AN (G : Gl) (k : Kx) (σ : St) (x : Str) (D : Dsc) (PX : St → Prop) : Prop :=
  ∀ keep hid s g (Q : Unit → Shared → Prop) (E : Value → Shared → Prop) v, Kp G k keep hid → Site G k keep hid σ s g → Is g v D → (∀ σ' s' g', PX σ' → Le g g' → Site G k keep hid σ' s' g' → Q () s') → wpAny G.M k.A (storeName k.env x v) Q E s
theorem an_loc (hk : k.Ok) {x : Str} {D : Dsc} (hx : k.env.kindOf x = some .local) (h : PX ⟨put x D σ.loc, σ.mu⟩) : AN G k σ x D PX := by
  intro keep hid s g Q E v hK S i ok
  obtain ⟨m, hm, _⟩ := S.locs
  exact wpAny_storeName_local hx hm (fun h' hn hs => ok _ _ g h .rfl (S.bind (s' := { s with heap := h', toks := s.toks + 1 }) hK hs (fun m' hm' => by
    obtain ⟨o, es, ep, e1, e2, e3, e4⟩ := hm'
    obtain ⟨o', es', ep', e1', e2', e3', e4'⟩ := hm
    rw [e1] at e1'; obtain rfl := Option.some.inj e1'; rw [e2] at e2'; cases e2'
    have : m' = m := funext fun n => (e4 n).symm.trans (e4' n)
    rw [this]; exact hn) i)) (by rw [hk.kind]; rfl)
theorem an_cell (hk : k.Ok) {x : Str} {D D₀ : Dsc} {c : Addr} {mu' : List (Addr × MO)} (hx : k.env.kindOf x = some .cell) (hc : k.env.cells.lookup x = some c) (hu : MuUp c (.cell D₀) (.cell D) σ.mu mu') (h : PX ⟨σ.loc, mu'⟩) : AN G k σ x D PX := by
  intro keep hid s g Q E v hK S i ok
  obtain ⟨_, _, _, o, ho, u, hd, _⟩ := S.mus _ hu.mem
  refine wpAny_storeName_cell hk.kind hx hc ⟨o, ho, hd⟩ fun h' hv hs => ?_
  obtain ⟨o', ho', hd'⟩ := hv
  exact ok _ _ g h .rfl (S.upd (s' := { s with heap := h' }) hu hs.extBut ho' ⟨v, hd', i⟩)
theorem an_cell0 (hk : k.Ok) {x : Str} {D : Dsc} {c : Addr} {mu' : List (Addr × MO)} (hx : k.env.kindOf x = some .cell) (hc : k.env.cells.lookup x = some c) (hu : MuUp c .cell0 (.cell D) σ.mu mu') (h : PX ⟨σ.loc, mu'⟩) : AN G k σ x D PX := by
  intro keep hid s g Q E v hK S i ok
  obtain ⟨_, _, _, o, ho, hd⟩ := S.mus _ hu.mem
  refine wpAny_storeName_cell hk.kind hx hc ⟨o, ho, hd⟩ fun h' hv hs => ?_
  obtain ⟨o', ho', hd'⟩ := hv
  exact ok _ _ g h .rfl (S.upd (s' := { s with heap := h' }) hu hs.extBut ho' ⟨v, hd', i⟩)
theorem as_name {x : Str} {p : Pos} {D : Dsc} (h : AN G k σ x D PX) : AS G k σ (.Name x p) D PX :=
  fun keep hid s g Q E v hK S i ok => wpAny_assign_Name (h keep hid s g Q E v hK S i ok)
theorem ax_asgn {x : Str} {p pos : Pos} {e : Expr} (h : AW G pf k σ (eval e k.env) (fun σ' D => AN G k σ' x D PX) F) (hs : swapsWith e (some (Expr.Name x p)) pos.line k.env = pure false := by rfl) : AX G pf k σ (exec (.Assign [.Name x p] e pos) k.env) PX R F :=
  fun keep hid s g Q E hK S ok rt er => wpAny_Assign_Name (h keep hid s g _ E hK S (fun σ' D v s' g' p l S' i => p keep hid s' g' _ _ v hK S' i fun σ'' s'' g'' p' l' => ok σ'' s'' g'' p' (l.trans l')) er) hs
noncomputable def ASrc (G : Gl) (k : Kx) (σ : St) (D : Dsc) (xs : List PV) : Prop :=
  ∀ keep hid s g (Q : Value → Shared → Prop) (E : Value → Shared → Prop) v, Kp G k keep hid → Site G k keep hid σ s g → Is g v D →
    (∀ I fp wr Pv Stt s₁, Walks G.prog G.w k.A I fp wr xs.length Pv Stt → Stt 0 s₁.heap → (∀ b o, s.heap.get? b = some o → s₁.heap.get? b = some o) → s.heap.objs.size ≤ s₁.heap.objs.size → s₁.gens = s.gens → s₁.os = s.os → (∀ b ∈ wr, s.heap.objs.size ≤ b) →
      (∀ b ∈ fp, b ∈ wr ∨ ∃ o, g b = some o) → (∀ j h, Stt j h → ∀ b ∈ wr, ∃ o, h.get? b = some o) → (∀ i u, i < xs.length → Pv i u → ∃ d, xs[i]? = some d ∧ Dat g u d) → Q (.ref I) s₁) → wpAny G.M k.A (pyIter v) Q E s
theorem src_list (hk : k.Ok) {xs : List PV} : ASrc G k σ (.d (.lst xs)) xs := by
  intro keep hid s g Q E v hK S i ok
  cases i with
  | @lst a o vs _ ha hso hall =>
    have hl : s.heap.IsList a vs.toArray := ⟨_, S.gh _ _ ha, hso.cls, hso.data⟩
    have hne : a ≠ s.heap.objs.size := Nat.ne_of_lt (Heap.lt_size (S.gh _ _ ha))
    refine wpAny_pyIter_list hl ?_
    have W := Walks.list (prog := G.prog) (w := G.w) hk.hand s.heap.objs.size a hne vs.toArray
    have hlen : vs.toArray.size = xs.length := by simp [hall.length]
    rw [hlen] at W
    refine ok _ _ _ _ _ _ W ⟨⟨_, Heap.get?_push_size _ rfl, rfl, rfl⟩, hl.push _⟩ (fun b o e => Heap.get?_push_of_some _ e) (by simp [Heap.push]) rfl rfl (fun b hb => by simp at hb; rw [hb]; exact Nat.le_refl _) (fun b hb => ?_) (fun j h hst b hb => ?_) fun j u _ hu => ?_
    · simp at hb; rcases hb with rfl | rfl
      · exact .inl (by simp)
      · exact .inr ⟨_, ha⟩
    · obtain ⟨⟨o, h1, _⟩, _⟩ := hst; simp at hb; subst hb; exact ⟨o, h1⟩
    · obtain ⟨d, h1, h2⟩ := hall.get' (show vs[j]? = some u by simpa using hu); exact ⟨d, h1, h2⟩
theorem src_tup (hk : k.Ok) {xs : List PV} : ASrc G k σ (.d (.tup xs)) xs := by
  intro keep hid s g Q E v hK S i ok
  cases i with
  | @tup a o vs _ ha hso hall =>
    have hl : s.heap.IsTuple a vs.toArray := ⟨_, S.gh _ _ ha, hso.cls, hso.data⟩
    have hne : a ≠ s.heap.objs.size := Nat.ne_of_lt (Heap.lt_size (S.gh _ _ ha))
    refine wpAny_pyIter_tuple hl ?_
    have W := Walks.tuple (prog := G.prog) (w := G.w) hk.hand s.heap.objs.size a hne vs.toArray
    have hlen : vs.toArray.size = xs.length := by simp [hall.length]
    rw [hlen] at W
    refine ok _ _ _ _ _ _ W ⟨⟨_, Heap.get?_push_size _ rfl, rfl, rfl⟩, ⟨_, Heap.get?_push_of_some _ (S.gh _ _ ha), hso.cls, hso.data⟩⟩ (fun b o e => Heap.get?_push_of_some _ e) (by simp [Heap.push]) rfl rfl (fun b hb => by simp at hb; rw [hb]; exact Nat.le_refl _) (fun b hb => ?_) (fun j h hst b hb => ?_) fun j u _ hu => ?_
    · simp at hb; rcases hb with rfl | rfl
      · exact .inl (by simp)
      · exact .inr ⟨_, ha⟩
    · obtain ⟨⟨o, h1, _⟩, _⟩ := hst; simp at hb; subst hb; exact ⟨o, h1⟩
    · obtain ⟨d, h1, h2⟩ := hall.get' (show vs[j]? = some u by simpa using hu); exact ⟨d, h1, h2⟩
noncomputable def signs (x : Str) : List PV := x.cps.toList.map fun c => PV.str ⟨#[c]⟩
theorem src_str (hk : k.Ok) {x : Str} : ASrc G k σ (.d (.str x)) (signs x) := by
  intro keep hid s g Q E v hK S i ok
  cases i
  have hlen : x.cps.size = (signs x).length := by simp [signs]
  have fin : ∀ j u, j < (signs x).length → SignAt x j u → ∃ d, (signs x)[j]? = some d ∧ Dat g u d := fun j u _ hu => by
    obtain ⟨c, t, hc, rfl⟩ := hu
    exact ⟨.str ⟨#[c]⟩, by simp [signs, hc], .str _ _⟩
  cases hx : (Array.all x.cps fun x => decide (x < 128)) with
  | true =>
    refine wpAny_pyIter_ascii hx ?_
    have W := Walks.strAscii (prog := G.prog) (w := G.w) hk.hand s.heap.objs.size x
    rename_i t
    have W := W t
    rw [hlen] at W
    exact ok _ _ _ _ _ _ W ⟨_, Heap.get?_push_size _ rfl, rfl, rfl⟩ (fun b o e => Heap.get?_push_of_some _ e) (by simp [Heap.push]) rfl rfl (fun b hb => by simp at hb; rw [hb]; exact Nat.le_refl _) (fun b hb => .inl hb) (fun j h hst b hb => by obtain ⟨o, h1, _⟩ := hst; simp at hb; subst hb; exact ⟨o, h1⟩) fin
  | false =>
    refine wpAny_pyIter_wide hx ?_
    have W := Walks.strWide (prog := G.prog) (w := G.w) hk.hand s.heap.objs.size x
    rename_i t
    have W := W t
    rw [hlen] at W
    exact ok _ _ _ _ _ _ W ⟨_, Heap.get?_push_size _ rfl, rfl, rfl⟩ (fun b o e => Heap.get?_push_of_some _ e) (by simp [Heap.push]) rfl rfl (fun b hb => by simp at hb; rw [hb]; exact Nat.le_refl _) (fun b hb => .inl hb) (fun j h hst b hb => by obtain ⟨o, h1, _⟩ := hst; simp at hb; subst hb; exact ⟨o, h1⟩) fin
noncomputable def AF (G : Gl) (pf : Addr) (k : Kx) (t : Expr) (body : List Stmt) (PX : St → Prop) (R : St → Dsc → Prop) (F : Int → Prop) : List PV → St → Prop
  | [], σ => PX σ
  | d :: ds, σ => AS G k σ t (.d d) fun σ' => AX G pf k σ' (execs body k.env) (AF G pf k t body PX R F ds) R F
theorem Site.weaken {keep keep' : PH} {hid hid' : Addr → Prop} {s : Shared} {g : PH} (S : Site G k keep' hid' σ s g) (h1 : Le keep keep') (h2 : ∀ a, hid a → hid' a) : Site G k keep hid σ s g where
  base := S.base
  gh := S.gh
  kept := fun b o e => S.kept b o (h1 b o e)
  ghid := fun a h => S.ghid a (h2 a h)
  gL := S.gL
  locs := S.locs
  mus := fun p hp => let ⟨a, b, c⟩ := S.mus p hp; ⟨a, (by
    cases q : keep p.1 with
    | none => rfl
    | some o => rw [h1 _ _ q] at b; exact no_sn b), c⟩
  nodup := S.nodup
  gens := S.gens
  os := S.os
theorem FSite.weaken {keep keep' : PH} {g : PH} {n : Int} {e : Value} {s : Shared} (x : FSite G pf k keep' g n e s) (h1 : Le keep keep') : FSite G pf k keep g n e s := by
  have no : ∀ a, keep' a = none → keep a = none := fun a h => by
    cases q : keep a with
    | none => rfl
    | some o => rw [h1 a o q] at h; exact no_sn h
  obtain ⟨a1, a2, a3, a4, a5, ea, oe, vs, dd, od, xx, b1, b2, b3, b4, b5, b6, b7, b8, b9, b10, b11, b12, b13⟩ := x
  refine ⟨a1, fun b o h => a2 b o (h1 b o h), a3, a4, a5, ea, oe, vs, dd, od, xx, b1, no _ b2, b3, no _ b4, b5, b6, b7, b8, b9, b10, b11, b12, ?_⟩
  rcases b13 with h | ⟨T, oT, ts, fl, c1, c2, c3, c4, c5, c6, c7, c8⟩
  · exact .inl h
  · exact .inr ⟨T, oT, ts, fl, c1, c2, c3, c4, c5, no _ c6, c7, c8⟩
noncomputable def PH.over (keep : PH) (wr : List Addr) (h : Heap) : PH := fun b => if b ∈ wr then h.get? b else keep b
theorem Site.guard {keep : PH} {hid : Addr → Prop} {s : Shared} {g : PH} (hK : Kp G k keep hid) (S : Site G k keep hid σ s g) {wr : List Addr} (hw : ∀ b ∈ wr, keep b = none) (hg : ∀ b ∈ wr, g b = none) (hm : ∀ p ∈ σ.mu, p.1 ∉ wr) (Lw : k.env.locals ∉ wr) :
    Kp G k (keep.over wr s.heap) (fun a => hid a ∨ (a ∈ wr ∧ ∃ o, s.heap.get? a = some o)) ∧ Site G k (keep.over wr s.heap) (fun a => hid a ∨ (a ∈ wr ∧ ∃ o, s.heap.get? a = some o)) σ s g ∧ Le keep (keep.over wr s.heap) := by
  have nw : ∀ b o, keep b = some o → b ∉ wr := fun b o e hb => by rw [hw b hb] at e; exact no_ns e
  have le : Le keep (keep.over wr s.heap) := fun b o e => by
    unfold PH.over
    rw [if_neg (nw b o e)]; exact e
  have frw : ∀ b ∈ k.fr, b ∉ wr := fun b hb h => by
    rcases hK.frh b hb with rfl | q
    · exact Lw h
    · obtain ⟨o, q⟩ := hK.hk b q; exact nw b o q h
  refine ⟨⟨fun b o e => le _ _ (hK.base b o e), by unfold PH.over; rw [if_neg Lw]; exact hK.L, hK.Lb, fun a ha => ?_, fun e he => ?_, fun b hb => (hK.frh b hb).imp id .inl⟩, ⟨S.base, S.gh, fun b o e => ?_, fun a ha => ?_, S.gL, S.locs, fun p hp => ?_, S.nodup, S.gens, S.os⟩, le⟩
  · rcases ha with ha | ⟨ha, o, q⟩
    · obtain ⟨o, q⟩ := hK.hk a ha; exact ⟨o, le _ _ q⟩
    · exact ⟨o, by unfold PH.over; rw [if_pos ha]; exact q⟩
  · obtain ⟨h1, Fa, h2, h3, h4⟩ := hK.fr e he
    exact ⟨h1, Fa, h2, h3, h4.imp id fun ⟨o, q, r⟩ => ⟨o, le _ _ q, r⟩⟩
  · unfold PH.over at e
    by_cases hb : b ∈ wr
    · rw [if_pos hb] at e; exact .inl ⟨fun h => frw b h hb, e⟩
    · rw [if_neg hb] at e; exact S.kept b o e
  · rcases ha with ha | ⟨ha, _⟩
    · exact S.ghid a ha
    · exact hg a ha
  · obtain ⟨a, b, c⟩ := S.mus p hp
    refine ⟨a, ?_, c⟩
    unfold PH.over
    rw [if_neg (hm p hp)]; exact b
theorem for_core (hk : k.Ok) (hF : k.Fun) {t i : Expr} {body : List Stmt} {pos : Pos} {keep : PH} {hid : Addr → Prop} {s : Shared} {g : PH} {Q : Flow → Shared → Prop} {E : Value → Shared → Prop} (hK : Kp G k keep hid) (S : Site G k keep hid σ s g)
    (h : wpAny G.M k.A (eval i k.env) (fun v s₁ => (Ex3 fun σ₁ D g₁ => And4 ((∃ xs, ASrc G k σ₁ D xs ∧ AF G pf k t body PX R F xs σ₁)) (Le g g₁) (Site G k keep hid σ₁ s₁ g₁) (Is g₁ v D))) E s)
    (ok : ∀ σ' s' g', PX σ' → Le g g' → Site G k keep hid σ' s' g' → Q .next s')
    (rt : ∀ σ' D v s' g', R σ' D → Le g g' → Site G k keep hid σ' s' g' → Is g' v D → Q (.ret v) s')
    (er : ∀ n e s', F n → FSite G pf k keep g n e s' → E e s')
    (hi : foldedSetIterable i k.env = pure := by rfl) (hgo : letOwnedTupleGo t = (fun _ _ => pure ()) := by rfl) : wpAny G.M k.A (exec (.For t i body [] pos) k.env) Q E s := by
  refine wpAny_For (wpAny_mono h (fun v s₁ ⟨σ₁, D, g₁, h₁, l₁, S₁, i₁⟩ => ?_) fun _ _ x => x) (congrFun hi)
  obtain ⟨xs, hsrc, hAF⟩ := h₁
  refine hsrc keep hid s₁ g₁ _ _ v hK S₁ i₁ fun I fp wr Pv Stt s₂ W st0 hgrow _ hgen hos hwr hfp hal hPv => ?_
  have S₂ := S₁.same hK (.of hgrow) hgen hos
  -- the loop
  refine codeAny_forLoop (fun n s' => (Ex3 fun j σ' g' => And7 (n + j = xs.length) (Le g₁ g') (Site G k keep hid σ' s' g') (AF G pf k t body PX R F (xs.drop j) σ') (Stt j s'.heap) ((∀ b ∈ wr, g' b = none)) ((∀ p ∈ σ'.mu, p.1 ∉ wr))))
    (fun n s' hI => ?_) xs.length ⟨0, σ₁, g₁, by simp, .rfl, S₂, by simpa using hAF, st0, fun b hb => ?_, fun p hp hb => ?_⟩ (fun v => congrFun (congrFun hgo _) v)
  rotate_left
  · cases q : g₁ b with
    | none => rfl
    | some o => exact absurd (Heap.lt_size (S₁.gh _ _ q)) (Nat.not_lt.mpr (hwr b hb))
  · obtain ⟨_, _, _, o, q, _⟩ := S₁.mus p hp
    exact absurd (Heap.lt_size q) (Nat.not_lt.mpr (hwr _ hb))
  obtain ⟨j, σ', g', hn, lg, S', hF', hst, hgw, hmw⟩ := hI
  have hn₀ : ∀ b o, keep b = some o → b < s₁.heap.objs.size := fun b o e => by obtain ⟨sl, q⟩ := S₁.kept.keep_get e; exact Heap.lt_size q
  have Lw : k.env.locals ∉ wr := fun hb => absurd S₁.Llt (Nat.not_lt.mpr (hwr _ hb))
  have kw : ∀ b ∈ wr, keep b = none := fun b hb => by
    cases q : keep b with
    | none => rfl
    | some o => exact absurd (hn₀ b o q) (Nat.not_lt.mpr (hwr b hb))
  -- a step of the iterator's
  have stepS : ∀ {h' : Heap} {tk : Nat}, (∀ b o, b ∉ wr → s'.heap.get? b = some o → h'.get? b = some o) → Site G k keep hid σ' { s' with heap := h', toks := tk } g' := fun {h' tk} hkp =>
    ⟨S'.base, fun b o e => hkp b o (fun hb => by rw [hgw b hb] at e; exact no_ns e) (S'.gh b o e), S'.kept.mono fun b o hb e => hkp b o (fun hw => by obtain ⟨o', hb⟩ := hb; rw [kw b hw] at hb; exact no_ns hb) e, S'.ghid, S'.gL,
      let ⟨m, hm, hl⟩ := S'.locs; ⟨m, hm.at' fun o e => hkp _ o Lw e, hl⟩, fun p hp => let ⟨a, b, c, o, q, r⟩ := S'.mus p hp; ⟨a, b, c, o, hkp _ o (hmw p hp) q, r⟩, S'.nodup, S'.gens, S'.os⟩
  by_cases hj : j < xs.length
  · refine W.item j s' _ _ hj hst fun u h' tk hu hst' hkp => ?_
    dsimp only
    obtain ⟨d, hd, hdat⟩ := hPv j u hj hu
    have hdr : xs.drop j = d :: xs.drop (j + 1) := by
      rw [List.drop_eq_getElem_cons hj]
      rw [List.getElem?_eq_getElem hj] at hd
      obtain rfl := Option.some.inj hd; rfl
    rw [hdr, AF] at hF'
    have S₃ := stepS (tk := tk) hkp
    obtain ⟨hK', S₃', le'⟩ := S₃.guard hK kw hgw hmw Lw
    have ex0 : ∀ b ∈ wr, ∃ o, h'.get? b = some o := hal _ _ hst'
    have fr' : ∀ b ∈ wr, b ∉ k.fr := fun b hb hf => by
      rcases hK.frh b hf with rfl | q
      · exact Lw hb
      · obtain ⟨o, q⟩ := hK.hk b q; rw [kw b hb] at q; exact no_ns q
    have back : ∀ {σ'' s'' g''}, Le g' g'' → Site G k (keep.over wr h') (fun a => hid a ∨ (a ∈ wr ∧ ∃ o, h'.get? a = some o)) σ'' s'' g'' → Site G k keep hid σ'' s'' g'' ∧ Stt (j + 1) s''.heap ∧ (∀ b ∈ wr, g'' b = none) ∧ (∀ p ∈ σ''.mu, p.1 ∉ wr) ∧ Le g₁ g'' := fun {σ'' s'' g''} l S'' => by
      have ex : ∀ b ∈ wr, ∀ o, h'.get? b = some o → s''.heap.get? b = some o := fun b hb o q => by
        rcases S''.kept b o (by unfold PH.over; rw [if_pos hb]; exact q) with ⟨_, r⟩ | ⟨r, _⟩
        · exact r
        · exact absurd r (fr' b hb)
      refine ⟨S''.weaken le' fun a h => .inl h, W.frame _ _ _ hst' fun b hb o q => ?_, fun b hb => S''.ghid b (.inr ⟨hb, ex0 b hb⟩), fun p hp hb => ?_, lg.trans l⟩
      · rcases hfp b hb with hw | ⟨o', ho'⟩
        · exact ex b hw o q
        · have := S₃.gh b o' (lg _ _ ho')
          rw [show h'.get? b = some o' from this] at q; obtain rfl := Option.some.inj q
          exact S''.gh b _ (l _ _ (lg _ _ ho'))
      · obtain ⟨o, q⟩ := ex0 _ hb
        obtain ⟨_, b', _⟩ := S''.mus p hp
        unfold PH.over at b'; rw [if_pos hb, q] at b'; exact no_sn b'
    refine hF' _ _ _ _ _ _ u hK' S₃' (hdat.le lg) fun σ₄ s₄ g₄ h₄ l₄ S₄ => ?_
    refine h₄ _ _ _ _ _ _ hK' S₄ (fun σ₅ s₅ g₅ p₅ l₅ S₅ => ?_) (fun σ₅ D v s₅ g₅ p₅ l₅ S₅ i₅ => ?_) fun n' e s₅ f x => ?_
    · obtain ⟨a1, a2, a3, a4, a5⟩ := back (l₄.trans l₅) S₅
      exact ⟨n - 1, by exact ar3 hn hj, j + 1, σ₅, g₅, by exact ar4 hn hj, a5, a1, p₅, a2, a3, a4⟩
    · obtain ⟨a1, a2, a3, a4, a5⟩ := back (l₄.trans l₅) S₅
      exact rt σ₅ D v s₅ g₅ p₅ (l₁.trans a5) a1 i₅
    · exact fault_loop hk hF hK' (S₄.gfr hK') x fun s'' y => er n' e s'' f ((y.weaken le').le (l₁.trans (lg.trans l₄)))
  · have hj' : j = xs.length := by exact ar5 hn hj
    subst hj'
    rw [List.drop_length, AF] at hF'
    refine W.done s' _ _ hst fun h' tk hkp => ?_
    exact wpAny_execs_nil (ok σ' _ g' hF' (l₁.trans lg) (stepS hkp))
theorem ax_for (hk : k.Ok) (hF : k.Fun) {t i : Expr} {body : List Stmt} {pos : Pos}
    (h : AW G pf k σ (eval i k.env) (fun σ' D => ∃ xs, ASrc G k σ' D xs ∧ AF G pf k t body PX R F xs σ') F)
    (hi : foldedSetIterable i k.env = pure := by rfl) (hgo : letOwnedTupleGo t = (fun _ _ => pure ()) := by rfl) : AX G pf k σ (exec (.For t i body [] pos) k.env) PX R F :=
  fun keep hid s g Q E hK S ok rt er => for_core hk hF hK S (h keep hid s g _ E hK S (fun σ₁ D v s₁ g₁ h₁ l₁ S₁ i₁ => ⟨σ₁, D, g₁, h₁, l₁, S₁, i₁⟩) er) ok rt er hi hgo
theorem ax_while (hk : k.Ok) (hF : k.Fun) {t : Expr} {body : List Stmt} {pos : Pos} (W : Nat → St → Prop) (n : Nat) (h0 : W n σ)
    (turn : ∀ n σ, W n σ → AB G pf k σ (PySem.isTrue t k.env (eval t k.env)) (fun σ' c => if c = true then AX G pf k σ' (execs body k.env) (fun σ'' => ∃ m, m < n ∧ W m σ'') R F else PX σ') F) :
    AX G pf k σ (exec (.While t body [] pos) k.env) PX R F := by
  intro keep hid s g Q E hK S ok rt er
  refine wpAny_While (codeAny_whileLoop (fun n s' => (Ex2 fun σ' g' => And3 (Le g g') (Site G k keep hid σ' s' g') (W n σ'))) (fun n s' hI => ?_) n ⟨σ, g, .rfl, S, h0⟩)
  obtain ⟨σ', g', lg, S', hw⟩ := hI
  refine turn n σ' hw keep hid s' g' _ _ hK S' (fun σ₁ c s₁ g₁ p l S₁ => ?_) fun n' e s₁ f x => fault_loop hk hF hK (S'.gfr hK) x fun s'' y => er n' e s'' f (y.le lg)
  cases c with
  | true =>
    rw [if_pos rfl] at p ⊢
    exact p keep hid s₁ g₁ _ _ hK S₁ (fun σ₂ s₂ g₂ p₂ l₂ S₂ => let ⟨m, hm, hw'⟩ := p₂; ⟨m, hm, σ₂, g₂, lg.trans (l.trans l₂), S₂, hw'⟩)
      (fun σ₂ D v s₂ g₂ p₂ l₂ S₂ i₂ => rt σ₂ D v s₂ g₂ p₂ (lg.trans (l.trans l₂)) S₂ i₂) fun n' e s₂ f x => fault_loop hk hF hK (S₁.gfr hK) x fun s'' y => er n' e s'' f (y.le (lg.trans l))
  | false =>
    rw [if_neg (by decide)] at p ⊢
    exact wpAny_execs_nil (ok σ₁ s₁ g₁ p (lg.trans l) S₁)
noncomputable def FnK (G : Gl) (f : Addr) (q : Str) (ps : Arguments) (body : List Stmt) (sc : Scope) : Prop :=
  (Ex9 fun name doc pm an cdv ct oc od osl => G.K.lookup f = some ⟨oc, od, .func (fnOf name q ps body sc .none .none doc pm an cdv ct), osl⟩ ∧ codeIn G.K cdv q = true)
theorem all2_lookup {g : PH} {l : List (Str × Value)} {l' : List (Str × Dsc)} (q : All2 (fun p q => p.1 = q.1 ∧ Is g p.2 q.2) l l') (x : Str) (D : Dsc) : l'.lookup x = some D → ∃ v, l.lookup x = some v ∧ Is g v D := by
  induction q with
  | nil => intro h; cases h
  | @cons a b as bs h _ ih =>
    obtain ⟨n, v⟩ := a; obtain ⟨n', D'⟩ := b; obtain ⟨e, hi⟩ := h
    cases e
    intro h
    rw [List.lookup_cons] at h ⊢
    cases hx : x == n with
    | true => rw [hx] at h; obtain rfl := Option.some.inj h; exact ⟨v, rfl, hi⟩
    | false => rw [hx] at h; exact ih h
theorem all2_zip {g : PH} : ∀ {names : List Str} {vs : List Value} {Ds : List Dsc}, All2 (Is g) vs Ds → All2 (fun (p : Str × Value) (q : Str × Dsc) => p.1 = q.1 ∧ Is g p.2 q.2) (names.zip vs) (names.zip Ds)
  | [], _, _, _ => .nil
  | n :: r, _, _, .nil => .nil
  | n :: r, _, _, .cons hi hr => .cons ⟨rfl, hi⟩ (all2_zip hr)
theorem All2.rev {α β : Type} {R : α → β → Prop} : ∀ {as : List α} {bs : List β}, All2 R as bs → All2 R as.reverse bs.reverse
  | _, _, .nil => .nil
  | _, _, .cons h r => by simp only [List.reverse_cons]; exact r.rev.append (.cons h .nil)
noncomputable def Kx.call (k : Kx) (q : Str) (sc : Scope) (L f : Addr) (cd : Value) (cl : List (Str × Addr)) : Kx := ⟨k.A.deeper (envX q sc L f cd cl), envX q sc L f cd cl, envX q sc L f cd cl :: k.envs⟩
theorem Kx.Ok.call (hk : k.Ok) {q : Str} {sc : Scope} {L f : Addr} {cd : Value} {cl : List (Str × Addr)} (hs : sc.kind = .function) : (k.call q sc L f cd cl).Ok where
  frames := by show (k.A.frames.map _) = _; rw [hk.frames]; rfl
  kind := hs
  glob := rfl
  blt := rfl
  hand := hk.hand
theorem Kx.call_fun {q : Str} {sc : Scope} {L f : Addr} {cd : Value} {cl : List (Str × Addr)} : (k.call q sc L f cd cl).Fun := ⟨⟨_, rfl⟩, rfl⟩
theorem Room.call {n : Nat} (h : Room k.A (n + 1)) {q : Str} {sc : Scope} {L f : Addr} {cd : Value} {cl : List (Str × Addr)} : Room (k.call q sc L f cd cl).A n := by
  obtain ⟨a, b⟩ := h
  exact ⟨by show k.A.depth + 1 + n < _; exact ar6 a, by show k.A.units + 3 + _ < _; exact ar7 b⟩
theorem Room.less {A : Around} {n m : Nat} (h : Room A n) (hm : m ≤ n) : Room A m := ⟨by have := h.1; exact Nat.lt_of_le_of_lt (Nat.add_le_add_left hm _) this, by have := h.2; exact Nat.lt_of_le_of_lt (Nat.add_le_add_left (Nat.mul_le_mul_left _ hm) _) this⟩
theorem Room.depth {A : Around} {n : Nat} (h : Room A n) : A.depth < recursionLimit := by have := h.1; show _ < 1000; exact Nat.lt_of_le_of_lt (Nat.le_add_right _ _) this
noncomputable def PH.without (l : List Addr) (h : Heap) : PH := fun b => if b ∈ l then none else h.get? b
section
variable {keep : PH} {hid : Addr → Prop} {s s' : Shared} {g : PH} {own muIn : List (Addr × MO)}
structure CallS (G : Gl) (k : Kx) (keep : PH) (hid : Addr → Prop) (s : Shared) (g : PH) (own muIn : List (Addr × MO)) (keep' : PH) (hid' : Addr → Prop) : Prop where
  kp : ∀ b o, keep b = some o → ∃ o', keep' b = some o' ∧ s.heap.get? b = some o'
  sub : ∀ b o, keep' b = some o → s.heap.get? b = some o
  L : keep' k.env.locals = s.heap.get? k.env.locals
  ownk : ∀ p ∈ own, keep' p.1 = s.heap.get? p.1
  inn : ∀ p ∈ muIn, keep' p.1 = none
  g : Le g keep'
  hL : hid' k.env.locals
  hown : ∀ p ∈ own, hid' p.1
  hhid : ∀ a, hid a → hid' a
theorem calls_of (hK : Kp G k keep hid) {loc : List (Str × Dsc)} (S : Site G k keep hid ⟨loc, own ++ muIn⟩ s g) :
    CallS G k keep hid s g own muIn (PH.without (muIn.map (·.1)) s.heap) (fun a => hid a ∨ a = k.env.locals ∨ a ∈ own.map (·.1)) := by
  have nd := S.nodup
  have inF : ∀ a ∈ muIn.map (·.1), g a = none ∧ keep a = none ∧ a ≠ k.env.locals := fun a ha => by
    obtain ⟨p, hp, rfl⟩ := List.mem_map.mp ha
    obtain ⟨h1, h2, h3, _⟩ := S.mus p (List.mem_append.mpr (.inr hp))
    exact ⟨h1, h2, h3⟩
  have sep : ∀ p ∈ own, p.1 ∉ muIn.map (·.1) := fun p hp hm => by
    simp only [List.map_append] at nd
    exact (List.nodup_append.mp nd).2.2 _ (List.mem_map_of_mem hp) _ hm rfl
  refine ⟨fun b o e => ?_, fun b o e => ?_, ?_, fun p hp => ?_, fun p hp => ?_, fun b o e => ?_, .inr (.inl rfl), fun p hp => .inr (.inr (List.mem_map_of_mem hp)), fun a h => .inl h⟩
  · obtain ⟨sl, q⟩ := S.kept.keep_get e
    refine ⟨_, ?_, q⟩
    unfold PH.without
    rw [if_neg fun h => by rw [(inF b h).2.1] at e; cases e]; exact q
  · unfold PH.without at e
    by_cases hb : b ∈ muIn.map (·.1)
    · rw [if_pos hb] at e; exact no_ns e
    · rw [if_neg hb] at e; exact e
  · unfold PH.without; rw [if_neg fun h => (inF _ h).2.2 rfl]
  · unfold PH.without; rw [if_neg (sep p hp)]
  · unfold PH.without; rw [if_pos (List.mem_map_of_mem hp)]
  · unfold PH.without; rw [if_neg fun h => by rw [(inF b h).1] at e; cases e]; exact S.gh _ _ e
theorem call_kp (hK : Kp G k keep hid) {loc : List (Str × Dsc)} (S : Site G k keep hid ⟨loc, own ++ muIn⟩ s g) {q : Str} {sc : Scope} {f : Addr} {cd : Value} {cl : List (Str × Addr)} (hs : sc.kind = .function)
    {keep' : PH} {hid' : Addr → Prop} (C : CallS G k keep hid s g own muIn keep' hid') (hh : ∀ a, hid' a → hid a ∨ a = k.env.locals ∨ a ∈ own.map (·.1)) : Kp G (k.call q sc s.heap.objs.size f cd cl) keep' hid' where
  base := fun b o e => C.g _ _ (S.base b o e)
  L := by
    show keep' s.heap.objs.size = none
    cases q : keep' s.heap.objs.size with
    | none => rfl
    | some o => exact absurd (Heap.lt_size (C.sub _ _ q)) (Nat.lt_irrefl _)
  Lb := Nat.le_trans hK.Lb (Nat.le_of_lt S.Llt)
  hk := fun a ha => by
    rcases hh a ha with h | rfl | h
    · obtain ⟨o, q⟩ := hK.hk a h; obtain ⟨o', q', _⟩ := C.kp a o q; exact ⟨o', q'⟩
    · rw [C.L]; obtain ⟨m, o, es, ep, h1, _⟩ := let ⟨m, hm, _⟩ := S.locs; (⟨m, hm⟩ : ∃ m, s.heap.Ns k.env.locals m); exact ⟨o, h1⟩
    · obtain ⟨p, hp, rfl⟩ := List.mem_map.mp h
      obtain ⟨_, _, _, o, h4, _⟩ := S.mus p (List.mem_append.mpr (.inl hp))
      rw [C.ownk p hp]; exact ⟨o, h4⟩
  fr := fun e he => by
    rcases List.mem_cons.mp he with rfl | he
    · refine ⟨by show sc.kind ≠ _; rw [hs]; decide, _, rfl, ?_, .inl rfl⟩
      cases q : G.base.get? s.heap.objs.size with
      | none => rfl
      | some o => exact absurd (Heap.lt_size (S.gh _ _ (S.base _ _ q))) (Nat.lt_irrefl _)
    · obtain ⟨h1, Fa, h2, h3, h4⟩ := hK.fr e he
      refine ⟨h1, Fa, h2, h3, .inr ?_⟩
      rcases h4 with rfl | ⟨o, h4, h5⟩
      · obtain ⟨m, o, es, ep, q1, q2, _⟩ := let ⟨m, hm, _⟩ := S.locs; (⟨m, hm⟩ : ∃ m, s.heap.Ns k.env.locals m)
        exact ⟨o, by rw [C.L]; exact q1, fun vs z => by rw [q2] at z; exact no_df z⟩
      · obtain ⟨o', q1, q2⟩ := C.kp _ o h4
        obtain ⟨sl, q3⟩ := S.kept.keep_get h4
        rw [q2] at q3; obtain rfl := Option.some.inj q3
        exact ⟨_, q1, h5⟩
  frh := fun b hb => by
    have hb : b ∈ s.heap.objs.size :: k.fr := hb
    rcases List.mem_cons.mp hb with rfl | hb
    · exact .inl rfl
    · rcases hK.frh b hb with rfl | h
      · exact .inr C.hL
      · exact .inr (C.hhid _ h)
theorem kept_back {σ : St} (S : Site G k keep hid σ s g) {keep' : PH} {hid' : Addr → Prop} (C : CallS G k keep hid s g own muIn keep' hid') {fr' : List Addr} (hfr : ∀ b, b < s.heap.objs.size → (b ∈ fr' ↔ b ∈ k.fr)) {h : Heap}
    (x : Kept fr' keep' h) : Kept k.fr keep h := fun b o e => by
  have mem := hfr b (by obtain ⟨sl, h⟩ := S.kept.keep_get e; exact Heap.lt_size h)
  obtain ⟨o', q1, q2⟩ := C.kp b o e
  rcases S.kept b o e with ⟨n, z⟩ | ⟨n, sl, z⟩
  · rw [q2] at z; obtain rfl := Option.some.inj z
    rcases x b _ q1 with ⟨_, y⟩ | ⟨n', _⟩
    · exact .inl ⟨n, y⟩
    · exact absurd (mem.mp n') n
  · rw [q2] at z; obtain rfl := Option.some.inj z
    rcases x b _ q1 with ⟨n', _⟩ | ⟨_, sl', y⟩
    · exact absurd (mem.mpr n) n'
    · exact .inr ⟨n, sl', y⟩
theorem ns_back {keep' : PH} {hid' : Addr → Prop} (C : CallS G k keep hid s g own muIn keep' hid') {fr' : List Addr} {h : Heap} (x : Kept fr' keep' h) {m : Str → Option Value} (hm : s.heap.Ns k.env.locals m) : h.Ns k.env.locals m := by
  obtain ⟨o, es, ep, h1, h2, h3⟩ := hm
  obtain ⟨sl, q⟩ := x.keep_get (by rw [C.L]; exact h1)
  exact ⟨_, es, ep, q, h2, h3⟩
theorem call_back (hK : Kp G k keep hid) {loc : List (Str × Dsc)} (S : Site G k keep hid ⟨loc, own ++ muIn⟩ s g) {k' : Kx} (hfr : ∀ b, b < s.heap.objs.size → (b ∈ k'.fr ↔ b ∈ k.fr)) {keep' : PH} {hid' : Addr → Prop} (C : CallS G k keep hid s g own muIn keep' hid')
    {σ' : St} {ext muOut : List (Addr × MO)} {g' : PH} (l : Le g g') (S' : Site G k' keep' hid' σ' s' g') (hmu : σ'.mu = ext ++ muOut) (ha : muOut.map (·.1) = muIn.map (·.1)) :
    Site G k keep hid ⟨loc, own ++ muOut⟩ s' g' where
  base := S'.base
  gh := S'.gh
  kept := kept_back S C hfr S'.kept
  ghid := fun a h => S'.ghid a (C.hhid a h)
  gL := S'.ghid _ C.hL
  locs := by
    obtain ⟨m, hm, hl⟩ := S.locs
    exact ⟨m, ns_back C S'.kept hm, fun x D e => let ⟨v, hv, hi⟩ := hl x D e; ⟨v, hv, hi.le l⟩⟩
  mus := fun p hp => by
    rcases List.mem_append.mp hp with hp | hp
    · obtain ⟨h1, h2, h3, o, h4, h5⟩ := S.mus p (List.mem_append.mpr (.inl hp))
      refine ⟨S'.ghid _ (C.hown p hp), h2, h3, o, ?_, h5.le l⟩
      rcases S'.kept p.1 o (by rw [C.ownk p hp]; exact h4) with ⟨_, y⟩ | ⟨n, _⟩
      · exact y
      · exfalso
        rcases hK.frh _ ((hfr _ (Heap.lt_size h4)).mp n) with e | e
        · exact h3 e
        · obtain ⟨o', q⟩ := hK.hk _ e; rw [h2] at q; exact no_ns q
    · have : p.1 ∈ muIn.map (·.1) := ha ▸ List.mem_map_of_mem hp
      obtain ⟨p', hp', e⟩ := List.mem_map.mp this
      obtain ⟨h1, h2, h3, _⟩ := S.mus p' (List.mem_append.mpr (.inr hp'))
      obtain ⟨a1, _, _, o, a4, a5⟩ := S'.mus p (hmu ▸ List.mem_append.mpr (.inr hp))
      exact ⟨a1, e ▸ h2, e ▸ h3, o, a4, a5⟩
  nodup := by
    have := S.nodup
    simp only [List.map_append] at this ⊢
    rw [ha]; exact this
  gens := S'.gens
  os := S'.os
theorem fr_call {s : Shared} {q : Str} {sc : Scope} {f : Addr} {cd : Value} {cl : List (Str × Addr)} : ∀ b, b < s.heap.objs.size → (b ∈ (k.call q sc s.heap.objs.size f cd cl).fr ↔ b ∈ k.fr) := fun b hb => by
  show b ∈ s.heap.objs.size :: k.fr ↔ _
  simp [Nat.ne_of_lt hb]
theorem fault_leave (hk : k.Ok) (hK : Kp G k keep hid) {loc : List (Str × Dsc)} (S : Site G k keep hid ⟨loc, own ++ muIn⟩ s g) {q : Str} {sc : Scope} {f : Addr} {cd : Value} {cl : List (Str × Addr)} (hs : sc.kind = .function) {keep' : PH} {hid' : Addr → Prop} (C : CallS G k keep hid s g own muIn keep' hid')
    (hK' : Kp G (k.call q sc s.heap.objs.size f cd cl) keep' hid') (hin : ∀ b o, keep' b = none → s.heap.get? b = some o → b ∈ muIn.map (·.1)) {n : Int} {e : Value} {Q : Unit → Shared → Prop} {E : Value → Shared → Prop} (x : FSite G pf (k.call q sc s.heap.objs.size f cd cl) keep' g n e s')
    (h : ∀ s'', FSite G pf k keep g n e s'' → Q () s'') : wpAny G.M (k.call q sc s.heap.objs.size f cd cl).A (leaving (k.call q sc s.heap.objs.size f cd cl).env e) Q E s' := by
  have gfr : ∀ b ∈ (k.call q sc s.heap.objs.size f cd cl).fr, g b = none := fun b hb => by
    have hb : b ∈ s.heap.objs.size :: k.fr := hb
    rcases List.mem_cons.mp hb with rfl | hb
    · exact S.gfresh
    · exact S.gfr hK b hb
  unfold leaving
  refine wpAny_bind (fault_noted (hk.call hs) Kx.call_fun hK' gfr x fun s₁ ea he y z => ?_)
  subst he
  refine fault_flight y (.inl rfl) fun s₂ w _ tr => ?_
  obtain ⟨oe', vs', T', oT', ts', r1, r2, r3, r4, r5, r6⟩ := tr (let ⟨oe, vs, T, oT, ts, q1, q2, q3, _, _, _, _, _, _⟩ := z; ⟨oe, vs, T, q1, q2, q3⟩)
  obtain ⟨gh, kp, ns, gens, os, ea', oe, vs, dd, od, xx, e, b2, b3, b4, b5, b6, b7, b8, b9, b10, b11, b12, b13⟩ := w
  cases e
  have no : ∀ a, keep' a = none → keep a = none := fun a h => by
    cases q : keep a with
    | none => rfl
    | some o => obtain ⟨o', q1, _⟩ := C.kp a o q; rw [q1] at h; exact no_sn h
  refine h _ ⟨gh, kept_back S C fr_call kp, let ⟨m, hm, _⟩ := S.locs; ⟨m, ns_back C kp hm⟩, gens, os, ea, oe, vs, dd, od, xx, rfl, no _ b2, b3, no _ b4, b5, ?_, b7, b8, b9, b10, b11, b12, ?_⟩
  · intro z
    obtain ⟨m, o, es, ep, h1, _⟩ := let ⟨m, hm, _⟩ := S.locs; (⟨m, hm⟩ : ∃ m, s.heap.Ns k.env.locals m)
    rw [z, C.L, h1] at b4; exact no_sn b4
  · rcases b13 with h1 | ⟨T, oT, ts, fl, c1, c2, c3, c4, c5, c6, c7, c8⟩
    · rw [b7] at r1; obtain rfl := Option.some.inj r1; rw [b10] at r2; cases r2; rw [h1] at r3; cases r3
    · rw [b7] at r1; obtain rfl := Option.some.inj r1; rw [b10] at r2; cases r2; rw [c1] at r3; cases r3
      rw [c2] at r4; obtain rfl := Option.some.inj r4; rw [c3] at r5; cases r5
      exact .inr ⟨_, _, _, _, c1, c2, c3, r6, .inl rfl, no _ c6, c7, c8⟩
end
noncomputable def ACc (G : Gl) (pf : Addr) (k : Kx) (σ : St) (f : Value) (Ds : List Dsc) (P : St → Dsc → Prop) (F : Int → Prop) : Prop :=
  ∀ keep hid s g (Rr : Result → Shared → Prop) vs, Kp G k keep hid → Site G k keep hid σ s g → All2 (Is g) vs Ds →
    (∀ σ' D v s' g', P σ' D → Le g g' → Site G k keep hid σ' s' g' → Is g' v D → Rr (.ok (.ret v)) s') →
    (∀ n e s', F n → FSite G pf k keep g n e s' → Rr (.error e) s') → codeAny G.M k.A (.call f ⟨vs, []⟩) Rr s
theorem ACc.ac {f : Value} {Ds : List Dsc} (h : ACc G pf k σ f Ds P F) : AC G pf k σ f Ds P F :=
  fun keep hid s g Q E vs hK S hv ok er => wpAny_call (h keep hid s g _ vs hK S hv ok er)
theorem acc_def (hG : G.Ok) (hk : k.Ok) {f : Addr} {q : Str} {ps : Arguments} {body : List Stmt} {sc : Scope} (hf : FnK G f q ps body sc) {n : Nat} (room : Room k.A (n + 1)) {own muIn : List (Addr × MO)} (hmu : σ.mu = own ++ muIn) {Ds : List Dsc} (names : List Str)
    (hb : ∀ name doc pm an cdv ct vs, vs.length = Ds.length → bindArgs (fnOf name q ps body sc .none .none doc pm an cdv ct) ⟨vs, []⟩ = pure (names.zip vs)) (hlen : names.length = Ds.length)
    (hloc : (names.all fun x => decide (sc.names.lookup x = some .local)) = true) (hcell : (sc.names.all fun x => decide (x.2 ≠ .cell)) = true) (hco : sc.isCoroutine = false) (hgen : sc.isGenerator = false) (hs : sc.kind = .function)
    (hbody : ∀ L cd, (k.call q sc L f cd []).Ok → (k.call q sc L f cd []).Fun → Room (k.call q sc L f cd []).A n →
      AX G pf (k.call q sc L f cd []) ⟨(names.zip Ds).reverse, muIn⟩ (execs body (k.call q sc L f cd []).env)
        (fun σ' => (Ex2 fun ext muOut => And3 (σ'.mu = ext ++ muOut) (muOut.map (·.1) = muIn.map (·.1)) (P ⟨σ.loc, own ++ muOut⟩ (.d .none))))
        (fun σ' D => (Ex2 fun ext muOut => And3 (σ'.mu = ext ++ muOut) (muOut.map (·.1) = muIn.map (·.1)) (P ⟨σ.loc, own ++ muOut⟩ D))) F) : ACc G pf k σ (.ref f) Ds P F := by
  intro keep hid s g Rr vs hK S hv ok er
  obtain ⟨loc, mu⟩ := σ
  dsimp only at hmu; subst hmu
  obtain ⟨name, doc, pm, an, cdv, ct, oc, od, osl, hlk, hcd⟩ := hf
  have hst := S.stays
  have hX := hG.X.keeps hst
  have C := calls_of hK S
  have hvl := hv.length
  refine (codeAny_call_def (fd := fnOf name q ps body sc .none .none doc pm an cdv ct) (body := body) (binds := names.zip vs) room.depth (hX _ _ hlk) rfl (hG.T.nolimit.keeps hst) (codeRec_of hX hcd) rfl
    (BindsTo.of_eq (hb _ _ _ _ _ _ _ hvl)) (fun x hx => of_decide_eq_true (List.all_eq_true.mp hcell x hx)) (fun x hx => of_decide_eq_true (List.all_eq_true.mp hloc x.1 (List.of_mem_zip hx).1)) (fun h₀ hns hkp => ?_) hco hgen hs)
  have hK' := call_kp hK S (q := q) (f := f) (cd := cdv) (cl := []) hs C (fun a h => h)
  -- the callee's start
  have hLh : h₀.get? s.heap.objs.size ≠ none := fun z => by obtain ⟨o, es, ep, h1, _⟩ := hns; rw [h1] at z; exact no_sn z
  have S₀ : Site G (k.call q sc s.heap.objs.size f cdv []) (PH.without (muIn.map (·.1)) s.heap) (fun a => hid a ∨ a = k.env.locals ∨ a ∈ own.map (·.1)) ⟨(names.zip Ds).reverse, muIn⟩ { s with heap := h₀, toks := s.toks + (names.zip vs).length } g := by
    refine ⟨S.base, fun b o e => hkp b o (S.gh b o e), fun b o e => ?_, fun a ha => ?_, S.gfresh, ⟨_, hns, fun x D e => ?_⟩, fun p hp => ?_, ?_, S.gens, S.os⟩
    · have h1 := hkp b o (C.sub b o e)
      by_cases hb : b ∈ (k.call q sc s.heap.objs.size f cdv []).fr
      · exact .inr ⟨hb, o.slots, h1⟩
      · exact .inl ⟨hb, h1⟩
    · rcases ha with h | rfl | h
      · exact S.ghid a h
      · exact S.gL
      · obtain ⟨p, hp, rfl⟩ := List.mem_map.mp h; exact (S.mus p (List.mem_append.mpr (.inl hp))).1
    · exact all2_lookup (all2_zip (names := names) hv).rev x D e
    · obtain ⟨h1, h2, h3, o, h4, h5⟩ := S.mus p (List.mem_append.mpr (.inr hp))
      exact ⟨h1, C.inn p hp, Nat.ne_of_lt (Heap.lt_size h4), o, hkp _ _ h4, h5⟩
    · have := S.nodup
      simp only [List.map_append] at this
      exact (List.nodup_append.mp this).2.1
  have hkF : (k.call q sc s.heap.objs.size f cdv []).Ok := hk.call hs
  refine hbody s.heap.objs.size cdv hkF Kx.call_fun room.call _ _ _ g _ _ hK' S₀ (fun σ' s' g' p l S' => ?_) (fun σ' D v s' g' p l S' i => ?_) fun n' e s' hn x => ?_
  · obtain ⟨ext, muOut, h1, h2, h3⟩ := p
    exact ok _ _ _ s' g' h3 l (call_back hK S fr_call C l S' h1 h2) .none
  · obtain ⟨ext, muOut, h1, h2, h3⟩ := p
    exact ok _ D v s' g' h3 l (call_back hK S fr_call C l S' h1 h2) i
  · refine fault_leave hk hK S hs C hK' (fun b o h1 h2 => ?_) x fun s'' y => er n' e s'' hn y
    unfold PH.without at h1
    by_cases hb : b ∈ muIn.map (·.1)
    · exact hb
    · rw [if_neg hb, h2] at h1; exact no_sn h1
theorem ac_def (hG : G.Ok) (hk : k.Ok) {f : Addr} {q : Str} {ps : Arguments} {body : List Stmt} {sc : Scope} (hf : FnK G f q ps body sc) {n : Nat} (room : Room k.A (n + 1)) {own muIn : List (Addr × MO)} (hmu : σ.mu = own ++ muIn) {Ds : List Dsc} (names : List Str)
    (hb : ∀ name doc pm an cdv ct vs, vs.length = Ds.length → bindArgs (fnOf name q ps body sc .none .none doc pm an cdv ct) ⟨vs, []⟩ = pure (names.zip vs)) (hlen : names.length = Ds.length)
    (hloc : (names.all fun x => decide (sc.names.lookup x = some .local)) = true) (hcell : (sc.names.all fun x => decide (x.2 ≠ .cell)) = true) (hco : sc.isCoroutine = false) (hgen : sc.isGenerator = false) (hs : sc.kind = .function)
    (hbody : ∀ L cd, (k.call q sc L f cd []).Ok → (k.call q sc L f cd []).Fun → Room (k.call q sc L f cd []).A n →
      AX G pf (k.call q sc L f cd []) ⟨(names.zip Ds).reverse, muIn⟩ (execs body (k.call q sc L f cd []).env)
        (fun σ' => (Ex2 fun ext muOut => And3 (σ'.mu = ext ++ muOut) (muOut.map (·.1) = muIn.map (·.1)) (P ⟨σ.loc, own ++ muOut⟩ (.d .none))))
        (fun σ' D => (Ex2 fun ext muOut => And3 (σ'.mu = ext ++ muOut) (muOut.map (·.1) = muIn.map (·.1)) (P ⟨σ.loc, own ++ muOut⟩ D))) F) : AC G pf k σ (.ref f) Ds P F :=
  (acc_def hG hk hf room hmu names hb hlen hloc hcell hco hgen hs hbody).ac
theorem Site.other {keep : PH} {hid : Addr → Prop} {s s' : Shared} {g : PH} (S : Site G k keep hid σ s g) {c : Addr} (h1 : g c = none) (h2 : keep c = none) (h3 : c ≠ k.env.locals) (h4 : ∀ p ∈ σ.mu, p.1 ≠ c) (hs : Heap.ExtBut c s.heap s'.heap) (hg : s'.gens = s.gens := by rfl) (ho : s'.os = s.os := by rfl) :
    Site G k keep hid σ s' g where
  base := S.base
  gh := fun b o e => hs b o (fun q => by rw [q, h1] at e; exact no_ns e) (S.gh b o e)
  kept := S.kept.mono fun b o hb e => hs b o (fun q => by obtain ⟨o', h⟩ := hb; rw [q, h2] at h; exact no_ns h) e
  ghid := S.ghid
  gL := S.gL
  locs := let ⟨m, hm, hl⟩ := S.locs; ⟨m, hm.at' fun o e => hs _ o (fun q => h3 q.symm) e, hl⟩
  mus := fun p hp => let ⟨a, b, c, o, ho, hm⟩ := S.mus p hp; ⟨a, b, c, o, hs _ o (h4 p hp) ho, hm⟩
  nodup := S.nodup
  gens := hg.trans S.gens
  os := ho.trans S.os
theorem Site.adopt {keep : PH} {hid : Addr → Prop} {s : Shared} {g : PH} (S : Site G k keep hid σ s g) {a : Addr} {o : Obj} {mo : MO} (h1 : g a = none) (h2 : keep a = none) (h3 : a ≠ k.env.locals) (h4 : ∀ p ∈ σ.mu, p.1 ≠ a) (ho : s.heap.get? a = some o) (hm : MOk G g o mo) :
    Site G k keep hid ⟨σ.loc, (a, mo) :: σ.mu⟩ s g where
  base := S.base
  gh := S.gh
  kept := S.kept
  ghid := S.ghid
  gL := S.gL
  locs := S.locs
  mus := fun p hp => by
    rcases List.mem_cons.mp hp with rfl | hp
    · exact ⟨h1, h2, h3, o, ho, hm⟩
    · exact S.mus p hp
  nodup := by
    simp only [List.map_cons, List.nodup_cons]
    exact ⟨fun h => by obtain ⟨p, hp, e⟩ := List.mem_map.mp h; exact h4 p hp e, S.nodup⟩
  gens := S.gens
  os := S.os
noncomputable def Kx.comp (k : Kx) (sc : Scope) (cl : List (Str × Addr)) (C : Addr) : Kx := ⟨k.A, compEnvC sc cl C k.env, k.envs⟩
theorem Kx.Ok.comp (hk : k.Ok) {sc : Scope} {cl : List (Str × Addr)} {C : Addr} (hs : sc.kind = .function) : (k.comp sc cl C).Ok := ⟨hk.frames, hs, hk.glob, hk.blt, hk.hand⟩
noncomputable def tests (ifs : List Expr) (env : Env) : Sem Bool := forIn ifs true fun c r => if r = true then do let ok ← PySem.isTrue c env (eval c env); pure (ForInStep.yield ok) else pure (ForInStep.yield r)
theorem ab_tests_nil (h : PB σ true) : AB G pf k σ (tests [] k.env) PB F := fun keep hid s g Q E hK S ok er => wpAny_pure (ok σ true s g h .rfl S)
theorem ab_tests_one {c : Expr} (h : AB G pf k σ (PySem.isTrue c k.env (eval c k.env)) PB F) : AB G pf k σ (tests [c] k.env) PB F := by
  intro keep hid s g Q E hK S ok er
  unfold tests
  simp only [List.forIn_cons, List.forIn_nil, if_true]
  exact wpAny_bind (wpAny_bind (wpAny_mono (h keep hid s g _ E hK S ok er) (fun b s' q => wpAny_pure (wpAny_pure q)) fun _ _ x => x))
noncomputable def ACm (G : Gl) (pf : Addr) (k : Kx) (elt t : Expr) (ifs : List Expr) (fin : St → List Dsc → Prop) : List PV → St → List Dsc → Prop
  | [], σ, acc => fin σ acc
  | d :: ds, σ, acc => AS G k σ t (.d d) fun σ' => AB G pf k σ' (tests ifs k.env) (fun σ'' b => if b = true then AW G pf k σ'' (eval elt k.env) (fun σ₃ D => ACm G pf k elt t ifs fin ds σ₃ (acc ++ [D])) (fun _ => False) else ACm G pf k elt t ifs fin ds σ'' acc) (fun _ => False)
structure CompF (G : Gl) (k kc : Kx) (keep : PH) (hid : Addr → Prop) (mu : List (Addr × MO)) (s₁ : Shared) (g₁ : PH) (fp wr : List Addr) (D C : Addr) (keep' : PH) (hid' : Addr → Prop) : Prop where
  kcL : kc.env.locals = C
  kcfr : kc.fr = k.fr
  hKc : Kp G kc keep' hid'
  cs : CallS G k keep hid s₁ g₁ [] mu keep' hid'
  wrlt : ∀ b ∈ D :: wr, s₁.heap.objs.size ≤ b ∧ b < C
  klt : ∀ b o, keep b = some o → b < s₁.heap.objs.size
  Llt : k.env.locals < s₁.heap.objs.size
  gno : ∀ b, s₁.heap.objs.size ≤ b → g₁ b = none
  kw : ∀ b ∈ D :: wr, keep' b = none
  Lw : kc.env.locals ∉ D :: wr
  Dwr : D ∉ wr
  Dfp : ∀ b ∈ fp, b = D → False
  kC : keep C = none
  lC : C ≠ k.env.locals
  kD : keep D = none
  lD : D ≠ k.env.locals
theorem comp_facts {kc : Kx} {sc : Scope} {cl : List (Str × Addr)} {D C : Addr} (hkc : k.comp sc cl C = kc) {keep : PH} {hid : Addr → Prop} {loc : List (Str × Dsc)} {mu : List (Addr × MO)} {s₁ s₂ : Shared} {g₁ : PH} {fp wr : List Addr} {h₄ : Heap} {m₀ : Str → Option Value}
    (hK : Kp G k keep hid) (S₁ : Site G k keep hid ⟨loc, mu⟩ s₁ g₁) (s1D : s₁.heap.objs.size ≤ D) (DC : D < C) (hwr : ∀ b ∈ wr, s₁.heap.objs.size ≤ b) (wrD : ∀ b ∈ wr, b < D) (hfp : ∀ b ∈ fp, b ∈ wr ∨ ∃ o, g₁ b = some o)
    (up : ∀ b o, s₁.heap.get? b = some o → h₄.get? b = some o) (hns₄ : h₄.Ns C m₀) (hgen : s₂.gens = s₁.gens) (hos : s₂.os = s₁.os) (tk : Nat) :
    Ex2 fun keep' hid' => CompF G k kc keep hid mu s₁ g₁ fp wr D C keep' hid' ∧ Site G kc keep' hid' ⟨[], mu⟩ { s₂ with heap := h₄, toks := tk } g₁ := by
  have C₁ := calls_of (own := []) (muIn := mu) hK S₁
  have cge : s₁.heap.objs.size ≤ C := Nat.le_trans s1D (Nat.le_of_lt DC)
  have Llt : k.env.locals < s₁.heap.objs.size := S₁.Llt
  have klt : ∀ b o, keep b = some o → b < s₁.heap.objs.size := fun b o e => by obtain ⟨sl, q⟩ := S₁.kept.keep_get e; exact Heap.lt_size q
  have frlt : ∀ b ∈ k.fr, b < s₁.heap.objs.size := fun b hb => by
    rcases hK.frh b hb with rfl | q
    · exact Llt
    · obtain ⟨o, q⟩ := hK.hk b q; exact klt b o q
  have kcL : kc.env.locals = C := by rw [← hkc]; rfl
  have kcfr : kc.fr = k.fr := by rw [← hkc]; rfl
  generalize hkeep' : PH.without (mu.map (·.1)) s₁.heap = keep' at C₁
  generalize hhid' : (fun a => hid a ∨ a = k.env.locals ∨ a ∈ ([] : List (Addr × MO)).map (·.1)) = hid' at C₁
  have k'lt : ∀ b o, keep' b = some o → b < s₁.heap.objs.size := fun b o e => Heap.lt_size (C₁.sub b o e)
  have hid'lt : ∀ a, hid' a → ∃ o, keep' a = some o := fun a ha => by
    rw [← hhid'] at ha
    rcases ha with ha | rfl | ha
    · obtain ⟨o, q⟩ := hK.hk a ha; obtain ⟨o', q', _⟩ := C₁.kp a o q; exact ⟨o', q'⟩
    · rw [C₁.L]; obtain ⟨m, ⟨o, es, ep, h1, _⟩, _⟩ := S₁.locs; exact ⟨o, h1⟩
    · cases ha
  have hKc : Kp G kc keep' hid' := by
    refine ⟨fun b o e => C₁.g _ _ (S₁.base b o e), ?_, by rw [kcL]; exact Nat.le_trans hK.Lb (Nat.le_trans (Nat.le_of_lt S₁.Llt) cge), hid'lt, fun e he => ?_, fun b hb => ?_⟩
    · rw [kcL]
      cases q : keep' C with
      | none => rfl
      | some o => exact absurd (k'lt _ _ q) (Nat.not_lt.mpr cge)
    · have he : e ∈ k.envs := by rw [← hkc] at he; exact he
      obtain ⟨e1, Fa, e2, e3, e4⟩ := hK.fr e he
      refine ⟨e1, Fa, e2, e3, .inr ?_⟩
      rcases e4 with rfl | ⟨o, e4, e5⟩
      · obtain ⟨m, ⟨o, es, ep, q1, q2, _⟩, _⟩ := S₁.locs
        exact ⟨o, by rw [C₁.L]; exact q1, fun vs z => by rw [q2] at z; exact no_df z⟩
      · obtain ⟨o', q1, q2⟩ := C₁.kp _ o e4
        obtain ⟨sl, q3⟩ := S₁.kept.keep_get e4
        rw [q2] at q3; obtain rfl := Option.some.inj q3
        exact ⟨_, q1, e5⟩
    · rw [kcfr] at hb
      rcases hK.frh b hb with rfl | q
      · exact .inr C₁.hL
      · exact .inr (C₁.hhid _ q)
  -- the start
  have gno : ∀ b, s₁.heap.objs.size ≤ b → g₁ b = none := fun b hb => by
    cases q : g₁ b with
    | none => rfl
    | some o => exact absurd (Heap.lt_size (S₁.gh _ _ q)) (Nat.not_lt.mpr hb)
  have S₄ : Site G kc keep' hid' ⟨[], mu⟩ { s₂ with heap := h₄, toks := tk } g₁ := by
    refine ⟨S₁.base, fun b o e => up b o (S₁.gh b o e), fun b o e => ?_, fun a ha => ?_, by rw [kcL]; exact gno _ cge, ⟨_, by rw [kcL]; exact hns₄, fun x D e => by simp at e⟩, fun p hp => ?_, S₁.nodup, hgen.trans S₁.gens, hos.trans S₁.os⟩
    · have := up b o (C₁.sub b o e)
      by_cases hb : b ∈ kc.fr
      · exact .inr ⟨hb, o.slots, this⟩
      · exact .inl ⟨hb, this⟩
    · rw [← hhid'] at ha
      rcases ha with ha | rfl | ha
      · exact S₁.ghid a ha
      · exact S₁.gL
      · cases ha
    · obtain ⟨e1, e2, e3, o, e4, e5⟩ := S₁.mus p hp
      refine ⟨e1, C₁.inn p hp, ?_, o, up _ _ e4, e5⟩
      rw [kcL]; exact Nat.ne_of_lt (Nat.lt_of_lt_of_le (Heap.lt_size e4) cge)
  have wrlt : ∀ b ∈ D :: wr, s₁.heap.objs.size ≤ b ∧ b < C := fun b hb => by
    rcases List.mem_cons.mp hb with rfl | hb
    · exact ⟨s1D, DC⟩
    · exact ⟨hwr b hb, Nat.lt_trans (wrD b hb) DC⟩
  have Lw : kc.env.locals ∉ D :: wr := fun hb => by rw [kcL] at hb; exact absurd (wrlt _ hb).2 (Nat.lt_irrefl _)
  have kw : ∀ b ∈ D :: wr, keep' b = none := fun b hb => by
    cases q : keep' b with
    | none => rfl
    | some o => exact absurd (k'lt b o q) (Nat.not_lt.mpr (wrlt b hb).1)
  have Dwr : D ∉ wr := fun h => absurd (wrD _ h) (Nat.lt_irrefl _)
  have Dfp : ∀ b ∈ fp, b = D → False := fun b hb e => by
    rcases hfp b hb with h | ⟨o, h⟩
    · exact Dwr (e ▸ h)
    · exact absurd (Heap.lt_size (S₁.gh _ _ h)) (Nat.not_lt.mpr (e ▸ s1D))
  have up' : ∀ b, s₁.heap.objs.size ≤ b → keep b = none ∧ b ≠ k.env.locals := fun b hb => ⟨by
    cases q : keep b with
    | none => rfl
    | some o => exact absurd (klt _ _ q) (Nat.not_lt.mpr hb), fun e => absurd Llt (Nat.not_lt.mpr (e ▸ hb))⟩
  exact ⟨keep', hid', ⟨kcL, kcfr, hKc, C₁, wrlt, klt, Llt, gno, kw, Lw, Dwr, Dfp, (up' C cge).1, (up' C cge).2, (up' D s1D).1, (up' D s1D).2⟩, S₄⟩
theorem Site.turn {kc : Kx} {keep' : PH} {hid' : Addr → Prop} {σ' : St} {s' : Shared} {g' : PH} {D : Addr} {wr : List Addr} (S' : Site G kc keep' hid' σ' s' g') (kw : ∀ b ∈ D :: wr, keep' b = none) (Lw : kc.env.locals ∉ D :: wr) (hgw : ∀ b ∈ D :: wr, g' b = none) (hmw : ∀ p ∈ σ'.mu, p.1 ∉ D :: wr)
    {h' : Heap} {tk : Nat} (hkp : ∀ b o, b ∉ wr → s'.heap.get? b = some o → h'.get? b = some o) : Site G kc keep' hid' σ' { s' with heap := h', toks := tk } g' :=
  ⟨S'.base, fun b o e => hkp b o (fun hb => by rw [hgw b (.tail _ hb)] at e; exact no_ns e) (S'.gh b o e), S'.kept.mono fun b o hb e => hkp b o (fun hw => by obtain ⟨o', hb⟩ := hb; rw [kw b (.tail _ hw)] at hb; exact no_ns hb) e, S'.ghid, S'.gL,
        let ⟨m, hm, hl⟩ := S'.locs; ⟨m, hm.at' fun o e => hkp _ o (fun h => Lw (.tail _ h)) e, hl⟩, fun p hp => let ⟨a, b, c, o, q, r⟩ := S'.mus p hp; ⟨a, b, c, o, hkp _ o (fun h => hmw p hp (.tail _ h)) q, r⟩, S'.nodup, S'.gens, S'.os⟩
theorem comp_back {kc : Kx} {keep' : PH} {hid' : Addr → Prop} {g₁ g' : PH} {D : Addr} {fp wr : List Addr} (hfp : ∀ b ∈ fp, b ∈ wr ∨ ∃ o, g₁ b = some o) (hKc : Kp G kc keep' hid') (kw : ∀ b ∈ D :: wr, keep' b = none) (Lw : kc.env.locals ∉ D :: wr) {h' : Heap} {oD : Obj}
    (gh5 : ∀ b o, g' b = some o → h'.get? b = some o) (lg : Le g₁ g') (le' : Le keep' (keep'.over (D :: wr) h')) (hoD' : h'.get? D = some oD) (ex0 : ∀ b ∈ wr, ∃ o, h'.get? b = some o)
    {σ'' : St} {s'' : Shared} {g'' : PH} (l : Le g' g'') (S'' : Site G kc (keep'.over (D :: wr) h') (fun a => hid' a ∨ (a ∈ D :: wr ∧ ∃ o, h'.get? a = some o)) σ'' s'' g'') :
    And5 (Site G kc keep' hid' σ'' s'' g'') (∀ b ∈ fp, ∀ o, h'.get? b = some o → s''.heap.get? b = some o) (∀ b ∈ D :: wr, g'' b = none) (∀ p ∈ σ''.mu, p.1 ∉ D :: wr) (s''.heap.get? D = some oD) := by
  have fr' : ∀ b ∈ D :: wr, b ∉ kc.fr := fun b hb hf => by
    rcases hKc.frh b hf with rfl | q
    · exact Lw hb
    · obtain ⟨o, q⟩ := hKc.hk b q; rw [kw b hb] at q; exact no_ns q
  have ex : ∀ b ∈ D :: wr, ∀ o, h'.get? b = some o → s''.heap.get? b = some o := fun b hb o q => by
    rcases S''.kept b o (by unfold PH.over; rw [if_pos hb]; exact q) with ⟨_, r⟩ | ⟨r, _⟩
    · exact r
    · exact absurd r (fr' b hb)
  have ex1 : ∀ b ∈ D :: wr, ∃ o, h'.get? b = some o := fun b hb => by
    rcases List.mem_cons.mp hb with rfl | hb
    · exact ⟨_, hoD'⟩
    · exact ex0 b hb
  refine ⟨S''.weaken le' fun a h => .inl h, fun b hb o q => ?_, fun b hb => S''.ghid b (.inr ⟨hb, ex1 b hb⟩), fun p hp hb => ?_, ex D (.head _) _ hoD'⟩
  · rcases hfp b hb with hw | ⟨o', ho'⟩
    · exact ex b (.tail _ hw) o q
    · rw [gh5 b o' (lg _ _ ho')] at q; obtain rfl := Option.some.inj q
      exact S''.gh b _ (l _ _ (lg _ _ ho'))
  · obtain ⟨o, q⟩ := ex1 _ hb
    obtain ⟨_, b', _⟩ := S''.mus p hp
    unfold PH.over at b'; rw [if_pos hb, q] at b'; exact no_sn b'
theorem comp_start (hk : k.Ok) {elt tt iter : Expr} {ifs : List Expr} {sc : Scope} {pos : Pos} {cl : List (Str × Addr)} (hkind : sc.kind = .function) (hcell : (sc.names.all fun x => decide (x.2 ≠ .cell)) = true)
    {keep : PH} {hid : Addr → Prop} {loc : List (Str × Dsc)} {mu : List (Addr × MO)} {s₁ s₂ : Shared} {g₁ : PH} {fp wr : List Addr} {Stt : Nat → Heap → Prop} {I : Addr} {R : Addr → Addr → Result → Shared → Prop} {E : Value → Shared → Prop}
    (hK : Kp G k keep hid) (S₁ : Site G k keep hid ⟨loc, mu⟩ s₁ g₁) (frame : ∀ i h h', Stt i h → (∀ b ∈ fp, ∀ o, h.get? b = some o → h'.get? b = some o) → Stt i h')
    (self : ∀ i (s : Shared) (Q : Value → Shared → Prop) (E : Value → Shared → Prop), Stt i s.heap → Q (.ref I) s → wpAny G.M k.A (pyIter (.ref I)) Q E s)
    (st0 : Stt 0 s₂.heap) (hgrow : ∀ b o, s₁.heap.get? b = some o → s₂.heap.get? b = some o) (hsize : s₁.heap.objs.size ≤ s₂.heap.objs.size) (hgen : s₂.gens = s₁.gens) (hos : s₂.os = s₁.os)
    (hwr : ∀ b ∈ wr, s₁.heap.objs.size ≤ b) (hfp : ∀ b ∈ fp, b ∈ wr ∨ ∃ o, g₁ b = some o) (hal : ∀ j h, Stt j h → ∀ b ∈ wr, ∃ o, h.get? b = some o)
    (loop : ∀ kc D C h₄ keep' hid', kc = k.comp sc cl C → kc.Ok → CompF G k kc keep hid mu s₁ g₁ fp wr D C keep' hid' → Site G kc keep' hid' ⟨[], mu⟩ { s₂ with heap := h₄, toks := s₂.toks + 0 } g₁ → Stt 0 h₄ → h₄.get? D = some { cls := .type "list", dict := none, data := .seq ([] : List Value).toArray } →
      codeAny G.M k.A (.compLoop (.ListComp elt [⟨tt, iter, ifs, 0⟩] sc pos) 0 (.ref I) (.ref D) kc.env) (R D C) { s₂ with heap := h₄, toks := s₂.toks + 0 }) :
    wpAny G.M k.A (newList []) (fun acc s₃ => wpAny G.M k.A (newFunctionEnv sc k.env.globals cl [] k.env.qual none .none (some k.env)) (fun cenv s₄ =>
      codeAny G.M k.A (.compStart (.ListComp elt [⟨tt, iter, ifs, 0⟩] sc pos) 0 (.ref I) acc { cenv with scope := relabel sc k.env }) (match acc with | .ref D => R D cenv.locals | _ => fun _ _ => True) s₄) E s₃) E s₂ := by
  refine wpAny_newObj_type ?_ (by show (0 : Nat) ≤ _; exact Nat.zero_le _)
  have hD₃ : (s₂.heap.push { cls := .type "list", dict := none, data := .seq ([] : List Value).toArray }).get? s₂.heap.objs.size = some { cls := .type "list", dict := none, data := .seq ([] : List Value).toArray } := Heap.get?_push_size _ rfl
  have up₃ : ∀ b o, s₂.heap.get? b = some o → (s₂.heap.push { cls := .type "list", dict := none, data := .seq ([] : List Value).toArray }).get? b = some o := fun b o e => Heap.get?_push_of_some _ e
  refine wpAny_newFunctionEnv (fun x hx => of_decide_eq_true (List.all_eq_true.mp hcell x hx)) (by intro y hy; simp at hy) (fun h₄ hns₄ hsb₄ => ?_) hkind
  have up₄ : ∀ b o, (s₂.heap.push { cls := .type "list", dict := none, data := .seq ([] : List Value).toArray }).get? b = some o → h₄.get? b = some o := fun b o e => (hsb₄.2 b (Nat.ne_of_lt (Heap.lt_size e))).trans (Heap.get?_push_of_some _ e)
  obtain ⟨keep', hid', CF, S₄⟩ := comp_facts (kc := k.comp sc cl (s₂.heap.push { cls := .type "list", dict := none, data := .seq ([] : List Value).toArray }).objs.size) rfl hK S₁ hsize (Heap.lt_size hD₃) hwr (fun b hb => by obtain ⟨o, q⟩ := hal 0 _ st0 b hb; exact Heap.lt_size q) hfp (fun b o e => up₄ b o (up₃ b o (hgrow b o e))) hns₄ hgen hos (s₂.toks + 0)
  have st4 : Stt 0 h₄ := frame _ _ _ st0 fun b _ o e => up₄ b o (up₃ b o e)
  have lp := loop _ _ _ h₄ keep' hid' rfl (hk.comp hkind) CF S₄ st4 (up₄ _ _ hD₃)
  exact codeAny_compStart_list lp (self 0 _ _ _ st4 lp)
noncomputable def CInv (G : Gl) (kc : Kx) (keep' : PH) (hid' : Addr → Prop) (g₁ : PH) (D : Addr) (wr : List Addr) (N : Nat) (T : Nat → St → List Dsc → Prop) (Stt : Nat → Heap → Prop) (n : Nat) (s' : Shared) : Prop :=
  Ex4 fun j σ' g' acc => And9 (n + j = N) (Le g₁ g') (Site G kc keep' hid' σ' s' g') (T j σ' acc) (Stt j s'.heap) (Ex2 fun o vs => And3 (s'.heap.get? D = some o) (SeqO "list" o vs) (All2 (Is g') vs acc)) (∀ b ∈ D :: wr, g' b = none) (∀ p ∈ σ'.mu, p.1 ∉ D :: wr) (acc.length ≤ j)
structure CEnd (G : Gl) (kc : Kx) (keep' : PH) (hid' : Addr → Prop) (g₁ : PH) (D : Addr) (wr : List Addr) (T : St → List Dsc → Prop) (σ' : St) (s' : Shared) (g' : PH) (acc : List Dsc) (oD : Obj) (vsD : List Value) : Prop where
  lg : Le g₁ g'
  S : Site G kc keep' hid' σ' s' g'
  fin : T σ' acc
  hD : s'.heap.get? D = some oD
  hs : SeqO "list" oD vsD
  hacc : All2 (Is g') vsD acc
  hgw : ∀ b ∈ D :: wr, g' b = none
  hmw : ∀ p ∈ σ'.mu, p.1 ∉ D :: wr
theorem CInv.zero {keep : PH} {hid : Addr → Prop} {mu : List (Addr × MO)} {s₁ s : Shared} {g₁ : PH} {fp wr : List Addr} {D C : Addr} {kc : Kx} {keep' : PH} {hid' : Addr → Prop} {N : Nat} {T : Nat → St → List Dsc → Prop} {Stt : Nat → Heap → Prop} (CF : CompF G k kc keep hid mu s₁ g₁ fp wr D C keep' hid')
    (S₄ : Site G kc keep' hid' ⟨[], mu⟩ s g₁) (st : Stt 0 s.heap) (hD : s.heap.get? D = some { cls := .type "list", dict := none, data := .seq ([] : List Value).toArray }) (t : T 0 ⟨[], mu⟩ []) (hmw : ∀ p ∈ mu, p.1 ∉ D :: wr) : CInv G kc keep' hid' g₁ D wr N T Stt N s :=
  ⟨0, ⟨[], mu⟩, g₁, [], rfl, .rfl, S₄, t, st, ⟨_, [], hD, ⟨rfl, rfl, rfl, 0, rfl⟩, .nil⟩, fun b hb => CF.gno _ (CF.wrlt b hb).1, hmw, Nat.le_refl _⟩
theorem Site.mu_apart {keep : PH} {hid : Addr → Prop} {loc : List (Str × Dsc)} {mu : List (Addr × MO)} {s₁ : Shared} {g₁ : PH} {fp wr : List Addr} {D C : Addr} {kc : Kx} {keep' : PH} {hid' : Addr → Prop} (S₁ : Site G k keep hid ⟨loc, mu⟩ s₁ g₁) (CF : CompF G k kc keep hid mu s₁ g₁ fp wr D C keep' hid') : ∀ p ∈ mu, p.1 ∉ D :: wr := fun p hp hb => by
  obtain ⟨_, _, _, o, q, _⟩ := S₁.mus p hp
  exact absurd (Heap.lt_size q) (Nat.not_lt.mpr (CF.wrlt _ hb).1)
theorem comp_loop {elt t iter : Expr} {ifs : List Expr} {sc : Scope} {pos : Pos} {xs : List PV} {Pv : Nat → Value → Prop} {fin : St → List Dsc → Prop} {keep : PH} {hid : Addr → Prop} {loc : List (Str × Dsc)} {mu : List (Addr × MO)} {s₁ s : Shared} {g₁ : PH} {fp wr : List Addr} {D C I : Addr} {kc : Kx} {keep' : PH} {hid' : Addr → Prop} {Stt : Nat → Heap → Prop} {R : Result → Shared → Prop}
    (CF : CompF G k kc keep hid mu s₁ g₁ fp wr D C keep' hid') (S₁ : Site G k keep hid ⟨loc, mu⟩ s₁ g₁) (S₄ : Site G kc keep' hid' ⟨[], mu⟩ s g₁) (st : Stt 0 s.heap) (hD : s.heap.get? D = some { cls := .type "list", dict := none, data := .seq ([] : List Value).toArray })
    (hfp : ∀ b ∈ fp, b ∈ wr ∨ ∃ o, g₁ b = some o) (hal : ∀ j h, Stt j h → ∀ b ∈ wr, ∃ o, h.get? b = some o) (hlen : xs.length ≤ sizeLine)
    (W' : Walks G.prog G.w kc.A I fp wr xs.length Pv Stt) (hPv : ∀ i u, i < xs.length → Pv i u → ∃ d, xs[i]? = some d ∧ Dat g₁ u d)
    (hgo : ∀ it v, letOwnedTupleGo t it v = pure ()) (hturn : ACm G pf kc elt t ifs fin xs ⟨[], mu⟩ [])
    (hend : ∀ σ' s' g' acc oD vsD, CEnd G kc keep' hid' g₁ D wr fin σ' s' g' acc oD vsD → R (.ok .next) s') : codeAny G.M kc.A (.compLoop (.ListComp elt [⟨t, iter, ifs, 0⟩] sc pos) 0 (.ref I) (.ref D) kc.env) R s := by
  refine codeAny_compLoop_tests (CInv G kc keep' hid' g₁ D wr xs.length (fun j σ' acc => ACm G pf kc elt t ifs fin (xs.drop j) σ' acc) Stt) (fun n s' hI => ?_) xs.length (CInv.zero CF S₄ st hD (by simpa using hturn) (S₁.mu_apart CF)) (hgo _)
  obtain ⟨j, σ', g', acc, hn, lg, S', hF', hst, ⟨oD, vsD, hoD, hsD, hacc⟩, hgw, hmw, hal'⟩ := hI
  by_cases hj : j < xs.length
  · refine W'.item j s' _ _ hj hst fun u h' tk hu hst' hkp => ?_
    dsimp only
    obtain ⟨d, hd, hdat⟩ := hPv j u hj hu
    have hdr : xs.drop j = d :: xs.drop (j + 1) := by
      rw [List.drop_eq_getElem_cons hj]
      rw [List.getElem?_eq_getElem hj] at hd
      obtain rfl := Option.some.inj hd; rfl
    rw [hdr, ACm] at hF'
    have S₅ := S'.turn CF.kw CF.Lw hgw hmw (tk := tk) hkp
    obtain ⟨hK', S₅', le'⟩ := S₅.guard CF.hKc CF.kw hgw hmw CF.Lw
    have hoD' : h'.get? D = some oD := hkp D oD CF.Dwr hoD
    have back := fun {σ'' s'' g''} => comp_back (σ'' := σ'') (s'' := s'') (g'' := g'') hfp CF.hKc CF.kw CF.Lw S₅.gh lg le' hoD' (hal _ _ hst')
    refine hF' _ _ _ _ _ _ u hK' S₅' (hdat.le lg) fun σ₆ s₆ g₆ h₆ l₆ S₆ => ?_
    refine h₆ _ _ _ _ _ _ hK' S₆ (fun σ₇ b s₇ g₇ p₇ l₇ S₇ => ?_) fun _ _ _ f => f.elim
    cases b with
    | false =>
      rw [if_neg (by decide)] at p₇ ⊢
      obtain ⟨a1, a2, a3, a4, a6⟩ := back (l₆.trans l₇) S₇
      exact ⟨n - 1, ar3 hn hj, j + 1, σ₇, g₇, acc, ar4 hn hj, lg.trans (l₆.trans l₇), a1, p₇, W'.frame _ _ _ hst' a2, ⟨oD, vsD, a6, hsD, hacc.mono fun _ _ x => x.le (l₆.trans l₇)⟩, a3, a4, Nat.le_succ_of_le hal'⟩
    | true =>
      rw [if_pos rfl] at p₇ ⊢
      refine p₇ _ _ _ _ _ _ hK' S₇ (fun σ₈ D₈ v₈ s₈ g₈ p₈ l₈ S₈ i₈ => ?_) fun _ _ _ f => f.elim
      have l' := l₆.trans (l₇.trans l₈)
      obtain ⟨a1, a2, a3, a4, a6⟩ := back l' S₈
      refine wpAny_list_append_plain (hsD.plain a6) (fun h₉ hl₉ hs₉ => ?_) (by rw [List.size_toArray, hacc.length]; exact ar12 hlen hn hal')
      obtain ⟨o₉, q₉, so₉⟩ := SeqO.of_plain hl₉
      have S₉ := a1.other (s' := { s₈ with heap := h₉ }) (a3 D (.head _)) (CF.kw D (.head _)) (fun e => CF.Lw (e ▸ .head _)) (fun p hp e => a4 p hp (e ▸ .head _)) hs₉.extBut
      refine ⟨n - 1, ar3 hn hj, j + 1, σ₈, g₈, acc ++ [D₈], ar4 hn hj, lg.trans l', S₉, p₈, W'.frame _ _ _ (W'.frame _ _ _ hst' a2) fun b hb o e => hs₉.extBut b o (fun z => CF.Dfp b hb z) e, ⟨o₉, _, q₉, so₉, ?_⟩, a3, a4, by rw [List.length_append]; exact Nat.succ_le_succ hal'⟩
      rw [show (vsD.toArray.push v₈).toList = vsD ++ [v₈] by simp]
      exact (hacc.mono fun _ _ x => x.le l').append (.cons i₈ .nil)
  · have hj' : j = xs.length := ar5 hn hj
    subst hj'
    rw [List.drop_length, ACm] at hF'
    exact W'.done s' _ _ hst fun h' tk hkp => hend _ _ _ _ _ _ ⟨lg, S'.turn CF.kw CF.Lw hgw hmw (tk := tk) hkp, hF', hkp D oD CF.Dwr hoD, hsD, hacc, hgw, hmw⟩
theorem aw_comp (hk : k.Ok) {elt t iter : Expr} {ifs : List Expr} {sc : Scope} {pos : Pos} {cl : List (Str × Addr)} (hclos : closureFor sc k.env = pure cl)
    (h : AW G pf k σ (eval iter k.env) (fun σ₁ D => ∃ xs, ASrc G k σ₁ D xs ∧ xs.length ≤ sizeLine ∧ ∀ C, (k.comp sc cl C).Ok → ACm G pf (k.comp sc cl C) elt t ifs
      (fun σ₂ acc => (Ex2 fun ext muOut => And3 (σ₂.mu = ext ++ muOut) (muOut.map (·.1) = σ₁.mu.map (·.1)) (∀ a, P ⟨σ₁.loc, (a, .lst acc) :: muOut⟩ (.m a)))) xs ⟨[], σ₁.mu⟩ []) F)
    (hkind : sc.kind = .function := by rfl) (hs : foldedSetIterable iter k.env = pure := by rfl) (hnames : (sc.names.all fun x => !(x.2 == .local) || decide (sc.names.lookup x.1 = some .local)) = true := by rfl)
    (hcell : (sc.names.all fun x => decide (x.2 ≠ .cell)) = true := by rfl) (hgo : letOwnedTupleGo t = (fun _ _ => pure ()) := by rfl) : AW G pf k σ (eval (.ListComp elt [⟨t, iter, ifs, 0⟩] sc pos) k.env) P F := by
  intro keep hid s g Q E hK S ok er
  rw [eval_ListComp]
  refine wpAny_comprehension_free (use := none) rfl (congrFun hs) hclos hkind (fun x hx hl => ?_) ?_
  · have := List.all_eq_true.mp hnames x hx
    simpa [hl] using this
  show wpAny _ _ (eval iter k.env) _ _ _
  refine h keep hid s g _ E hK S (fun σ₁ D v s₁ g₁ h₁ l₁ S₁ i₁ => ?_) er
  obtain ⟨xs, hsrc, hlen, hturn⟩ := h₁
  obtain ⟨loc, mu⟩ := σ₁
  refine hsrc keep hid s₁ g₁ _ _ v hK S₁ i₁ fun I fp wr Pv Stt s₂ W st0 hgrow hsize hgen hos hwr hfp hal hPv => ?_
  refine comp_start (R := fun D C => compPost G.M k.A E none Q (.ref D) C) hk hkind hcell hK S₁ W.frame W.self st0 hgrow hsize hgen hos hwr hfp hal fun kc D C h₄ keep' hid' hkc ok' CF S₄ st4 hD => ?_
  subst hkc
  refine comp_loop CF S₁ S₄ st4 hD hfp hal hlen W hPv (fun it v => congrFun (congrFun hgo it) v) (hturn C ok') fun σ' s' g' acc oD vsD Z => ?_
  obtain ⟨ext, muOut, m1, m2, m3⟩ := Z.fin
  obtain ⟨mc, hmc, _⟩ := Z.S.locs
  refine ⟨mc, hmc, fun h₆ hs₆ => ?_⟩
  have B := (call_back (own := []) (muIn := mu) hK S₁ (k' := k.comp sc cl C) (fun b _ => by rw [CF.kcfr]) CF.cs Z.lg Z.S m1 m2).other (s' := { s' with heap := h₆ }) Z.S.gL CF.kC CF.lC (fun p hp => (Z.S.mus p (m1 ▸ List.mem_append.mpr (.inr hp))).2.2.1) hs₆.extBut
  exact ok _ _ _ _ g' (m3 D) (l₁.trans Z.lg) (B.adopt (a := D) (mo := .lst acc) (Z.hgw D (.head _)) CF.kD CF.lD (fun p hp e => Z.hmw p (m1 ▸ List.mem_append.mpr (.inr hp)) (e ▸ .head _)) ((hs₆.2 D (Nat.ne_of_lt (CF.wrlt D (.head _)).2)).trans Z.hD) ⟨vsD, Z.hs, Z.hacc⟩) rfl
end
section
set_option linter.unusedVariables false
set_option maxRecDepth 100000
open PySem PySem.W PySem.Spec PySem.Calls PyProof.Rows PyProof.V
variable {G : Gl} {pf : Addr} {k : Kx}
variable {σ : St} {P : St → Dsc → Prop} {PB : St → Bool → Prop} {PL : St → List Dsc → Prop} {PX : St → Prop} {R : St → Dsc → Prop} {F : Int → Prop} {Pb : Bool → Prop}
section eqs
mutual
noncomputable def toPy : PV → PyData
  | .none => .none
  | .bool b => .bool b
  | .int i => .int i
  | .str x => .str x
  | .tup ds => .tuple (toPys ds)
  | .lst ds => .list (toPys ds)
noncomputable def toPys : List PV → List PyData
  | [] => []
  | d :: ds => toPy d :: toPys ds
end
mutual
inductive PVok : Nat → PV → Prop
  | none (n) : PVok n .none
  | int (n i) : PVok n (.int i)
  | str (n x) : PyData.strOk x = true → PVok n (.str x)
  | tup {n ds} : PVoks n ds → PVok (n + 1) (.tup ds)
  | lst {n ds} : PVoks n ds → PVok (n + 1) (.lst ds)
inductive PVoks : Nat → List PV → Prop
  | nil (n) : PVoks n []
  | cons {n d ds} : PVok n d → PVoks n ds → PVoks n (d :: ds)
end
theorem dat_reads {g : PH} {h : Heap} (k : ∀ b o, g b = some o → h.get? b = some o) {v d} (x : Dat g v d) : ∃ as, Reads h v (toPy d) as := by
  refine Dat.rec (motive_1 := fun v d _ => ∃ as, Reads h v (toPy d) as) (motive_2 := fun vs ds _ => ∃ as, ReadsAll h vs (toPys ds) as) ⟨_, .none⟩ (fun b => ⟨_, .bool b⟩) (fun i t => ⟨_, .int i t⟩) (fun x t => ⟨_, .str x t⟩) (fun ha ho _ ⟨as, q⟩ => ?_) (fun ha ho _ ⟨as, q⟩ => ?_) ⟨_, .nil⟩ (fun _ _ ⟨as, q⟩ ⟨bs, p⟩ => ⟨_, .cons q p⟩) x
  · obtain ⟨n, e⟩ := ho.data; exact ⟨as, .tuple (k _ _ ha) ho.cls e (by simpa using q)⟩
  · obtain ⟨n, e⟩ := ho.data; exact ⟨_, .list (k _ _ ha) ho.cls e (by simpa using q)⟩
theorem ok_lay {n d} (h : PVok n d) : (toPy d).canLay0 = true ∧ (toPy d).depth ≤ n := by
  refine PVok.rec (motive_1 := fun n d _ => (toPy d).canLay0 = true ∧ (toPy d).depth ≤ n) (motive_2 := fun n ds _ => PyData.canLayAll0 (toPys ds) = true ∧ PyData.depthAll (toPys ds) ≤ n) ?_ ?_ ?_ ?_ ?_ ?_ ?_ h
  · intro n; exact ⟨rfl, Nat.zero_le _⟩
  · intro n i; exact ⟨rfl, Nat.zero_le _⟩
  · intro n x h; exact ⟨h, Nat.zero_le _⟩
  · intro n ds _ ih; simp [toPy, PyData.canLay0, PyData.depth, ih.1]; exact ih.2
  · intro n ds _ ih; simp [toPy, PyData.canLay0, PyData.depth, ih.1]; exact ih.2
  · intro n; exact ⟨rfl, Nat.zero_le _⟩
  · intro n d ds _ _ a b; simp [toPys, PyData.canLayAll0, PyData.depthAll, a.1, b.1]; exact ar14 a.2 b.2
theorem oks_lay {n ds} (h : PVoks n ds) : PyData.canLayAll0 (toPys ds) = true ∧ PyData.depthAll (toPys ds) ≤ n := by
  have := ok_lay (.tup h)
  simpa [toPy, PyData.canLay0, PyData.depth] using this
theorem PVok.no_bool {m b} (h : PVok m (.bool b)) : False := by cases h
theorem PVok.tupI {m es} (h : PVok m (.tup es)) : ∃ n, PVoks n es := by cases h with | tup r => exact ⟨_, r⟩
theorem PVok.lstI {m es} (h : PVok m (.lst es)) : ∃ n, PVoks n es := by cases h with | lst r => exact ⟨_, r⟩
theorem PVoks.consI {m e es} (h : PVoks m (e :: es)) : PVok m e ∧ PVoks m es := by cases h with | cons x y => exact ⟨x, y⟩
theorem ok_eqv {n d m e} (h : PVok n d) (h' : PVok m e) : (PyData.eqv (toPy d) (toPy e) = true ↔ d = e) := by
  refine PVok.rec (motive_1 := fun n d _ => ∀ e m, PVok m e → (PyData.eqv (toPy d) (toPy e) = true ↔ d = e)) (motive_2 := fun n ds _ => ∀ es m, PVoks m es → (PyData.eqvAll (toPys ds) (toPys es) = true ↔ ds = es)) ?_ ?_ ?_ ?_ ?_ ?_ ?_ h e m h'
  · intro n e m h'; cases e with | bool b => exact h'.no_bool.elim | _ => simp [toPy, PyData.eqv]
  · intro n i e m h'; cases e with | bool b => exact h'.no_bool.elim | _ => simp [toPy, PyData.eqv]
  · intro n x _ e m h'; cases e with | bool b => exact h'.no_bool.elim | _ => simp [toPy, PyData.eqv]
  · intro n ds _ ih e m h'
    cases e with
    | tup es => obtain ⟨_, r'⟩ := h'.tupI; simp [toPy, PyData.eqv, ih es _ r']
    | _ => simp [toPy, PyData.eqv]
  · intro n ds _ ih e m h'
    cases e with
    | lst es => obtain ⟨_, r'⟩ := h'.lstI; simp [toPy, PyData.eqv, ih es _ r']
    | _ => simp [toPy, PyData.eqv]
  · intro n es m h'; cases es <;> simp [toPys, PyData.eqvAll]
  · intro n d ds _ _ a b es m h'
    cases es with
    | nil => simp [toPys, PyData.eqvAll]
    | cons e es => simp [toPys, PyData.eqvAll, a e _ h'.consI.1, b es _ h'.consI.2]
open Classical in
noncomputable def eqb (a b : PV) : Bool := decide (a = b)
theorem eqb_self (a : PV) : eqb a a = true := by simp [eqb]
theorem eqb_ne {a b : PV} (h : a ≠ b) : eqb a b = false := by simp [eqb, h]
theorem eqb_iff {a b : PV} : eqb a b = true ↔ a = b := by simp [eqb]
theorem eqb_toPy {n m : Nat} {a b : PV} (ha : PVok n a) (hb : PVok m b) : PyData.eqv (toPy a) (toPy b) = eqb a b := by
  rw [Bool.eq_iff_iff, ok_eqv ha hb, eqb_iff]
theorem ao_eq {a b : PV} {n m : Nat} (ha : PVok n a) (hb : PVok m b) (hr : Room k.A 0) (hn : k.A.units + n < cLine) (h : P σ (.d (.bool (eqb a b)))) : AO2 G pf k σ (compareOp .Eq) (.d a) (.d b) P F := by
  intro keep hid s g Q E v₁ v₂ hK S i₁ i₂ ok er
  obtain ⟨as, r₁⟩ := dat_reads S.gh i₁
  obtain ⟨bs, r₂⟩ := dat_reads S.gh i₂
  have l₁ := ok_lay ha
  have l₂ := ok_lay hb
  refine SeqAt.compareEq_reads r₁ r₂ l₁.1 l₂.1 (by exact Nat.lt_of_le_of_lt (Nat.add_le_add_left (Nat.le_trans (Nat.min_le_left _ _) l₁.2) _) hn) ?_
  rw [eqb_toPy ha hb]
  exact ok _ _ _ _ g h .rfl S (.bool _)
theorem ao_ne {a b : PV} {n m : Nat} (ha : PVok n a) (hb : PVok m b) (hr : Room k.A 0) (hn : k.A.units + n < cLine) (h : P σ (.d (.bool (!eqb a b)))) : AO2 G pf k σ (compareOp .NotEq) (.d a) (.d b) P F := by
  intro keep hid s g Q E v₁ v₂ hK S i₁ i₂ ok er
  obtain ⟨as, r₁⟩ := dat_reads S.gh i₁
  obtain ⟨bs, r₂⟩ := dat_reads S.gh i₂
  have l₁ := ok_lay ha
  have l₂ := ok_lay hb
  refine SeqAt.compareNe_reads r₁ r₂ l₁.1 l₂.1 (by exact Nat.lt_of_le_of_lt (Nat.add_le_add_left (Nat.le_trans (Nat.min_le_left _ _) l₁.2) _) hn) ?_
  rw [eqb_toPy ha hb]
  exact ok _ _ _ _ g h .rfl S (.bool _)
theorem any_eqb {n m : Nat} {xs : List PV} {d : PV} (hx : PVoks n xs) (hd : PVok m d) : ((toPys xs).any fun y => PyData.eqv y (toPy d)) = xs.any fun y => eqb y d := by
  induction xs with
  | nil => simp [toPys]
  | cons x xs ih =>
    cases hx with
    | cons h r => simp [toPys, ih r, eqb_toPy h hd]
theorem ao_in_list {x : PV} {xs : List PV} {n m : Nat} (hx : PVok n x) (hxs : PVoks m xs) (hn : k.A.units + 1 + n < cLine) (h : P σ (.d (.bool (xs.any fun y => eqb y x)))) : AO2 G pf k σ (compareOp .In) (.d x) (.d (.lst xs)) P F := by
  intro keep hid s g Q E v₁ v₂ hK S i₁ i₂ ok er
  obtain ⟨as, r₁⟩ := dat_reads S.gh i₁
  obtain ⟨bs, r₂⟩ := dat_reads S.gh i₂
  have l₁ := ok_lay hx
  have l₂ := oks_lay hxs
  rw [toPy] at r₂
  refine SeqAt.in_list_reads r₂ r₁ l₂.1 l₁.1 (by exact Nat.lt_of_le_of_lt (Nat.add_le_add_left (Nat.le_trans (Nat.min_le_right _ _) l₁.2) _) hn) ?_
  rw [any_eqb hxs hx]
  exact ok _ _ _ _ g h .rfl S (.bool _)
theorem ao_notin_list {x : PV} {xs : List PV} {n m : Nat} (hx : PVok n x) (hxs : PVoks m xs) (hn : k.A.units + 1 + n < cLine) (h : P σ (.d (.bool (!xs.any fun y => eqb y x)))) : AO2 G pf k σ (compareOp .NotIn) (.d x) (.d (.lst xs)) P F := by
  intro keep hid s g Q E v₁ v₂ hK S i₁ i₂ ok er
  obtain ⟨as, r₁⟩ := dat_reads S.gh i₁
  obtain ⟨bs, r₂⟩ := dat_reads S.gh i₂
  have l₁ := ok_lay hx
  have l₂ := oks_lay hxs
  rw [toPy] at r₂
  refine SeqAt.notIn_list_reads r₂ r₁ l₂.1 l₁.1 (by exact Nat.lt_of_le_of_lt (Nat.add_le_add_left (Nat.le_trans (Nat.min_le_right _ _) l₁.2) _) hn) ?_
  rw [any_eqb hxs hx]
  exact ok _ _ _ _ g h .rfl S (.bool _)
theorem ao_in_tup {x : PV} {xs : List PV} {n m : Nat} (hx : PVok n x) (hxs : PVoks m xs) (hn : k.A.units + 1 + n < cLine) (h : P σ (.d (.bool (xs.any fun y => eqb y x)))) : AO2 G pf k σ (compareOp .In) (.d x) (.d (.tup xs)) P F := by
  intro keep hid s g Q E v₁ v₂ hK S i₁ i₂ ok er
  obtain ⟨as, r₁⟩ := dat_reads S.gh i₁
  obtain ⟨bs, r₂⟩ := dat_reads S.gh i₂
  have l₁ := ok_lay hx
  have l₂ := oks_lay hxs
  rw [toPy] at r₂
  refine SeqAt.in_tuple_reads r₂ r₁ l₂.1 l₁.1 (by exact Nat.lt_of_le_of_lt (Nat.add_le_add_left (Nat.le_trans (Nat.min_le_right _ _) l₁.2) _) hn) ?_
  rw [any_eqb hxs hx]
  exact ok _ _ _ _ g h .rfl S (.bool _)
theorem ao_notin_tup {x : PV} {xs : List PV} {n m : Nat} (hx : PVok n x) (hxs : PVoks m xs) (hn : k.A.units + 1 + n < cLine) (h : P σ (.d (.bool (!xs.any fun y => eqb y x)))) : AO2 G pf k σ (compareOp .NotIn) (.d x) (.d (.tup xs)) P F := by
  intro keep hid s g Q E v₁ v₂ hK S i₁ i₂ ok er
  obtain ⟨as, r₁⟩ := dat_reads S.gh i₁
  obtain ⟨bs, r₂⟩ := dat_reads S.gh i₂
  have l₁ := ok_lay hx
  have l₂ := oks_lay hxs
  rw [toPy] at r₂
  refine SeqAt.notIn_tuple_reads r₂ r₁ l₂.1 l₁.1 (by exact Nat.lt_of_le_of_lt (Nat.add_le_add_left (Nat.le_trans (Nat.min_le_right _ _) l₁.2) _) hn) ?_
  rw [any_eqb hxs hx]
  exact ok _ _ _ _ g h .rfl S (.bool _)
theorem at_bool {b : Bool} (h : Pb b) : AT G k σ (.d (.bool b)) Pb := by
  intro keep hid s g Q E v hK S i ok
  cases i
  exact wpAny_truthy_bool (ok b s g h .rfl S)
end eqs
section intOps
theorem ao_add {a b : Int} (h : P σ (.d (.int (a + b)))) : AO2 G pf k σ (binaryOp .Add) (.d (.int a)) (.d (.int b)) P F := by
  intro keep hid s g Q E v₁ v₂ hK S i₁ i₂ ok er; obtain ⟨_, rfl⟩ := Dat.inv i₁; obtain ⟨_, rfl⟩ := Dat.inv i₂
  exact add_int (ok _ _ _ _ g h .rfl S.tok (.int _ _))
theorem ao_sub {a b : Int} (h : P σ (.d (.int (a - b)))) : AO2 G pf k σ (binaryOp .Sub) (.d (.int a)) (.d (.int b)) P F := by
  intro keep hid s g Q E v₁ v₂ hK S i₁ i₂ ok er; obtain ⟨_, rfl⟩ := Dat.inv i₁; obtain ⟨_, rfl⟩ := Dat.inv i₂
  exact sub_int (ok _ _ _ _ g h .rfl S.tok (.int _ _))
theorem ao_mul {a b : Int} (hm : IntMulOk a b) (h : P σ (.d (.int (a * b)))) : AO2 G pf k σ (binaryOp .Mult) (.d (.int a)) (.d (.int b)) P F := by
  intro keep hid s g Q E v₁ v₂ hK S i₁ i₂ ok er; obtain ⟨_, rfl⟩ := Dat.inv i₁; obtain ⟨_, rfl⟩ := Dat.inv i₂
  exact mul_int (ok _ _ _ _ g h .rfl S.tok (.int _ _)) hm
theorem ao_mod {a b : Int} (hb : b ≠ 0) (h : P σ (.d (.int (Int.fmod a b)))) : AO2 G pf k σ (binaryOp .Mod) (.d (.int a)) (.d (.int b)) P F := by
  intro keep hid s g Q E v₁ v₂ hK S i₁ i₂ ok er; obtain ⟨_, rfl⟩ := Dat.inv i₁; obtain ⟨_, rfl⟩ := Dat.inv i₂
  exact mod_int' hb (ok _ _ _ _ g h .rfl S.tok (.int _ _))
theorem ao_fdiv {a b : Int} (hb : b ≠ 0) (hp : Builtin.divisionGoesByPylong a b = false) (h : P σ (.d (.int (Int.fdiv a b)))) : AO2 G pf k σ (binaryOp .FloorDiv) (.d (.int a)) (.d (.int b)) P F := by
  intro keep hid s g Q E v₁ v₂ hK S i₁ i₂ ok er; obtain ⟨_, rfl⟩ := Dat.inv i₁; obtain ⟨_, rfl⟩ := Dat.inv i₂
  exact floordiv_int hb (ok _ _ _ _ g h .rfl S.tok (.int _ _)) (.inl hp)
theorem ao_pow {a n : Int} (hn : 0 ≤ n) (hb : (Builtin.Int.intBits a : Int) * n ≤ 2 ^ 27) (h : P σ (.d (.int (a ^ n.toNat)))) : AO2 G pf k σ (binaryOp .Pow) (.d (.int a)) (.d (.int n)) P F := by
  intro keep hid s g Q E v₁ v₂ hK S i₁ i₂ ok er; obtain ⟨_, rfl⟩ := Dat.inv i₁; obtain ⟨_, rfl⟩ := Dat.inv i₂
  exact pow_int hn hb (ok _ _ _ _ g h .rfl S.tok (.int _ _))
theorem ao_lt {a b : Int} (h : P σ (.d (.bool (decide (a < b))))) : AO2 G pf k σ (compareOp .Lt) (.d (.int a)) (.d (.int b)) P F := by
  intro keep hid s g Q E v₁ v₂ hK S i₁ i₂ ok er; obtain ⟨_, rfl⟩ := Dat.inv i₁; obtain ⟨_, rfl⟩ := Dat.inv i₂
  exact wpAny_lt_int (ok _ _ _ _ g h .rfl S (.bool _))
theorem ao_le {a b : Int} (h : P σ (.d (.bool (decide (a ≤ b))))) : AO2 G pf k σ (compareOp .LtE) (.d (.int a)) (.d (.int b)) P F := by
  intro keep hid s g Q E v₁ v₂ hK S i₁ i₂ ok er; obtain ⟨_, rfl⟩ := Dat.inv i₁; obtain ⟨_, rfl⟩ := Dat.inv i₂
  exact PyProof.Rows.le_int (ok _ _ _ _ g h .rfl S (.bool _))
theorem ao_gt {a b : Int} (h : P σ (.d (.bool (decide (b < a))))) : AO2 G pf k σ (compareOp .Gt) (.d (.int a)) (.d (.int b)) P F := by
  intro keep hid s g Q E v₁ v₂ hK S i₁ i₂ ok er; obtain ⟨_, rfl⟩ := Dat.inv i₁; obtain ⟨_, rfl⟩ := Dat.inv i₂
  exact PyProof.Rows.gt_int (ok _ _ _ _ g h .rfl S (.bool _))
theorem ao_ge {a b : Int} (h : P σ (.d (.bool (decide (b ≤ a))))) : AO2 G pf k σ (compareOp .GtE) (.d (.int a)) (.d (.int b)) P F := by
  intro keep hid s g Q E v₁ v₂ hK S i₁ i₂ ok er; obtain ⟨_, rfl⟩ := Dat.inv i₁; obtain ⟨_, rfl⟩ := Dat.inv i₂
  exact PyProof.Rows.ge_int (ok _ _ _ _ g h .rfl S (.bool _))
theorem ao_eqi {a b : Int} (h : P σ (.d (.bool (a == b)))) : AO2 G pf k σ (compareOp .Eq) (.d (.int a)) (.d (.int b)) P F := by
  intro keep hid s g Q E v₁ v₂ hK S i₁ i₂ ok er; obtain ⟨_, rfl⟩ := Dat.inv i₁; obtain ⟨_, rfl⟩ := Dat.inv i₂
  exact eq_int (ok _ _ _ _ g h .rfl S (.bool _))
theorem ao_nei {a b : Int} (h : P σ (.d (.bool (a != b)))) : AO2 G pf k σ (compareOp .NotEq) (.d (.int a)) (.d (.int b)) P F := by
  intro keep hid s g Q E v₁ v₂ hK S i₁ i₂ ok er; obtain ⟨_, rfl⟩ := Dat.inv i₁; obtain ⟨_, rfl⟩ := Dat.inv i₂
  exact PyProof.Rows.ne_int (ok _ _ _ _ g h .rfl S (.bool _))
theorem ac_abs {a : Int} (h : P σ (.d (.int (if a < 0 then -a else a)))) : AC G pf k σ (.builtin "abs") [.d (.int a)] P F := by
  intro keep hid s g Q E vs hK S hv ok er
  obtain ⟨_, rfl, i⟩ := hv.one; obtain ⟨_, rfl⟩ := Dat.inv i; exact call_abs_int fun u tk => ok _ _ _ _ g h .rfl S.tok (.int _ _)
end intOps
section strOps
theorem ao_adds {x y : Str} (hl : x.length + y.length ≤ sizeLine) (h : P σ (.d (.str (x ++ y)))) : AO2 G pf k σ (binaryOp .Add) (.d (.str x)) (.d (.str y)) P F := by
  intro keep hid s g Q E v₁ v₂ hK S i₁ i₂ ok er; obtain ⟨_, rfl⟩ := Dat.inv i₁; obtain ⟨_, rfl⟩ := Dat.inv i₂
  exact add_str (fun t' tk => ok _ _ _ _ g h .rfl S.tok (.str _ _)) hl
theorem ao_eqs {x y : Str} (h : P σ (.d (.bool (x == y)))) : AO2 G pf k σ (compareOp .Eq) (.d (.str x)) (.d (.str y)) P F := by
  intro keep hid s g Q E v₁ v₂ hK S i₁ i₂ ok er; obtain ⟨_, rfl⟩ := Dat.inv i₁; obtain ⟨_, rfl⟩ := Dat.inv i₂
  exact eq_str (ok _ _ _ _ g h .rfl S (.bool _))
theorem ao_nes {x y : Str} (h : P σ (.d (.bool (x != y)))) : AO2 G pf k σ (compareOp .NotEq) (.d (.str x)) (.d (.str y)) P F := by
  intro keep hid s g Q E v₁ v₂ hK S i₁ i₂ ok er; obtain ⟨_, rfl⟩ := Dat.inv i₁; obtain ⟨_, rfl⟩ := Dat.inv i₂
  exact PyProof.Rows.ne_str (ok _ _ _ _ g h .rfl S (.bool _))
theorem ao_les {x y : Str} (h : P σ (.d (.bool (!(y.cps.toList < x.cps.toList))))) : AO2 G pf k σ (compareOp .LtE) (.d (.str x)) (.d (.str y)) P F := by
  intro keep hid s g Q E v₁ v₂ hK S i₁ i₂ ok er; obtain ⟨_, rfl⟩ := Dat.inv i₁; obtain ⟨_, rfl⟩ := Dat.inv i₂
  exact PySem.P.le_str (ok _ _ _ _ g h .rfl S (.bool _))
theorem ao_ins {x y : Str} (h : P σ (.d (.bool (!List.isEmpty (Builtin.Str.occurrences x y 0 x.length 1))))) : AO2 G pf k σ (compareOp .In) (.d (.str y)) (.d (.str x)) P F := by
  intro keep hid s g Q E v₁ v₂ hK S i₁ i₂ ok er; obtain ⟨_, rfl⟩ := Dat.inv i₁; obtain ⟨_, rfl⟩ := Dat.inv i₂
  exact PyProof.Rows.in_str (ok _ _ _ _ g h .rfl S (.bool _))
theorem ao_notins {x y : Str} (h : P σ (.d (.bool (!!List.isEmpty (Builtin.Str.occurrences x y 0 x.length 1))))) : AO2 G pf k σ (compareOp .NotIn) (.d (.str y)) (.d (.str x)) P F := by
  intro keep hid s g Q E v₁ v₂ hK S i₁ i₂ ok er; obtain ⟨_, rfl⟩ := Dat.inv i₁; obtain ⟨_, rfl⟩ := Dat.inv i₂
  exact notIn_str (ok _ _ _ _ g h .rfl S (.bool _))
theorem ac_lens {x : Str} (hl : (x.length : Int) < 9223372036854775808) (h : P σ (.d (.int x.length))) : AC G pf k σ (.builtin "len") [.d (.str x)] P F := by
  intro keep hid s g Q E vs hK S hv ok er
  obtain ⟨_, rfl, i⟩ := hv.one; obtain ⟨_, rfl⟩ := Dat.inv i; exact SBL.len hl (ok _ _ _ _ g h .rfl S.tok (.int _ _))
theorem ac_lenl {xs : List PV} (hl : (xs.length : Int) < 2 ^ 63) (h : P σ (.d (.int xs.length))) : AC G pf k σ (.builtin "len") [.d (.lst xs)] P F := by
  intro keep hid s g Q E vs hK S hv ok er
  obtain ⟨_, rfl, i⟩ := hv.one
  obtain ⟨a, o, vs, rfl, ha, ho, r⟩ := Dat.inv i
  have hle := r.length
  refine PyProof.Rows.len_list (items := vs.toArray) ⟨_, S.gh _ _ ha, ho.cls, ho.data⟩ (by rw [List.size_toArray, hle]; exact hl) ?_
  rw [List.size_toArray, hle]
  exact ok _ _ _ _ g h .rfl S.tok (.int _ _)
theorem ac_lent {xs : List PV} (hl : (xs.length : Int) < 2 ^ 63) (h : P σ (.d (.int xs.length))) : AC G pf k σ (.builtin "len") [.d (.tup xs)] P F := by
  intro keep hid s g Q E vs hK S hv ok er
  obtain ⟨_, rfl, i⟩ := hv.one
  obtain ⟨a, o, vs, rfl, ha, ho, r⟩ := Dat.inv i
  have hle := r.length
  refine PyProof.Rows.len_tuple (items := vs.toArray) ⟨_, S.gh _ _ ha, ho.cls, ho.data⟩ (by rw [List.size_toArray, hle]; exact hl) ?_
  rw [List.size_toArray, hle]
  exact ok _ _ _ _ g h .rfl S.tok (.int _ _)
theorem ac_lenm {a : Addr} {Ds : List Dsc} (hm : (a, .lst Ds) ∈ σ.mu) (hl : (Ds.length : Int) < 2 ^ 63) (h : P σ (.d (.int Ds.length))) : AC G pf k σ (.builtin "len") [.m a] P F := by
  intro keep hid s g Q E vs hK S hv ok er
  obtain ⟨_, rfl, rfl⟩ := hv.one
  obtain ⟨_, _, _, o, ho, vs, hso, hall⟩ := S.mus _ hm
  have hle := hall.length
  refine PyProof.Rows.len_list (items := vs.toArray) ⟨_, ho, hso.cls, hso.data⟩ (by rw [List.size_toArray, hle]; exact hl) ?_
  rw [List.size_toArray, hle]
  exact ok _ _ _ _ g h .rfl S.tok (.int _ _)
theorem ac_stri {a : Int} (hl : Nat.log2 (Int.natAbs a) < 1920) (h : P σ (.d (.str (Str.ofString (toString a))))) : AC G pf k σ (.type "str") [.d (.int a)] P F := by
  intro keep hid s g Q E vs hK S hv ok er
  obtain ⟨_, rfl, i⟩ := hv.one; obtain ⟨_, rfl⟩ := Dat.inv i; exact PySem.P.str_of_int hl (ok _ _ _ _ g h .rfl S.tok (.str _ _))
theorem ac_strs {x : Str} (h : P σ (.d (.str x))) : AC G pf k σ (.type "str") [.d (.str x)] P F := by
  intro keep hid s g Q E vs hK S hv ok er
  obtain ⟨_, rfl, i⟩ := hv.one; obtain ⟨_, rfl⟩ := Dat.inv i; exact PySem.P.str_of_str (ok _ _ _ _ g h .rfl S (.str _ _))
theorem ac_ints {x : Str} {n : Int} (hn : PySem.intText? x = some n) (hl : x.length ≤ 640) (h : P σ (.d (.int n))) : AC G pf k σ (.type "int") [.d (.str x)] P F := by
  intro keep hid s g Q E vs hK S hv ok er
  obtain ⟨_, rfl, i⟩ := hv.one; obtain ⟨_, rfl⟩ := Dat.inv i; exact KIN.call_text hn hl (ok _ _ _ _ g h .rfl S.tok (.int _ _))
theorem ac_starts {x y : Str} (h : P σ (.d (.bool (Txt.startswith x y)))) : AC G pf k σ (.builtin "str.startswith") [.d (.str x), .d (.str y)] P F := by
  intro keep hid s g Q E vs hK S hv ok er
  obtain ⟨_, _, rfl, i, j⟩ := hv.two; obtain ⟨_, rfl⟩ := Dat.inv i; obtain ⟨_, rfl⟩ := Dat.inv j; exact SC.startswith (ok _ _ _ _ g h .rfl S (.bool _))
theorem ac_ord {c : Nat} (h : P σ (.d (.int c))) : AC G pf k σ (.builtin "ord") [.d (.str ⟨#[c]⟩)] P F := by
  intro keep hid s g Q E vs hK S hv ok er
  obtain ⟨_, rfl, i⟩ := hv.one; obtain ⟨_, rfl⟩ := Dat.inv i; exact PyProof.Rows.ord_of_one rfl (ok _ _ _ _ g h .rfl S.tok (.int _ _))
end strOps
noncomputable def allObjs (h : Heap) (L : Addr) : List (Addr × Obj) := (List.range h.objs.size).filterMap fun a => if a = L then none else (h.get? a).map fun o => (a, o)
theorem mem_allObjs {h : Heap} {L a : Addr} {o : Obj} : (a, o) ∈ allObjs h L ↔ a ≠ L ∧ h.get? a = some o := by
  unfold allObjs
  simp only [List.mem_filterMap, List.mem_range]
  constructor
  · rintro ⟨b, _, e⟩
    by_cases hb : b = L
    · rw [if_pos hb] at e; exact no_ns e
    · rw [if_neg hb] at e
      obtain ⟨o', h1, h2⟩ := Option.map_eq_some_iff.mp e
      cases h2; exact ⟨hb, h1⟩
  · rintro ⟨h1, h2⟩
    exact ⟨a, Heap.lt_size h2, by rw [if_neg h1, h2]; rfl⟩
theorem Site.led {keep : PH} {hid : Addr → Prop} {s : Shared} {g : PH} (hK : Kp G k keep hid) (S : Site G k keep hid σ s g) :
    ∃ m, Fr G.base k.env.locals s.heap m ∧ News G.base k.env.locals s.heap ((allObjs s.heap k.env.locals).filter fun p => (G.base.get? p.1).isNone) ∧
      ∀ h', Fr G.base k.env.locals h' m → (∀ p ∈ (allObjs s.heap k.env.locals).filter fun p => (G.base.get? p.1).isNone, h'.get? p.1 = some p.2) → Gro k.env.locals s.heap h' := by
  obtain ⟨m, hm, _⟩ := S.locs
  refine ⟨m, ⟨hm, S.stays, hK.Lb⟩, fun p hp => ?_, fun h' F' N' => ⟨fun b o hb e => ?_, fun m' hm' => ?_⟩⟩
  · obtain ⟨a, o⟩ := p
    obtain ⟨hp, hn⟩ := List.mem_filter.mp hp
    obtain ⟨h1, h2⟩ := mem_allObjs.mp hp
    exact ⟨h2, h1, by simpa using hn⟩
  · cases q : G.base.get? b with
    | none => exact N' (b, o) (List.mem_filter.mpr ⟨mem_allObjs.mpr ⟨hb, e⟩, by simp [q]⟩)
    | some o' => have := S.stays b o' q; rw [e] at this; obtain rfl := Option.some.inj this; exact F'.keep b o q
  · have : m' = m := by
      obtain ⟨o, es, ep, e1, e2, e3, e4⟩ := hm'
      obtain ⟨o', es', ep', e1', e2', e3', e4'⟩ := hm
      rw [e1] at e1'; obtain rfl := Option.some.inj e1'; rw [e2] at e2'; cases e2'
      exact funext fun n => (e4 n).symm.trans (e4' n)
    rw [this]; exact F'.ns
theorem strs_dat {g : PH} : ∀ (l : List (Str × Tok)), DatAll g (strValues l) (l.map fun p => PV.str p.1)
  | [] => .nil
  | (x, t) :: r => .cons (.str x t) (strs_dat r)
theorem strs_are {g : PH} : ∀ {vs : List Value} {ys : List Str}, DatAll g vs (ys.map PV.str) → StrsAre vs ys
  | [], [], _ => .nil
  | [], _ :: _, h => nomatch h
  | _ :: _, [], h => nomatch h
  | _ :: _, _ :: _, .cons h r => by cases h; exact .cons _ _ (strs_are r)
section seqs
theorem ac_split0 {x : Str} (hl : x.length + 2 ≤ sizeLine) (h : P σ (.d (.lst ((Txt.words x).map PV.str)))) : AC G pf k σ (.builtin "str.split") [.d (.str x)] P F := by
  intro keep hid s g Q E vs hK S hv ok er
  obtain ⟨_, rfl, i⟩ := hv.one
  obtain ⟨_, rfl⟩ := Dat.inv i
  obtain ⟨m, Fr', N, back⟩ := S.led hK
  refine splitN0 (hsz := hl) Fr' N fun l h' tk hw F' N' => ?_
  obtain ⟨S', le⟩ := S.grow (s' := { s with heap := h', toks := tk }) (o := { cls := .type "list", data := .seq (strValues l).toArray }) (Nat.le_refl _) hK (back h' F' fun p hp => (N' p (.tail _ hp)).1) (N' _ (.head _)).1
  refine ok _ _ _ _ _ h le S' (.lst PH.ext_self ⟨rfl, rfl, rfl, 0, rfl⟩ ?_)
  rw [← hw, List.map_map]
  exact strs_dat l
theorem ac_split1 {x y : Str} (hy : (y.length == 0) = false) (hl : x.length + 2 ≤ sizeLine) (h : P σ (.d (.lst ((Txt.split x y).map PV.str)))) : AC G pf k σ (.builtin "str.split") [.d (.str x), .d (.str y)] P F := by
  intro keep hid s g Q E vs hK S hv ok er
  obtain ⟨_, _, rfl, i, j⟩ := hv.two
  obtain ⟨_, rfl⟩ := Dat.inv i
  obtain ⟨_, rfl⟩ := Dat.inv j
  obtain ⟨m, Fr', N, back⟩ := S.led hK
  refine splitN1 (hsz := hl) Fr' N hy fun l h' tk hw F' N' => ?_
  obtain ⟨S', le⟩ := S.grow (s' := { s with heap := h', toks := tk }) (o := { cls := .type "list", data := .seq (strValues l).toArray }) (Nat.le_refl _) hK (back h' F' fun p hp => (N' p (.tail _ hp)).1) (N' _ (.head _)).1
  refine ok _ _ _ _ _ h le S' (.lst PH.ext_self ⟨rfl, rfl, rfl, 0, rfl⟩ ?_)
  rw [← hw, List.map_map]
  exact strs_dat l
theorem ac_join {x : Str} {ys : List Str} (hx : x.length ≤ 64) (hl : (ys.map (·.length)).sum + ys.length * 64 ≤ 16777216) (h : P σ (.d (.str (Txt.join x ys)))) : AC G pf k σ (.builtin "str.join") [.d (.str x), .d (.lst (ys.map PV.str))] P F := by
  intro keep hid s g Q E vs hK S hv ok er
  obtain ⟨_, _, rfl, i, j⟩ := hv.two
  obtain ⟨_, rfl⟩ := Dat.inv i
  obtain ⟨a, o, vs, rfl, ha, ho, r⟩ := Dat.inv j
  exact join_listC ⟨_, S.gh _ _ ha, ho.cls, ho.data⟩ (by simpa using strs_are r) hx hl fun t' tk => ok _ _ _ _ g h .rfl S.tok (.str _ _)
theorem ac_tuple {xs : List PV} (hl : xs.length ≤ sizeLine) (h : P σ (.d (.tup xs))) : AC G pf k σ (.type "tuple") [.d (.lst xs)] P F := by
  intro keep hid s g Q E vs hK S hv ok er
  obtain ⟨_, rfl, i⟩ := hv.one
  obtain ⟨a, o, vs, rfl, ha, ho, r⟩ := Dat.inv i
  refine call_tuple_list (items := vs.toArray) ⟨_, S.gh _ _ ha, ho.cls, ho.data⟩ (fun h' hk => ?_) (by rw [List.size_toArray, r.length]; exact hl)
  have S₁ := S.same (s' := { s with heap := h' }) hK (.of hk)
  obtain ⟨S', le⟩ := S₁.grow (s' := { s with heap := h'.push { cls := .type "tuple", data := .seq vs.toArray } }) (o := { cls := .type "tuple", data := .seq vs.toArray }) (Nat.le_refl _) hK (.of fun b o e => Heap.get?_push_of_some _ e) (Heap.get?_push_size _ rfl)
  exact ok _ _ _ _ _ h le S' (.tup PH.ext_self ⟨rfl, rfl, rfl, 0, rfl⟩ (r.le le))
theorem ac_tuple_t {xs : List PV} (h : P σ (.d (.tup xs))) : AC G pf k σ (.type "tuple") [.d (.tup xs)] P F := by
  intro keep hid s g Q E vs hK S hv ok er
  obtain ⟨_, rfl, i⟩ := hv.one
  obtain ⟨a, o, vs, rfl, ha, ho, r⟩ := Dat.inv i
  exact call_tuple_same (items := vs.toArray) ⟨_, S.gh _ _ ha, ho.cls, ho.data⟩ (ok _ _ _ _ _ h .rfl S (.tup ha ho r))
theorem ac_tuple_m {a : Addr} {Ds : List Dsc} {xs : List PV} (hm : (a, .lst Ds) ∈ σ.mu) (hx : Ds = xs.map Dsc.d) (hl : xs.length ≤ sizeLine) (h : P σ (.d (.tup xs))) : AC G pf k σ (.type "tuple") [.m a] P F := by
  intro keep hid s g Q E vs hK S hv ok er
  subst hx
  obtain ⟨_, rfl, rfl⟩ := hv.one
  obtain ⟨_, _, _, o, ho, vs, hso, hall⟩ := S.mus _ hm
  have r := dat_all2 hall
  refine call_tuple_list (items := vs.toArray) ⟨_, ho, hso.cls, hso.data⟩ (fun h' hk => ?_) (by rw [List.size_toArray, r.length]; exact hl)
  have S₁ := S.same (s' := { s with heap := h' }) hK (.of hk)
  obtain ⟨S', le⟩ := S₁.grow (s' := { s with heap := h'.push { cls := .type "tuple", data := .seq vs.toArray } }) (o := { cls := .type "tuple", data := .seq vs.toArray }) (Nat.le_refl _) hK (.of fun b o e => Heap.get?_push_of_some _ e) (Heap.get?_push_size _ rfl)
  exact ok _ _ _ _ _ h le S' (.tup PH.ext_self ⟨rfl, rfl, rfl, 0, rfl⟩ (r.le le))
theorem ao_addl {xs ys : List PV} (hl : xs.length + ys.length ≤ sizeLine) (h : P σ (.d (.lst (xs ++ ys)))) : AO2 G pf k σ (binaryOp .Add) (.d (.lst xs)) (.d (.lst ys)) P F := by
  intro keep hid s g Q E v₁ v₂ hK S i₁ i₂ ok er
  obtain ⟨a, o, vs, rfl, ha, ho, r⟩ := Dat.inv i₁
  obtain ⟨b, o', ws, rfl, hb, ho', r'⟩ := Dat.inv i₂
  obtain ⟨m, Fr', N, back⟩ := S.led hK
  refine add_arrays (hsz := by rw [List.size_toArray, List.size_toArray, r.length, r'.length]; exact hl) Fr' N ⟨_, S.gh _ _ ha, ho.cls, ho.data⟩ ⟨_, S.gh _ _ hb, ho'.cls, ho'.data⟩ fun h' F' N' => ?_
  obtain ⟨S', le⟩ := S.grow (s' := { s with heap := h' }) (Nat.le_refl _) hK (back h' F' fun p hp => (N' p (.tail _ hp)).1) (N' _ (.head _)).1
  exact ok _ _ _ _ _ h le S' (.lst PH.ext_self ⟨rfl, rfl, rfl, 0, rfl⟩ (by simpa using (r.append r').le le))
noncomputable def RngO (n : Int) (o : Obj) : Prop := ∃ t u v, o = { cls := .type "range", data := .fields #[.int 0 t, .int n u, .int 1 v] }
theorem ac_range {n : Int} (h : ∀ o, RngO n o → P σ (.obj o)) : AC G pf k σ (.type "range") [.d (.int n)] P F := by
  intro keep hid s g Q E vs hK S hv ok er
  obtain ⟨_, rfl, i⟩ := hv.one
  obtain ⟨_, rfl⟩ := Dat.inv i
  obtain ⟨m, Fr', N, back⟩ := S.led hK
  refine range1_rows Fr' N fun h' tk t₁ u₁ v₁ hr F' N' hk => ?_
  obtain ⟨S', le⟩ := S.grow (s' := { s with heap := h', toks := tk }) (Nat.le_refl _) hK (.of hk) hr
  exact ok _ _ _ _ _ (h _ ⟨t₁, u₁, v₁, rfl⟩) le S' ⟨_, rfl, PH.ext_self⟩
noncomputable def rngs (n : Int) : List PV := (List.range n.toNat).map fun (i : Nat) => PV.int (i : Int)
theorem src_range (hk : k.Ok) {n : Int} {o : Obj} (ho : RngO n o) (h1 : n < 2 ^ 62) (h2 : -2 ^ 62 ≤ n) : ASrc G k σ (.obj o) (rngs n) := by
  intro keep hid s g Q E v hK S i ok
  obtain ⟨t, u, w, rfl⟩ := ho
  obtain ⟨a, rfl, ha⟩ := i
  refine wpAny_pyIter_range (a := 0) (b := n) (c := 1) (t := t) (u := u) (v := w) (S.gh _ _ ha) (small_one (by decide) (by decide) h2 h1) ?_
  have hlen : (rngs n).length = n.toNat := by simp [rngs]
  have hsz : Builtin.Range.rangeSize 0 n 1 = ((rngs n).length : Int) := by
    unfold Builtin.Range.rangeSize
    rw [hlen, if_pos (by decide)]
    by_cases hn : 0 < n
    · rw [if_pos hn]; simp; exact ar17 hn
    · rw [if_neg hn]; exact ar18 hn
  have W := Walks.range (prog := G.prog) (w := G.w) hk.hand s.heap.objs.size 0 1 (rngs n).length
  refine ok _ _ _ _ _ _ W ?_ (fun b o e => Heap.get?_push_of_some _ e) (by simp [Heap.push]) rfl rfl (fun b hb => by simp at hb; rw [hb]; exact Nat.le_refl _) (fun b hb => .inl hb) (fun j h hst b hb => by simp at hb; subst hb; exact ⟨_, hst⟩) fun j u hj hu => ?_
  · show (s.heap.push _).get? _ = _
    rw [hsz]
    simpa [rawInt] using Heap.get?_push_size s.heap (o := { cls := Value.type "range_iterator", data := Data.fields #[rawInt 0, rawInt (rngs n).length, rawInt 1] }) rfl
  · obtain ⟨t, rfl⟩ := hu
    refine ⟨.int (j : Int), ?_, by simpa using Dat.int _ _⟩
    rw [hlen] at hj
    simp [rngs, hj]
end seqs
noncomputable abbrev PlainSub (e : Expr) : Prop := (fun v i : Value => subscripted e false v i) = (fun v i => operate [v, i] (getItem v i))
theorem ao_item_list {e i : Expr} {xs : List PV} {j : Int} {d : PV} (h0 : 0 ≤ j) (hj : j < 2 ^ 63) (hx : xs[j.toNat]? = some d) (h : P σ (.d d)) (hs : PlainSub i := by rfl) : AO2 G pf k σ (subscriptTail e i) (.d (.lst xs)) (.d (.int j)) P F := by
  intro keep hid s g Q E v₁ v₂ hK S i₁ i₂ ok er
  obtain ⟨_, rfl⟩ := Dat.inv i₂
  obtain ⟨a, o, vs, rfl, ha, ho, r⟩ := Dat.inv i₁
  obtain ⟨v, hv, hd⟩ := r.get hx
  have hl : s.heap.IsList a vs.toArray := ⟨_, S.gh _ _ ha, ho.cls, ho.data⟩
  exact tail_any hl.typeIs slot_list_getitem.lookup (wpAny_getItem_list hl h0 hj (by simpa using hv) (ok _ _ _ _ g h .rfl S hd)) (congrFun (congrFun hs _) _)
theorem ao_item_tup {e i : Expr} {xs : List PV} {j : Int} {n : Nat} {d : PV} (h0 : -(2 ^ 63) ≤ j) (hj : j < 2 ^ 63) (hn : seqIndex? j xs.length = some n) (hx : xs[n]? = some d) (h : P σ (.d d)) (hs : PlainSub i := by rfl) : AO2 G pf k σ (subscriptTail e i) (.d (.tup xs)) (.d (.int j)) P F := by
  intro keep hid s g Q E v₁ v₂ hK S i₁ i₂ ok er
  obtain ⟨_, rfl⟩ := Dat.inv i₂
  obtain ⟨a, o, vs, rfl, ha, ho, r⟩ := Dat.inv i₁
  obtain ⟨v, hv, hd⟩ := r.get hx
  exact item_tupleT (l := vs) ⟨_, S.gh _ _ ha, ho.cls, ho.data⟩ h0 hj (by rw [r.length]; exact hn) hv (ok _ _ _ _ g h .rfl S hd) (congrFun (congrFun hs _) _)
theorem ao_item_str {e i : Expr} {x : Str} {j : Int} (hf : fitsSsize j = true) (h0 : -(x.length : Int) ≤ j) (h1 : j < x.length) (h : P σ (.d (.str (Txt.item x j)))) (hs : PlainSub i := by rfl) (ht : letTemporaryGo e = (fun _ _ => pure ()) := by rfl) :
    AO2 G pf k σ (subscriptTail e i) (.d (.str x)) (.d (.int j)) P F := by
  intro keep hid s g Q E v₁ v₂ hK S i₁ i₂ ok er
  obtain ⟨_, rfl⟩ := Dat.inv i₁; obtain ⟨_, rfl⟩ := Dat.inv i₂
  exact item_str hf h0 h1 (fun _ => ok _ _ _ _ g h .rfl S.tok (.str _ _)) (congrFun (congrFun hs _) _) (fun r => congrFun (congrFun ht _) r)
theorem ao_item_m {e i : Expr} {a : Addr} {Ds : List Dsc} {j : Int} {D : Dsc} (hm : (a, .lst Ds) ∈ σ.mu) (h0 : 0 ≤ j) (hj : j < 2 ^ 63) (hx : Ds[j.toNat]? = some D) (h : P σ D) (hs : PlainSub i := by rfl) : AO2 G pf k σ (subscriptTail e i) (.m a) (.d (.int j)) P F := by
  intro keep hid s g Q E v₁ v₂ hK S i₁ i₂ ok er
  cases i₁; obtain ⟨_, rfl⟩ := Dat.inv i₂
  obtain ⟨_, _, _, o, ho, vs, hso, hall⟩ := S.mus _ hm
  obtain ⟨v, hv, hd⟩ := hall.get hx
  have hl : s.heap.IsList a vs.toArray := ⟨_, ho, hso.cls, hso.data⟩
  exact tail_any hl.typeIs slot_list_getitem.lookup (wpAny_getItem_list hl h0 hj (by simpa using hv) (ok _ _ _ _ g h .rfl S hd)) (congrFun (congrFun hs _) _)
theorem ao_last_m {e i : Expr} {a : Addr} {Ds : List Dsc} {D : Dsc} (hm : (a, .lst (Ds ++ [D])) ∈ σ.mu) (hl : Ds.length + 1 ≤ sizeLine) (h : P σ D) (hs : PlainSub i := by rfl) : AO2 G pf k σ (subscriptTail e i) (.m a) (.d (.int (-1))) P F := by
  intro keep hid s g Q E v₁ v₂ hK S i₁ i₂ ok er
  cases i₁; obtain ⟨_, rfl⟩ := Dat.inv i₂
  obtain ⟨_, _, _, o, ho, vs, hso, hall⟩ := S.mus _ hm
  obtain ⟨v, hv, hd⟩ := hall.get (i := Ds.length) (b := D) (by simp)
  have hlen := hall.length
  simp only [List.length_append, List.length_cons, List.length_nil] at hlen
  have hl : s.heap.IsList a vs.toArray := ⟨_, ho, hso.cls, hso.data⟩
  refine tail_any hl.typeIs slot_list_getitem.lookup (wpAny_getItem_list_neg hl (by decide) (by rw [List.size_toArray]; exact ar19 hlen) (by decide) ?_ (ok _ _ _ _ g h .rfl S hd)) (congrFun (congrFun hs _) _)
  have : ((-1 : Int) + (vs.toArray.size : Int)).toNat = Ds.length := by rw [List.size_toArray]; exact ar20 hlen
  rw [this]; simpa using hv
theorem wp_setLast {A : Around} {E : Value → Shared → Prop} {s : Shared} {l : Addr} {vs : List Value} {t : Tok} {v : Value} {Q : Unit → Shared → Prop} (hl : s.heap.PlainList l vs.toArray) (hne : 0 < vs.length)
    (hQ : ∀ h', h'.PlainList l (vs.set (vs.length - 1) v).toArray → Heap.SameBut l s.heap h' → Q () { s with heap := h' }) : wpAny G.M A (setItem (.ref l) (.int (-1) t) v) Q E s := by
  obtain ⟨n, ho⟩ := id hl
  have hL := hl.isList
  unfold setItem
  try with_reducible refine wpAny_holding ?_
  first | refine wpAny_bind (wpAny_pure ?_) | skip
  refine wpAny_bind (wpAny_sequenceKey hL.typeIs (by decide) ?_)
  refine wpAny_bind (wpAny_callSpecial?_slot (name := Str.ofString "__setitem__") hL.typeIs slot_list_setitem
    (wpAny_call_entry slot_list_setitem hL.typeIs entry_list_setitem ?_ (args_list_setitem _ _ _)))
  show wpAny _ _ (Builtin.List.listSubscript? (.int (-1) t) >>= _) _ _ s
  refine wpAny_bind (wpAny_listSubscript_int (by decide) ?_)
  show wpAny _ _ ((Builtin.List.listItems (.ref l) >>= fun xs => pure ((seqIndex? (Int.negSucc 0) xs.size).bind fun i => xs[i]?.map (i, ·))) >>= _) _ _ s
  refine wpAny_bind (wpAny_bind ?_)
  show wpAny _ _ (seqItems? (.ref l) >>= _) _ _ s
  refine wpAny_bind (wpAny_seqItems ho rfl (wpAny_pure (wpAny_pure ?_)))
  have hidx : seqIndex? (Int.negSucc 0) vs.toArray.size = some (vs.length - 1) := by
    have := seqIndex_neg (k := -1) (n := vs.toArray.size) (by decide) (by rw [List.size_toArray]; exact ar21 hne)
    rw [show Int.negSucc 0 = -1 from rfl, this]
    congr 1
    rw [List.size_toArray]; exact ar22
  have hget : vs.toArray[vs.length - 1]? = some (vs[vs.length - 1]'(by exact Nat.sub_lt hne Nat.one_pos)) := by simp
  rw [hidx]
  simp only [Option.bind_some, hget, Option.map_some]
  show wpAny _ _ (setSeqItemAt l (vs.length - 1) v >>= _) _ _ s
  have hfin : (s.heap.update l (Obj.mapSeq (·.setIfInBounds (vs.length - 1) v))).PlainList l (vs.set (vs.length - 1) v).toArray := by
    refine ⟨n, ?_⟩
    rw [Heap.get?_update_self _ ho rfl]
    simp [Obj.mapSeq]
  refine wpAny_bind (wpAny_setSeqItemAt ho rfl ?_)
  first
    | exact wpAny_bind (wpAny_pure (wpAny_pure ⟨.none, rfl, wpAny_pure (hQ _ hfin (Heap.SameBut.update ..))⟩))
    | exact wpAny_pure ⟨.none, rfl, wpAny_pure (hQ _ hfin (Heap.SameBut.update ..))⟩
noncomputable def AI (G : Gl) (k : Kx) (σ : St) (D₁ D₂ D₃ : Dsc) (PX : St → Prop) : Prop :=
  ∀ keep hid s g (Q : Unit → Shared → Prop) (E : Value → Shared → Prop) v₁ v₂ v₃, Kp G k keep hid → Site G k keep hid σ s g → Is g v₁ D₁ → Is g v₂ D₂ → Is g v₃ D₃ → (∀ σ' s' g', PX σ' → Le g g' → Site G k keep hid σ' s' g' → Q () s') → wpAny G.M k.A (setItem v₁ v₂ v₃) Q E s
theorem ai_last {a : Addr} {Ds : List Dsc} {D D' : Dsc} {mu' : List (Addr × MO)} (hu : MuUp a (.lst (Ds ++ [D])) (.lst (Ds ++ [D'])) σ.mu mu') (h : PX ⟨σ.loc, mu'⟩) : AI G k σ (.m a) (.d (.int (-1))) D' PX := by
  intro keep hid s g Q E v₁ v₂ v₃ hK S i₁ i₂ i₃ ok
  cases i₁; obtain ⟨_, rfl⟩ := Dat.inv i₂
  obtain ⟨_, _, _, o, ho, vs, hso, hall⟩ := S.mus _ hu.mem
  have hlen := hall.length
  simp only [List.length_append, List.length_cons, List.length_nil] at hlen
  refine wp_setLast (hso.plain ho) (by exact ar24 hlen) fun h' hl' hs => ?_
  obtain ⟨o', ho', so'⟩ := SeqO.of_plain hl'
  refine ok _ _ g h .rfl (S.upd (s' := { s with heap := h' }) hu hs.extBut ho' ⟨_, so', ?_⟩)
  have := hall.set i₃ (vs.length - 1)
  have e : (Ds ++ [D]).set (vs.length - 1) D' = Ds ++ [D'] := by
    rw [show vs.length - 1 = Ds.length by exact ar25 hlen]; simp
  rw [e] at this
  simpa using this
theorem ax_setitem {o i e : Expr} {p pos : Pos} (h : AW G pf k σ (eval e k.env) (fun σ₁ D₃ => AW G pf k σ₁ (eval o k.env) (fun σ₂ D₁ => AW G pf k σ₂ (eval i k.env) (fun σ₃ D₂ => AI G k σ₃ D₁ D₂ D₃ PX) F) F) F)
    (hs : swapsWith e (some (Expr.Subscript o i p)) pos.line k.env = pure false := by rfl) : AX G pf k σ (exec (.Assign [.Subscript o i p] e pos) k.env) PX R F :=
  fun keep hid s g Q E hK S ok rt er => wpAny_Assign_Subscript (h keep hid s g _ E hK S (fun σ₁ D₃ v₃ s₁ g₁ h₁ l₁ S₁ i₃ => h₁ keep hid s₁ g₁ _ E hK S₁ (fun σ₂ D₁ v₁ s₂ g₂ h₂ l₂ S₂ i₁ => h₂ keep hid s₂ g₂ _ E hK S₂
    (fun σ₄ D₂ v₂ s₄ g₄ h₄ l₄ S₄ i₂ => h₄ keep hid s₄ g₄ _ E v₁ v₂ v₃ hK S₄ (i₁.le l₄) i₂ (i₃.le (l₂.trans l₄)) fun σ' s' g' p l S' => ok σ' s' g' p (l₁.trans (l₂.trans (l₄.trans l))) S')
    fun n e s' f x => er n e s' f (x.le (l₁.trans l₂))) fun n e s' f x => er n e s' f (x.le l₁)) er) hs
theorem ac_append {a : Addr} {Ds : List Dsc} {D : Dsc} {mu' : List (Addr × MO)} (hu : MuUp a (.lst Ds) (.lst (Ds ++ [D])) σ.mu mu') (hl : Ds.length ≤ sizeLine) (h : P ⟨σ.loc, mu'⟩ (.d .none)) : AC G pf k σ (.builtin "list.append") [.m a, D] P F := by
  intro keep hid s g Q E vs hK S hv ok er
  obtain ⟨_, _, rfl, rfl, j⟩ := hv.two
  obtain ⟨_, _, _, o, ho, ws, hso, hall⟩ := S.mus _ hu.mem
  refine wpAny_list_append_plain (hso.plain ho) (fun h' hl' hs => ?_) (by rw [List.size_toArray, hall.length]; exact hl)
  obtain ⟨o', ho', so'⟩ := SeqO.of_plain hl'
  refine ok _ _ _ _ g h .rfl (S.upd (s' := { s with heap := h' }) hu hs.extBut ho' ⟨_, so', ?_⟩) .none
  simpa using hall.append (.cons j .nil)
theorem ac_pop {a : Addr} {Ds : List Dsc} {D : Dsc} {mu' : List (Addr × MO)} (hu : MuUp a (.lst (Ds ++ [D])) (.lst Ds) σ.mu mu') (hl : Ds.length < sizeLine) (h : P ⟨σ.loc, mu'⟩ D) : AC G pf k σ (.builtin "list.pop") [.m a] P F := by
  intro keep hid s g Q E vs hK S hv ok er
  obtain ⟨_, rfl, rfl⟩ := hv.one
  obtain ⟨_, _, _, o, ho, ws, hso, hall⟩ := S.mus _ hu.mem
  obtain ⟨n, hpl⟩ := hso.plain ho
  have hlen := hall.length
  simp only [List.length_append, List.length_cons, List.length_nil] at hlen
  obtain ⟨y, hy, hd⟩ := hall.get (i := Ds.length) (b := D) (by simp)
  have hz : ws.toArray.size ≤ sizeLine := by rw [List.size_toArray]; exact ar26 hl hlen
  have hy' : ws.toArray[ws.toArray.size - 1]? = some y := by rw [List.size_toArray, show ws.length - 1 = Ds.length by exact ar25 hlen]; simpa using hy
  refine call_meets PySem.F.slot_list_pop ⟨_, hpl, rfl⟩ PySem.F.entry_list_pop (PySem.F.args_list_pop_1 _) (PySem.MeetsSeq.list_pop_last a _ n y hy' hz) ⟨hpl, ?_⟩
  have hup := Heap.get?_update_self (Obj.mapSeq fun xs => Array.eraseIdxIfInBounds xs (ws.toArray.size - 1)) hpl rfl
  refine ok _ _ _ _ g h .rfl (S.upd (s' := { s with heap := s.heap.update a (Obj.mapSeq fun xs => Array.eraseIdxIfInBounds xs (ws.toArray.size - 1)) }) hu (Heap.SameBut.update ..).extBut hup ⟨ws.take Ds.length, ⟨rfl, rfl, rfl, ?_⟩, ?_⟩) hd
  · have e : (ws.toArray.eraseIdxIfInBounds (ws.toArray.size - 1)) = (ws.take Ds.length).toArray := by
      apply Array.ext'
      rw [List.size_toArray, show ws.length - 1 = Ds.length by exact ar25 hlen]
      have hlt : Ds.length < ws.toArray.size := by rw [List.size_toArray]; exact ar27 hlen
      rw [Array.eraseIdxIfInBounds_eq, dif_pos hlt]
      simp only [List.eraseIdx_toArray]
      rw [List.eraseIdx_eq_take_drop_succ, List.drop_eq_nil_of_le (by exact ar28 hlen), List.append_nil]
    obtain ⟨n', e'⟩ := Obj.data_mapSeq (o := { cls := .type "list", data := .seq ws.toArray n }) rfl (fun xs => Array.eraseIdxIfInBounds xs (ws.toArray.size - 1))
    exact ⟨n', e'.trans (by rw [e])⟩
  · simpa using hall.take Ds.length
theorem ab_chain {l m r : Expr} {op₁ op₂ : CmpOp} {pos : Pos} {whole : Sem Value}
    (h : AW G pf k σ (eval l k.env) (fun σ₁ D₁ => AW G pf k σ₁ (eval m k.env) (fun σ₂ D₂ => AO2 G pf k σ₂ (compareOp op₁) D₁ D₂ (fun σ₃ D₃ => AT G k σ₃ D₃ fun b =>
      if b = true then AW G pf k σ₃ (eval r k.env) (fun σ₄ D₄ => AO2 G pf k σ₄ (compareOp op₂) D₂ D₄ (fun σ₅ D₅ => AT G k σ₅ D₅ (PB σ₅)) F) F else PB σ₃ false) F) F) F)
    (hb : lastMarks [op₁, op₂] [m, r] = false := by rfl) : AB G pf k σ (PySem.isTrue (.Compare l [op₁, op₂] [m, r] pos) k.env whole) PB F := by
  intro keep hid s g Q E hK S ok er
  refine isTrue_chain (h keep hid s g _ E hK S (fun σ₁ D₁ v₁ s₁ g₁ h₁ l₁ S₁ i₁ => ?_) er) hb
  show wpAny _ _ (do let rv ← holding [v₁] (eval m k.env); standAt pos; let c ← holding [v₁, rv] (compareOp op₁ v₁ rv); release [v₁, rv] [c]; if ← holding [c, rv] (truthy c) then testChain pos rv [op₂] [eval r k.env] else pure false) _ _ _
  refine wpAny_bind (wpAny_holding (h₁ keep hid s₁ g₁ _ E hK S₁ (fun σ₂ D₂ v₂ s₂ g₂ h₂ l₂ S₂ i₂ => ?_) fun n e s' f x => er n e s' f (x.le l₁)))
  refine wpAny_bind (wpAny_standAt (wpAny_bind (wpAny_holding (h₂ keep hid s₂ g₂ _ E v₁ v₂ hK S₂ (i₁.le l₂) i₂ (fun σ₃ D₃ v₃ s₃ g₃ h₃ l₃ S₃ i₃ => ?_) fun n e s' f x => er n e s' f (x.le (l₁.trans l₂))))))
  refine wpAny_bind (wpAny_release (wpAny_bind (wpAny_holding (h₃ keep hid s₃ g₃ _ E v₃ hK S₃ i₃ fun b s₄ g₄ h₄ l₄ S₄ => ?_))))
  cases b with
  | false =>
    rw [if_neg (by decide)] at h₄ ⊢
    exact wpAny_pure (ok _ false s₄ g₄ h₄ (l₁.trans (l₂.trans (l₃.trans l₄))) S₄)
  | true =>
    rw [if_pos rfl] at h₄ ⊢
    show wpAny _ _ (do let rv ← holding [v₂] (eval r k.env); standAt pos; let c ← operate [v₂, rv] (compareOp op₂ v₂ rv); holding [c] (truthy c)) _ _ _
    refine wpAny_bind (wpAny_holding (h₄ keep hid s₄ g₄ _ E hK S₄ (fun σ₅ D₅ v₅ s₅ g₅ h₅ l₅ S₅ i₅ => ?_) fun n e s' f x => er n e s' f (x.le (l₁.trans (l₂.trans (l₃.trans l₄))))))
    refine wpAny_bind (wpAny_standAt (wpAny_bind (wpAny_operate' (h₅ keep hid s₅ g₅ _ E v₂ v₅ hK S₅ (i₂.le (l₃.trans (l₄.trans l₅))) i₅ (fun σ₆ D₆ v₆ s₆ g₆ h₆ l₆ S₆ i₆ => ?_) fun n e s' f x => er n e s' f (x.le (l₁.trans (l₂.trans (l₃.trans (l₄.trans l₅)))))))))
    exact wpAny_holding (h₆ keep hid s₆ g₆ Q E v₆ hK S₆ i₆ fun b s₇ g₇ h₇ l₇ S₇ => ok _ b s₇ g₇ h₇ (l₁.trans (l₂.trans (l₃.trans (l₄.trans (l₅.trans (l₆.trans l₇)))))) S₇)
section slices
noncomputable def PartD (D : Dsc) (l : Option Int) : Prop := match l with | none => D = .d .none | some i => D = .d (.int i)
theorem PartD.value {g : PH} {v : Value} {D : Dsc} {l : Option Int} (h : PartD D l) (i : Is g v D) : ∃ lt : Option (Int × Tok), v = partValue lt ∧ lt.map (·.1) = l := by
  cases l with
  | none => cases h; obtain rfl := Dat.inv i; exact ⟨none, rfl, rfl⟩
  | some j => cases h; obtain ⟨_, rfl⟩ := Dat.inv i; exact ⟨some (j, _), rfl, rfl⟩
theorem PartD.part {g : PH} {v : Value} {D : Dsc} {l : Option Int} (h : PartD D l) (i : Is g v D) : IsPart v l := by
  cases l with
  | none => cases h; obtain rfl := Dat.inv i; exact .none
  | some j => cases h; obtain ⟨_, rfl⟩ := Dat.inv i; exact .int _ _
theorem aw_pnone (h : P σ (.d .none)) : AW G pf k σ (evalPart none k.env) P F :=
  fun _ _ _ g _ _ _ S ok _ => wpAny_evalPart_none (ok _ _ _ _ g h .rfl S .none)
theorem aw_psome {e : Expr} (h : AW G pf k σ (eval e k.env) P F) : AW G pf k σ (evalPart (some e) k.env) P F :=
  fun keep hid s g Q E hK S ok er => wpAny_evalPart_some (h keep hid s g Q E hK S ok er)
theorem aw_sslice {e : Expr} {lo up : Option Expr} {p pos : Pos}
    (h : AW G pf k σ (eval e k.env) (fun σ₁ D₁ => AW G pf k σ₁ (evalPart lo k.env) (fun σ₂ D₂ => AW G pf k σ₂ (evalPart up k.env) (fun σ₃ D₃ => (Ex3 fun x l u => And5 (D₁ = .d (.str x)) (PartD D₂ l) (PartD D₃ u) (x.length ≤ sizeLine) (P σ₃ (.d (.str (Txt.slice x l u)))))) F) F) F)
    (ht : letTemporaryGo e = (fun _ _ => pure ()) := by rfl) : AW G pf k σ (eval (.Subscript e (.Slice lo up none p) pos) k.env) P F := by
  intro keep hid s g Q E hK S ok er
  refine wpAny_Subscript_str_slice (h keep hid s g _ E hK S (fun σ₁ D₁ v₁ s₁ g₁ h₁ l₁ S₁ i₁ => h₁ keep hid s₁ g₁ _ E hK S₁ (fun σ₂ D₂ v₂ s₂ g₂ h₂ l₂ S₂ i₂ => h₂ keep hid s₂ g₂ _ E hK S₂ (fun σ₃ D₃ v₃ s₃ g₃ h₃ l₃ S₃ i₃ => ?_)
    fun n e s' f x => er n e s' f (x.le (l₁.trans l₂))) fun n e s' f x => er n e s' f (x.le l₁)) er) (fun o r => congrFun (congrFun ht o) r)
  obtain ⟨x, l, u, rfl, hl, hu, hx, hp⟩ := h₃
  obtain ⟨lt, e₂, q₂⟩ := hl.value i₂
  obtain ⟨ut, e₃, q₃⟩ := hu.value i₃
  obtain ⟨_, rfl⟩ := Dat.inv i₁
  refine ⟨x, _, lt, ut, rfl, e₂, e₃, ?_⟩
  subst q₂; subst q₃
  refine post_val_or_str ⟨Nat.le_trans (Txt.slice_le x _ _) hx, fun t' tk => ?_⟩
  have S' := (S₃.same (s' := { s₃ with heap := s₃.heap.push { cls := Value.type "slice", data := Data.fields #[v₂, v₃, Value.none] } }) hK (.of fun b o e => Heap.get?_push_of_some _ e)).tok (tk := tk)
  exact ok _ _ _ _ g₃ hp (l₁.trans (l₂.trans l₃)) S' (.str _ _)
theorem lslice_go {keep : PH} {hid : Addr → Prop} {s : Shared} {g : PH} (hK : Kp G k keep hid) (S : Site G k keep hid σ s g) {v₂ v₃ : Value} {ws : List Value} {ys : List PV} {arr : Array Value} (hw : arr = ws.toArray) (r : DatAll g ws ys) :
    ∃ g', Le g g' ∧ Site G k keep hid σ { s with heap := (s.heap.push { cls := Value.type "slice", data := Data.fields #[v₂, v₃, Value.none] }).push { cls := Value.type "list", data := Data.seq arr } } g' ∧ Dat g' (.ref (s.heap.objs.size + 1)) (.lst ys) := by
  subst hw
  have S' := S.same (s' := { s with heap := s.heap.push { cls := Value.type "slice", data := Data.fields #[v₂, v₃, Value.none] } }) hK (.of fun b o e => Heap.get?_push_of_some _ e)
  have hsz : (s.heap.push { cls := Value.type "slice", data := Data.fields #[v₂, v₃, Value.none] }).objs.size = s.heap.objs.size + 1 := by simp [Heap.push]
  have hnew := Heap.get?_push_size (s.heap.push { cls := Value.type "slice", data := Data.fields #[v₂, v₃, Value.none] }) (o := { cls := Value.type "list", data := Data.seq ws.toArray }) rfl
  rw [hsz] at hnew
  obtain ⟨S'', le⟩ := S'.grow (s' := { s with heap := (s.heap.push { cls := Value.type "slice", data := Data.fields #[v₂, v₃, Value.none] }).push { cls := Value.type "list", data := Data.seq ws.toArray } }) (a := s.heap.objs.size + 1) (by rw [hsz]; exact Nat.le_refl _) hK (.of fun b o e => Heap.get?_push_of_some _ e) hnew
  exact ⟨_, le, S'', .lst PH.ext_self ⟨rfl, rfl, rfl, 0, rfl⟩ (r.le le)⟩
noncomputable def pickL (xs : List PV) : Option Int → Option Int → Option (List PV)
  | none, some (.ofNat b) => some (xs.take b)
  | some (.ofNat a), none => some (xs.drop a)
  | _, _ => none
theorem pick_vals {g : PH} {vs : List Value} {xs ys : List PV} {l u : Option Int} (r : DatAll g vs xs) (h : pickL xs l u = some ys) : ∃ ws, slicePick vs.toArray l u none = ws.toArray ∧ DatAll g ws ys := by
  cases l with
  | none =>
    cases u with
    | none => cases h
    | some u =>
      cases u with
      | ofNat b => cases h; exact ⟨vs.take b, by simpa using slicePick_upto' vs.toArray b, r.take _⟩
      | negSucc b => cases h
  | some l =>
    cases u with
    | some u => cases l <;> cases h
    | none =>
      cases l with
      | ofNat a => cases h; exact ⟨vs.drop a, by simpa using slicePick_from' vs.toArray a, r.drop _⟩
      | negSucc b => cases h
theorem aw_lslice {e : Expr} {lo up : Option Expr} {p pos : Pos}
    (h : AW G pf k σ (eval e k.env) (fun σ₁ D₁ => AW G pf k σ₁ (evalPart lo k.env) (fun σ₂ D₂ => AW G pf k σ₂ (evalPart up k.env) (fun σ₃ D₃ => (Ex4 fun xs l u ys => And6 ((D₁ = .d (.lst xs) ∨ (Ex2 fun a Ds => And3 (D₁ = .m a) ((a, .lst Ds) ∈ σ₃.mu) (Ds = xs.map Dsc.d)))) (PartD D₂ l) (PartD D₃ u) (xs.length ≤ sizeLine) (pickL xs l u = some ys) (P σ₃ (.d (.lst ys))))) F) F) F)
    (ht : letTemporaryGo e = (fun _ _ => pure ()) := by rfl) : AW G pf k σ (eval (.Subscript e (.Slice lo up none p) pos) k.env) P F := by
  intro keep hid s g Q E hK S ok er
  refine wpAny_Subscript_list_slice (h keep hid s g _ E hK S (fun σ₁ D₁ v₁ s₁ g₁ h₁ l₁ S₁ i₁ => h₁ keep hid s₁ g₁ _ E hK S₁ (fun σ₂ D₂ v₂ s₂ g₂ h₂ l₂ S₂ i₂ => h₂ keep hid s₂ g₂ _ E hK S₂ (fun σ₃ D₃ v₃ s₃ g₃ h₃ l₃ S₃ i₃ => ?_)
    fun n e s' f x => er n e s' f (x.le (l₁.trans l₂))) fun n e s' f x => er n e s' f (x.le l₁)) er) (fun o r => congrFun (congrFun ht o) r)
  obtain ⟨xs, l, u, ys, hD, hl, hu, hx, hpk, hp⟩ := h₃
  have i₁' := i₁.le (l₂.trans l₃)
  have : (Ex3 fun a o vs => And4 (v₁ = .ref a) (s₃.heap.get? a = some o) (SeqO "list" o vs) (DatAll g₃ vs xs)) := by
    rcases hD with rfl | ⟨a, Ds, rfl, hm, rfl⟩
    · obtain ⟨a, o, vs, rfl, ha, ho, r⟩ := Dat.inv i₁'; exact ⟨a, o, vs, rfl, S₃.gh _ _ ha, ho, r⟩
    · obtain ⟨_, _, _, o, ho, vs, hso, hall⟩ := S₃.mus _ hm
      exact ⟨a, o, vs, i₁, ho, hso, dat_all2 hall⟩
  obtain ⟨a, o, vs, rfl, ha, ho, r⟩ := this
  obtain ⟨ws, hw, rw'⟩ := pick_vals r hpk
  obtain ⟨g', le, S', hd⟩ := lslice_go (v₂ := v₂) (v₃ := v₃) hK S₃ hw rw'
  exact ⟨a, vs.toArray, l, u, rfl, ⟨_, ha, ho.cls, ho.data⟩, by rw [List.size_toArray, r.length]; exact hx, hl.part (i₂.le l₃), hu.part i₃, ok _ _ _ _ g' hp (l₁.trans (l₂.trans (l₃.trans le))) S' hd⟩
end slices
section unpack
noncomputable def ABs (G : Gl) (k : Kx) (PX : St → Prop) : List Str → List Dsc → St → Prop
  | n :: ns, D :: Ds, σ => AN G k σ n D (ABs G k PX ns Ds)
  | [], [], σ => PX σ
  | _, _, _ => False
theorem binds_go {names : List Str} {keep : PH} {hid : Addr → Prop} {Q : Unit → Shared → Prop} {E : Value → Shared → Prop} (hK : Kp G k keep hid) : ∀ {Ds : List Dsc} {vs : List Value} {σ : St} {s : Shared} {g : PH}, Site G k keep hid σ s g → All2 (Is g) vs Ds → ABs G k PX names Ds σ →
    (∀ σ' s' g', PX σ' → Le g g' → Site G k keep hid σ' s' g' → Q () s') → wpAny G.M k.A (assignInOrder (names.map fun n => bindName k.env n) vs) Q E s := by
  induction names with
  | nil =>
    intro Ds vs σ s g S hv hb ok
    cases hv with
    | nil => exact wpAny_assignInOrder_none (ok σ s g hb .rfl S)
    | cons _ _ => cases hb
  | cons n ns ih =>
    intro Ds vs σ s g S hv hb ok
    cases hv with
    | nil => cases hb
    | cons i r =>
      refine wpAny_assignInOrder_more (wpAny_bindName (hb keep hid s g _ E _ hK S i fun σ' s' g' p l S' => ?_))
      exact ih S' (r.mono fun _ _ x => x.le l) p fun σ'' s'' g'' p' l' => ok σ'' s'' g'' p' (l.trans l')
theorem ax_unpack (hk : k.Ok) {elts es : List Expr} {u u' : Nat} {tpos vpos pos : Pos} (names : List Str)
    (h : AL G pf k σ (spliced (backTo vpos (starEach es k.env))) (fun σ' Ds => Ds.length = names.length ∧ names.length ≤ 8 ∧ ABs G k PX names.reverse Ds.reverse σ') F)
    (h1 : swapsWithSole [Expr.Tuple elts u tpos] (.Tuple es u' vpos) pos.line k.env = pure false := by rfl)
    (h2 : swappedStores [Expr.Tuple elts u tpos] (.Tuple es u' vpos) k.env = pure (some names) := by rfl) : AX G pf k σ (exec (.Assign [.Tuple elts u tpos] (.Tuple es u' vpos) pos) k.env) PX R F := by
  intro keep hid s g Q E hK S ok rt er
  refine Assign_Tuple_swapped (Tuple_ (h keep hid s g _ E hK S (fun σ' Ds vs s' g' p l S' i => ?_) er)) h1 h2
  obtain ⟨p1, p2, p3⟩ := p
  have hlen := i.length
  refine wpAny_newTuple ?_ (by rw [hlen, p1]; exact Nat.le_trans p2 (by decide))
  have S₁ := S'.same (s' := { s' with heap := s'.heap.push { cls := .type "tuple", data := .seq vs.toArray } }) hK (.of fun b o e => Heap.get?_push_of_some _ e)
  have hT : (s'.heap.push { cls := .type "tuple", data := .seq vs.toArray }).IsTuple s'.heap.objs.size vs.toArray := ⟨_, Heap.get?_push_size _ rfl, rfl, 0, rfl⟩
  have hsz : names.length = vs.toArray.size := by rw [List.size_toArray, hlen, p1]
  rw [hsz]
  refine wpAny_unpackItems_tuple hk.hand hT fun h' hx => ?_
  have S₂ := S₁.same (s' := { s' with heap := h' }) hK (.of fun b o e => hx b o (Nat.ne_of_lt (Heap.lt_size e)) e)
  refine binds_go hK S₂ (by simpa using i.rev) p3 fun σ'' s'' g'' p' l' => ok σ'' s'' g'' p' (l.trans l')
end unpack
section tests
theorem ac_isi_tuple {d : PV} (h : P σ (.d (.bool (match d with | .tup _ => true | _ => false)))) : AC G pf k σ (.builtin "isinstance") [.d d, .v (.type "tuple")] P F := by
  intro keep hid s g Q E vs hK S hv ok er
  obtain ⟨_, _, rfl, i, rfl⟩ := hv.two
  cases i with
  | none => exact IsiPair.NoneType_tuple (ok _ _ _ _ g h .rfl S.tok (.bool _))
  | bool b => exact IsiPair.bool_tuple (ok _ _ _ _ g h .rfl S.tok (.bool _))
  | int a t => exact IsiPair.int_tuple (ok _ _ _ _ g h .rfl S.tok (.bool _))
  | str x t => exact IsiPair.str_tuple (ok _ _ _ _ g h .rfl S.tok (.bool _))
  | @tup a o vs _ ha ho r => exact IsiPair.isTuple_tuple (h₀ := s.heap) (xs := vs.toArray) ⟨_, S.gh _ _ ha, ho.cls, ho.data⟩ (fun _ _ e => e) (ok _ _ _ _ g h .rfl S (.bool _))
  | @lst a o vs _ ha ho r => exact IsiPair.isList_tuple (h₀ := s.heap) (xs := vs.toArray) ⟨_, S.gh _ _ ha, ho.cls, ho.data⟩ (fun _ _ e => e) (ok _ _ _ _ g h .rfl S.tok (.bool _))
theorem ac_isi_int {d : PV} (h : P σ (.d (.bool (match d with | .int _ => true | .bool _ => true | _ => false)))) : AC G pf k σ (.builtin "isinstance") [.d d, .v (.type "int")] P F := by
  intro keep hid s g Q E vs hK S hv ok er
  obtain ⟨_, _, rfl, i, rfl⟩ := hv.two
  cases i with
  | none => exact IsiPair.NoneType_int (ok _ _ _ _ g h .rfl S.tok (.bool _))
  | bool b => exact IsiPair.bool_int (ok _ _ _ _ g h .rfl S (.bool _))
  | int a t => exact IsiPair.int_int (ok _ _ _ _ g h .rfl S (.bool _))
  | str x t => exact IsiPair.str_int (ok _ _ _ _ g h .rfl S.tok (.bool _))
  | @tup a o vs _ ha ho r => exact IsiPair.isTuple_int (h₀ := s.heap) (xs := vs.toArray) ⟨_, S.gh _ _ ha, ho.cls, ho.data⟩ (fun _ _ e => e) (ok _ _ _ _ g h .rfl S.tok (.bool _))
  | @lst a o vs _ ha ho r => exact IsiPair.isList_int (h₀ := s.heap) (xs := vs.toArray) ⟨_, S.gh _ _ ha, ho.cls, ho.data⟩ (fun _ _ e => e) (ok _ _ _ _ g h .rfl S.tok (.bool _))
theorem ao_is_none {d : PV} (h : P σ (.d (.bool (match d with | .none => true | _ => false)))) : AO2 G pf k σ (compareOp .Is) (.d d) (.d .none) P F := by
  intro keep hid s g Q E v₁ v₂ hK S i₁ i₂ ok er
  obtain rfl := Dat.inv i₂
  cases i₁ with
  | none => exact is_none_gen (ok _ _ _ _ g h .rfl S (.bool _))
  | bool b => exact is_none_gen (ok _ _ _ _ g h .rfl S (.bool _))
  | int a t => exact is_none_gen (ok _ _ _ _ g h .rfl S (.bool _))
  | str x t => exact is_none_gen (ok _ _ _ _ g h .rfl S (.bool _))
  | tup ha ho r => exact is_none_gen (ok _ _ _ _ g h .rfl S (.bool _))
  | lst ha ho r => exact is_none_gen (ok _ _ _ _ g h .rfl S (.bool _))
theorem ao_isnot_none {d : PV} (h : P σ (.d (.bool (match d with | .none => false | _ => true)))) : AO2 G pf k σ (compareOp .IsNot) (.d d) (.d .none) P F := by
  intro keep hid s g Q E v₁ v₂ hK S i₁ i₂ ok er
  obtain rfl := Dat.inv i₂
  cases i₁ with
  | none => exact isnot_none_gen (ok _ _ _ _ g h .rfl S (.bool _))
  | bool b => exact isnot_none_gen (ok _ _ _ _ g h .rfl S (.bool _))
  | int a t => exact isnot_none_gen (ok _ _ _ _ g h .rfl S (.bool _))
  | str x t => exact isnot_none_gen (ok _ _ _ _ g h .rfl S (.bool _))
  | tup ha ho r => exact isnot_none_gen (ok _ _ _ _ g h .rfl S (.bool _))
  | lst ha ho r => exact isnot_none_gen (ok _ _ _ _ g h .rfl S (.bool _))
end tests
theorem aw_freeze {t : Sem Value} (h : AW G pf k σ t (fun σ' D => (Ex3 fun a xs mu' => And3 (D = .m a) (σ'.mu.Perm ((a, .lst (xs.map Dsc.d)) :: mu')) (P ⟨σ'.loc, mu'⟩ (.d (.lst xs))))) F) : AW G pf k σ t P F := by
  intro keep hid s g Q E hK S ok er
  refine h keep hid s g Q E hK S (fun σ' D v s' g' p l S' i => ?_) er
  obtain ⟨a, xs, mu', rfl, hp, p⟩ := p
  obtain ⟨g'', l', S'', hd⟩ := S'.freeze (loc' := σ'.loc) hp hK fun x D e => .inl e
  cases i
  exact ok _ _ _ _ g'' p (l.trans l') S'' hd
theorem ax_freeze {t : Sem Flow} {a : Addr} {xs : List PV} {mu' : List (Addr × MO)} {loc' : List (Str × Dsc)} (hp : σ.mu.Perm ((a, .lst (xs.map Dsc.d)) :: mu'))
    (hl : ∀ x D, loc'.lookup x = some D → σ.loc.lookup x = some D ∨ (σ.loc.lookup x = some (.m a) ∧ D = .d (.lst xs))) (h : AX G pf k ⟨loc', mu'⟩ t PX R F) : AX G pf k σ t PX R F := by
  intro keep hid s g Q E hK S ok rt er
  obtain ⟨g'', l', S'', hd⟩ := S.freeze hp hK hl
  exact h keep hid s g'' Q E hK S'' (fun σ' s' g' p l => ok σ' s' g' p (l'.trans l)) (fun σ' D v s' g' p l => rt σ' D v s' g' p (l'.trans l)) fun n e s' f x => er n e s' f (x.le l')
theorem ax_forget {t : Sem Flow} {σ' : St} (hl : ∀ x D, σ'.loc.lookup x = some D → σ.loc.lookup x = some D) (hm : σ'.mu.Sublist σ.mu) (h : AX G pf k σ' t PX R F) : AX G pf k σ t PX R F :=
  fun keep hid s g Q E hK S ok rt er => h keep hid s g Q E hK (S.forget hl hm) ok rt er
theorem Site.perm {keep hid s g} (S : Site G k keep hid σ s g) {mu' : List (Addr × MO)} (hp : σ.mu.Perm mu') : Site G k keep hid ⟨σ.loc, mu'⟩ s g :=
  ⟨S.base, S.gh, S.kept, S.ghid, S.gL, S.locs, fun p h => S.mus p (hp.symm.subset h), (hp.map _).nodup_iff.mp S.nodup, S.gens, S.os⟩
section map
noncomputable def mapAt (kvs : List (Str × Dsc)) (x : Str) : Option Dsc := (kvs.find? fun kv => decide (kv.1 = x)).map (·.2)
theorem valueAt_all2 {g : PH} {x : Str} {D : Dsc} {kv : List (Str × Value)} {kvs : List (Str × Dsc)} (w : All2 (fun a b => a.1 = b.1 ∧ Is g a.2 b.2) kv kvs) : mapAt kvs x = some D → ∃ v, valueAt kv x = some v ∧ Is g v D := by
  induction w with
  | nil => intro h; cases h
  | @cons a b as bs h r ih =>
    obtain ⟨h1, h2⟩ := h
    intro h
    unfold mapAt at h
    unfold valueAt
    rw [List.find?_cons] at h ⊢
    rw [h1]
    by_cases q : b.1 = x
    · simp only [q, decide_true] at h ⊢
      simp only [Option.map_some, Option.some.injEq] at h ⊢
      subst h; exact ⟨_, rfl, h2⟩
    · simp only [decide_eq_false q] at h ⊢
      exact ih h
theorem ao_item_map {e i : Expr} {a : Addr} {kvs : List (Str × Dsc)} {x : Str} {D : Dsc} (hm : (a, .map kvs) ∈ σ.mu) (hx : mapAt kvs x = some D) (h : P σ D) (hs : PlainSub i := by rfl) : AO2 G pf k σ (subscriptTail e i) (.m a) (.d (.str x)) P F := by
  intro keep hid s g Q E v₁ v₂ hK S i₁ i₂ ok er
  cases i₁; obtain ⟨_, rfl⟩ := Dat.inv i₂
  obtain ⟨_, _, _, o, ho, kv, hkv, hall⟩ := S.mus _ hm
  obtain ⟨v, hv, hd⟩ := valueAt_all2 hall hx
  have hdo : s.heap.DictOf (PySem.strKind G.prog G.w) a kv := Heap.dictOf_iff.mpr ⟨o, ho, hkv⟩
  exact tail_any hdo.typeIs slot_dict_getitem.lookup (wpAny_getItem_of (strKind_is G.prog G.w _ _) hdo.mapOf hv (ok _ _ _ _ g h .rfl S.tok hd)) (congrFun (congrFun hs _) _)
noncomputable def mapSet (kvs : List (Str × Dsc)) (x : Str) (D : Dsc) : List (Str × Dsc) := kvs.map fun kv => if kv.1 = x then (kv.1, D) else kv
theorem stored_all2 {g : PH} {x : Str} {D : Dsc} {v : Value} (i : Is g v D) {kv : List (Str × Value)} {kvs : List (Str × Dsc)} (h : All2 (fun a b => a.1 = b.1 ∧ Is g a.2 b.2) kv kvs) (hx : kvs.any (fun kv => decide (kv.1 = x)) = true) :
    All2 (fun a b => a.1 = b.1 ∧ Is g a.2 b.2) (stored kv x v) (mapSet kvs x D) := by
  have h1 : kv.any (fun kv => decide (kv.1 = x)) = kvs.any fun kv => decide (kv.1 = x) := by
    clear hx
    induction h with
    | nil => rfl
    | cons h _ ih => simp [h.1, ih]
  unfold stored
  rw [h1, hx, if_pos rfl]
  unfold mapSet
  clear hx h1
  induction h with
  | nil => exact .nil
  | @cons a b as bs h _ ih =>
    refine .cons ?_ ih
    obtain ⟨p, q⟩ := h
    dsimp only
    rw [p]
    by_cases z : b.1 = x
    · rw [if_pos z, if_pos z]; exact ⟨rfl, i⟩
    · rw [if_neg z, if_neg z]; exact ⟨p, q⟩
theorem ai_map {a : Addr} {kvs : List (Str × Dsc)} {x : Str} {D : Dsc} {mu' : List (Addr × MO)} (hu : MuUp a (.map kvs) (.map (mapSet kvs x D)) σ.mu mu') (hx : kvs.any (fun kv => decide (kv.1 = x)) = true) (hl : kvs.length ≤ sizeLine) (h : PX ⟨σ.loc, mu'⟩) :
    AI G k σ (.m a) (.d (.str x)) D PX := by
  intro keep hid s g Q E v₁ v₂ v₃ hK S i₁ i₂ i₃ ok
  cases i₁; obtain ⟨_, rfl⟩ := Dat.inv i₂
  obtain ⟨_, _, _, o, ho, kv, hkv, hall⟩ := S.mus _ hu.mem
  refine wpAny_setItem_pairs (strKind_is G.prog G.w _ _) (Heap.dictOf_iff.mpr ⟨o, ho, hkv⟩) (fun h' hd hs => ?_) (by rw [hall.length]; exact hl)
  obtain ⟨o', ho', hd'⟩ := Heap.dictOf_iff.mp hd
  exact ok _ _ g h .rfl (S.upd (s' := { s with heap := h', toks := s.toks + 1 }) hu hs.extBut ho' ⟨_, hd', stored_all2 i₃ hall hx⟩)
theorem aw_dict2 {k₁ k₂ : Str} {u₁ u₂ : Nat} {p₁ p₂ pos : Pos} {e₁ e₂ : Expr} (hne : k₁ ≠ k₂)
    (h : ∀ d, AW G pf k ⟨σ.loc, (d, .map []) :: σ.mu⟩ (eval e₁ k.env) (fun σ₁ D₁ => AW G pf k σ₁ (eval e₂ k.env) (fun σ₂ D₂ => ∃ mu', MuUp d (.map []) (.map [(k₁, D₁), (k₂, D₂)]) σ₂.mu mu' ∧ P ⟨σ₂.loc, mu'⟩ (.m d)) F) F) :
    AW G pf k σ (eval (.Dict [some (.Constant (.str k₁) u₁ p₁), some (.Constant (.str k₂) u₂ p₂)] [e₁, e₂] pos) k.env) P F := by
  intro keep hid s g Q E hK S ok er
  refine wpAny_Dict_pairs (knd := PySem.strKind G.prog G.w) (pairs := [(eval (.Constant (.str k₁) u₁ p₁) k.env, do let x ← eval e₁ k.env; standAt pos; pure x), (eval (.Constant (.str k₂) u₂ p₂) k.env, do let x ← eval e₂ k.env; standAt pos; pure x)]) rfl (by simp) (by simp) ?_
  have S₀ := S.own (mo := .map []) (s' := { s with heap := s.heap.push { cls := .type "dict", data := .dict #[] } }) (o := { cls := .type "dict", data := .dict #[] }) (Nat.le_refl _) hK (.of fun b o e => Heap.get?_push_of_some _ e) (Heap.get?_push_size _ rfl) ⟨[], ⟨#[], 0, ⟨rfl, rfl, rfl⟩, rfl, (by intro e he; simp at he), .nil, by simp⟩, .nil⟩
  unfold evalPairs
  refine wpAny_bind (wpAny_Constant_str (wpAny_bind (wpAny_holding (wpAny_bind ?_))))
  refine h s.heap.objs.size keep hid _ g _ E hK (S₀.tok) (fun σ₁ D₁ v₁ s₁ g₁ h₁ l₁ S₁ i₁ => ?_) er
  refine wpAny_bind (wpAny_standAt (wpAny_pure (wpAny_bind (wpAny_holding ?_))))
  unfold evalPairs
  refine wpAny_bind (wpAny_Constant_str (wpAny_bind (wpAny_holding (wpAny_bind ?_))))
  refine h₁ keep hid _ g₁ _ E hK S₁.tok (fun σ₂ D₂ v₂ s₂ g₂ h₂ l₂ S₂ i₂ => ?_) (fun n e s' f x => er n e s' f (x.le l₁))
  refine wpAny_bind (wpAny_standAt (wpAny_pure (wpAny_bind (wpAny_holding ?_))))
  unfold evalPairs
  refine wpAny_pure (wpAny_pure (wpAny_pure ?_))
  obtain ⟨mu', hu, hp⟩ := h₂
  obtain ⟨_, _, _, o, ho, kv, hkv, hall⟩ := S₂.mus _ hu.mem
  cases hall
  refine ⟨[(k₁, v₁), (k₂, v₂)], ⟨strKind_is G.prog G.w _ _, rfl, strKind_is G.prog G.w _ _, rfl, trivial⟩, Heap.dictOf_iff.mpr ⟨o, ho, hkv⟩, fun h' hd hs => ?_⟩
  obtain ⟨o', ho', hd'⟩ := Heap.dictOf_iff.mp hd
  have e : merged ([] : List (Str × Value)) [(k₁, v₁), (k₂, v₂)] = [(k₁, v₁), (k₂, v₂)] := by simp [merged, stored, hne]
  rw [e] at hd'
  exact ok _ _ _ _ g₂ hp (l₁.trans l₂) (S₂.upd (s' := { s₂ with heap := h', toks := s₂.toks + 2 }) hu hs.extBut ho' ⟨_, hd', .cons ⟨rfl, i₁.le l₂⟩ (.cons ⟨rfl, i₂⟩ .nil)⟩) rfl
end map
theorem aw_globD (hG : G.Ok) (hk : k.Ok) {x : Str} {pos : Pos} {v : Value} {d : PV} (hx : k.env.kindOf x = some .globalImplicit) (e : nsIn G.K mainGlobals x = some (some v)) (hv : Dat (fun b => G.base.get? b) v d) (h : P σ (.d d)) (hd : (x == ("__debug__" : Str)) = false := by decide) : AW G pf k σ (eval (.Name x pos) k.env) P F :=
  fun _ _ _ g _ _ _ S ok _ => Name_function_global hk.kind hx (loadGlobal_global (by rw [hk.glob]; exact hG.T.g.keeps S.stays) (mg_of hG.X hG.T.g e) (ok _ _ _ _ g h .rfl S (Dat.le (fun b o => S.base b o) hv))) hd
section fstr
noncomputable def AJ (G : Gl) (pf : Addr) (k : Kx) (P : St → Dsc → Prop) (F : Int → Prop) : List Expr → Str → St → Prop
  | [], acc, σ => P σ (.d (.str acc))
  | e :: r, acc, σ => AW G pf k σ (eval e k.env) (fun σ' D => ∃ y, D = .d (.str y) ∧ (acc ++ y).length ≤ sizeLine ∧ AJ G pf k P F r (acc ++ y) σ') F
theorem aj_go {keep hid} {Q E : Value → Shared → Prop} (hK : Kp G k keep hid) : ∀ {es : List Expr} {acc : Str} {σ : St} {s : Shared} {g : PH}, acc.length ≤ sizeLine → AJ G pf k P F es acc σ → Site G k keep hid σ s g →
    (∀ σ' D v s' g', P σ' D → Le g g' → Site G k keep hid σ' s' g' → Is g' v D → Q v s') → (∀ n e s', F n → FSite G pf k keep g n e s' → E e s') →
    Joins G.M k.A E (evalEach es k.env) acc (fun out s₁ => out.length ≤ sizeLine ∧ Q (.str out s₁.toks) { s₁ with toks := s₁.toks + 1 }) s
  | [], acc, σ, s, g, ha, h, S, ok, er => ⟨ha, ok σ _ _ _ g h .rfl S.tok (.str _ _)⟩
  | e :: r, acc, σ, s, g, ha, h, S, ok, er => by
    refine h keep hid s g _ E hK S (fun σ' D v s' g' p l S' i => ?_) er
    obtain ⟨y, rfl, hy, p⟩ := p
    obtain ⟨_, rfl⟩ := Dat.inv i
    exact ⟨y, _, rfl, hy, aj_go hK hy p S' (fun σ'' D v s'' g'' p' l' => ok σ'' D v s'' g'' p' (l.trans l')) fun n e s'' f x => er n e s'' f (x.le l)⟩
theorem aw_joined {v₁ v₂ : Expr} {rest : List Expr} {pos : Pos} (h : AJ G pf k P F (v₁ :: v₂ :: rest) Str.empty σ) : AW G pf k σ (eval (.JoinedStr (v₁ :: v₂ :: rest) pos) k.env) P F :=
  fun keep hid s g Q E hK S ok er => wpAny_JoinedStr (aj_go hK (by decide) h S ok er)
theorem aw_fmt {value : Expr} {pos : Pos} (h : AW G pf k σ (eval value k.env) (fun σ' D => (∃ i, D = .d (.int i) ∧ Nat.log2 (Int.natAbs i) < 1920 ∧ P σ' (.d (.str (Str.ofString (toString i))))) ∨ ∃ x, D = .d (.str x) ∧ x.length ≤ sizeLine ∧ P σ' (.d (.str x))) F) :
    AW G pf k σ (eval (.FormattedValue value (-1) none pos) k.env) P F := by
  intro keep hid s g Q E hK S ok er
  refine wpAny_FormattedValue_plain (h keep hid s g _ E hK S (fun σ' D v s' g' p l S' i => ?_) er)
  rcases p with ⟨j, rfl, hj, p⟩ | ⟨x, rfl, hx, p⟩
  · obtain ⟨_, rfl⟩ := Dat.inv i; exact wpAny_formatField_int hj (ok _ _ _ _ g' p l S'.tok (.str _ _))
  · obtain ⟨_, rfl⟩ := Dat.inv i; exact wpAny_formatField_str (ok _ _ _ _ g' p l S' (.str _ _)) (ok _ _ _ _ g' p l S'.tok (.str _ _)) hx
end fstr
section inst
theorem getL_of {g : PH} {x : Str} {es : List DictEntry} {kvs : List (Str × Dsc)} (q : All2 (EntIs G g) es kvs) : (∀ D, mapAt kvs x = some D → ∃ v, getL x es = some (some v) ∧ Is g v D) ∧ (mapAt kvs x = none → getL x es = some none) := by
  induction q with
  | nil => exact ⟨fun D h => (by cases h), fun _ => rfl⟩
  | @cons a b es kvs h r ih =>
    obtain ⟨⟨t, h1⟩, h2, h3⟩ := h
    have hk : a.key.isStr x = decide (b.1 = x) := by rw [h1, Bool.eq_iff_iff]; simp [Value.isStr]
    have hr : ∀ {es kvs}, All2 (EntIs G g) es kvs → (es.any (·.refKey)) = false := by
      intro es kvs h
      induction h with
      | nil => rfl
      | @cons a b as bs h _ ih =>
        obtain ⟨⟨t, h⟩, _⟩ := h
        rw [List.any_cons, ih, Bool.or_false]
        exact isStr_notRef (name' := b.1) a (by rw [h]; simp [Value.isStr])
    unfold mapAt getL at *
    rw [List.find?_cons, List.find?_cons, hk]
    by_cases q : b.1 = x
    · simp only [q, decide_true]
      exact ⟨fun D e => by simp at e; subst e; exact ⟨_, rfl, h3⟩, fun e => by simp at e⟩
    · simp only [decide_eq_false q]
      have hr1 := hr r
      have hr2 := hr (.cons (a := a) (b := b) ⟨⟨t, h1⟩, h2, h3⟩ r)
      rw [hr1] at ih; rw [hr2]
      exact ih
noncomputable def mapPut (x : Str) (D : Dsc) : List (Str × Dsc) → List (Str × Dsc)
  | [] => [(x, D)]
  | kv :: r => if kv.1 = x then (kv.1, D) :: r else kv :: mapPut x D r
theorem putL_of {g : PH} {x : Str} {v : Value} {D : Dsc} {t : Tok} (i : Is g v D) {es : List DictEntry} {kvs : List (Str × Dsc)} (q : All2 (EntIs G g) es kvs) : All2 (EntIs G g) (putL x (PyData.keyHash G.w.params x) (.str x t) v es) (mapPut x D kvs) := by
  induction q with
  | nil => exact .cons ⟨⟨t, rfl⟩, rfl, i⟩ .nil
  | @cons a b es kvs h r ih =>
    obtain ⟨⟨t', h1⟩, h2, h3⟩ := h
    have hk : a.key.isStr x = decide (b.1 = x) := by rw [h1, Bool.eq_iff_iff]; simp [Value.isStr]
    unfold putL mapPut
    rw [hk]
    by_cases q : b.1 = x
    · simp only [q, decide_true, if_true]
      exact .cons ⟨⟨t', by rw [h1, q]⟩, by rw [h2, q], i⟩ r
    · simp only [decide_eq_false q, Bool.false_eq_true, if_false, if_neg q]
      exact .cons ⟨⟨t', h1⟩, h2, h3⟩ ih
theorem mapPut_len (x : Str) (D : Dsc) : ∀ kvs, (mapPut x D kvs).length ≤ kvs.length + 1
  | [] => Nat.le_refl _
  | kv :: r => by
    unfold mapPut
    split
    · simp
    · have := mapPut_len x D r; simp; exact this
noncomputable def handD : Dsc → Prop
  | .v x => handedIn x = true
  | _ => True
theorem handed_of {g : PH} {v : Value} {D : Dsc} (i : Is g v D) (h : handD D) : handedIn v = true := by
  cases D with
  | d x => cases i <;> rfl
  | m a => cases i; rfl
  | v x => cases i; exact h
  | obj o => obtain ⟨a, rfl, _⟩ := i; rfl
structure GetF (K : Frag) (C : Addr) (name : Str) : Prop where
  get : plainGet K C name = true
  dict : hasDictIn K C = true
  own : ∃ attr, findIn K (.ref C) name = some attr ∧ noGet K attr = true
structure SetF (K : Frag) (C : Addr) (name : Str) : Prop where
  set : findIn K (.ref C) "__setattr__" = some (some (.builtin "object.__setattr__"))
  over : plainOver K C = true
  taker : takerIn K C name = some none
  dict : hasDictIn K C = true
structure MethF (K : Frag) (C : Addr) (name : Str) (f : Addr) : Prop where
  get : plainGet K C name = true
  found : findIn K (.ref C) name = some (some (.ref f))
  fn : isFn K (.ref f) = true
  keep : keepIn K (.ref f) = true
theorem inst_at {keep hid s g} (S : Site G k keep hid σ s g) {v : Value} {C dx : Addr} {kvs : List (Str × Dsc)} (i : Is g v (.obj (instObj C dx))) (hm : (dx, .dct kvs) ∈ σ.mu) :
    (Ex3 fun x es n => And3 (v = .ref x) (W.InstAt s.heap x (instObj C dx) C (some (dictOf es n))) (All2 (EntIs G g) es kvs)) := by
  obtain ⟨x, rfl, hx⟩ := i
  obtain ⟨_, _, _, o, ho, es, n, rfl, h⟩ := S.mus _ hm
  exact ⟨x, es, n, rfl, ⟨S.gh _ _ hx, rfl, rfl, ho⟩, h⟩
theorem ao_attr (hG : G.Ok) {C dx : Addr} {kvs : List (Str × Dsc)} {name : Str} {b : Bool} {D : Dsc} (gf : GetF G.K C name) (hm : (dx, .dct kvs) ∈ σ.mu) (hx : mapAt kvs name = some D) (hD : handD D) (h : P σ D) : AO1 G pf k σ (fun v => getAttr v name b) (.obj (instObj C dx)) P F := by
  intro keep hid s g Q E v hK S i ok er
  obtain ⟨x, es, n, rfl, I, hall⟩ := inst_at S i hm
  obtain ⟨u, hu, hi⟩ := (getL_of hall).1 D hx
  obtain ⟨m, Fr', N, back⟩ := S.led hK
  obtain ⟨attr, h1, h2⟩ := gf.own
  exact get_own Fr' hG.X I gf.get gf.dict h1 h2 hu (handed_of hi hD) (ok _ _ _ _ g h .rfl S.tok hi)
theorem Upd.of_mem {d : Addr} {o o' : Obj} : ∀ {l : List (Addr × Obj)}, (d, o) ∈ l → (l.map (·.1)).Nodup → ∃ l', Upd d o o' l l' ∧ (d, o') ∈ l' ∧ ∀ p ∈ l, p.1 ≠ d → p ∈ l'
  | [], h, _ => nomatch h
  | p :: r, h, nd => by
    simp only [List.map_cons, List.nodup_cons] at nd
    by_cases q : p = (d, o)
    · subst q
      exact ⟨_, .head fun p hp e => nd.1 (by dsimp only; rw [← e]; exact List.mem_map_of_mem hp), .head _, fun p hp hn => by rcases List.mem_cons.mp hp with rfl | hp; exact absurd rfl hn; exact .tail _ hp⟩
    · have h : (d, o) ∈ r := by
        rcases List.mem_cons.mp h with e | h
        · exact absurd e.symm q
        · exact h
      obtain ⟨l', h1, h2, h3⟩ := Upd.of_mem h nd.2
      refine ⟨p :: l', .tail (fun e => nd.1 (e ▸ List.mem_map_of_mem h)) h1, .tail _ h2, fun p' hp hn => ?_⟩
      rcases List.mem_cons.mp hp with rfl | hp
      · exact .head _
      · exact .tail _ (h3 p' hp hn)
theorem allObjs_nodup (h : Heap) (L : Addr) (f : Addr × Obj → Bool) : (((allObjs h L).filter f).map (·.1)).Nodup := by
  have : ∀ l : List Addr, ((l.filterMap fun a => if a = L then none else (h.get? a).map fun o => (a, o)).map (·.1)).Sublist l := by
    intro l
    induction l with
    | nil => exact .slnil
    | cons a r ih =>
      rw [List.filterMap_cons]
      by_cases q : a = L
      · rw [if_pos q]; exact ih.cons _
      · rw [if_neg q]
        cases z : h.get? a with
        | none => exact ih.cons _
        | some o => exact ih.cons_cons _
  exact List.Nodup.sublist ((List.filter_sublist.map _).trans (this _)) List.nodup_range
theorem Site.updG {keep hid s g} {s' : Shared} (S : Site G k keep hid σ s g) (hK : Kp G k keep hid) {a : Addr} {mo mo' : MO} {mu' : List (Addr × MO)} {o' : Obj} (hu : MuUp a mo mo' σ.mu mu') (hs : ∀ b o, b ≠ k.env.locals → b ≠ a → s.heap.get? b = some o → s'.heap.get? b = some o)
    (hn : ∀ m, s.heap.Ns k.env.locals m → s'.heap.Ns k.env.locals m) (ho' : s'.heap.get? a = some o') (hm : MOk G g o' mo') (hg : s'.gens = s.gens := by rfl) (ho : s'.os = s.os := by rfl) : Site G k keep hid ⟨σ.loc, mu'⟩ s' g := by
  obtain ⟨ga, ka, la, o, hoa, _⟩ := S.mus _ hu.mem
  refine ⟨S.base, fun b o e => hs b o (fun q => by rw [q, S.gL] at e; exact no_ns e) (fun q => by rw [q, ga] at e; exact no_ns e) (S.gh b o e), S.kept.mono fun b o hb e => hs b o (fun q => by obtain ⟨o1, h⟩ := hb; rw [q, hK.L] at h; exact no_ns h) (fun q => by obtain ⟨o1, h⟩ := hb; rw [q, ka] at h; exact no_ns h) e,
    S.ghid, S.gL, ?_, fun p hp => ?_, by rw [hu.addrs]; exact S.nodup, hg.trans S.gens, ho.trans S.os⟩
  · obtain ⟨m, hm, hl⟩ := S.locs
    exact ⟨m, hn m hm, hl⟩
  · rcases hu.mem' S.nodup hp with rfl | ⟨h, n⟩
    · exact ⟨ga, ka, la, o', ho', hm⟩
    · obtain ⟨a1, a2, a3, o1, a4, a5⟩ := S.mus p h
      exact ⟨a1, a2, a3, o1, hs _ _ a3 n a4, a5⟩
theorem ax_setattr (hG : G.Ok) {o e : Expr} {name : Str} {p pos : Pos}
    (h : AW G pf k σ (eval e k.env) (fun σ₁ D => AW G pf k σ₁ (eval o k.env) (fun σ₂ D₁ => (Ex4 fun C dx kvs mu' => And5 (D₁ = .obj (instObj C dx)) (SetF G.K C name) (MuUp dx (.dct kvs) (.dct (mapPut name D kvs)) σ₂.mu mu') (kvs.length < 1000) (PX ⟨σ₂.loc, mu'⟩))) F) F)
    (hs : swapsWith e (some (Expr.Attribute o name p)) pos.line k.env = pure false := by rfl) : AX G pf k σ (exec (.Assign [.Attribute o name p] e pos) k.env) PX R F := by
  intro keep hid s g Q E hK S ok rt er
  refine plainObj_wpAny_Assign_Attribute (h keep hid s g _ E hK S (fun σ₁ D v s₁ g₁ h₁ l₁ S₁ i₁ => h₁ keep hid s₁ g₁ _ E hK S₁ (fun σ₂ D₂ v₂ s₂ g₂ h₂ l₂ S₂ i₂ => ?_) fun n e s' f x => er n e s' f (x.le l₁)) er) hs
  obtain ⟨C, dx, kvs, mu', rfl, sf, hu, hlen, hp⟩ := h₂
  obtain ⟨x, es, n, rfl, I, hall⟩ := inst_at S₂ i₂ hu.mem
  obtain ⟨m, Fr', N, back⟩ := S₂.led hK
  obtain ⟨gdx, kdx, Ldx, od, hod, es', n', hes, _⟩ := S₂.mus _ hu.mem
  have hdx : s₂.heap.get? dx = some (dictOf es n) := I.dict
  have hmem : (dx, dictOf es n) ∈ (allObjs s₂.heap k.env.locals).filter fun p => (G.base.get? p.1).isNone := List.mem_filter.mpr ⟨mem_allObjs.mpr ⟨Ldx, hdx⟩, by
    cases q : G.base.get? dx with
    | none => rfl
    | some o => have := S₂.base _ _ q; rw [gdx] at this; exact no_ns this⟩
  obtain ⟨news', U, hd', hoth⟩ := Upd.of_mem (o' := dictOf (putL name (PyData.keyHash G.w.params name) (.str name (s₂.toks + 1)) v es) (putN name es n)) hmem (allObjs_nodup _ _ _)
  have hgl : (getL name es).isSome = true := by
    cases q : mapAt kvs name with
    | none => rw [(getL_of hall).2 q]; rfl
    | some D => obtain ⟨v, e, _⟩ := (getL_of hall).1 D q; rw [e]; rfl
  have hput := putL_of (x := name) (t := s₂.toks + 1) (i₁.le (by assumption)) hall
  refine set_dict Fr' hG.X N I rfl sf.set sf.over sf.taker sf.dict hgl rfl U (by rw [hput.length]; have := mapPut_len name D kvs; exact Nat.le_trans this hlen) fun h' F' N' => ?_
  refine ok _ _ g₂ hp (l₁.trans (by assumption)) (S₂.updG (s' := { s₂ with heap := h', toks := s₂.toks + 2 }) hK hu (fun b o hb1 hb2 e => ?_) (fun m' hm' => ?_) (N' _ hd').1 ⟨_, _, rfl, hput⟩)
  · cases q : G.base.get? b with
    | none => exact (N' (b, o) (hoth (b, o) (List.mem_filter.mpr ⟨mem_allObjs.mpr ⟨hb1, e⟩, by simp [q]⟩) hb2)).1
    | some o' => have := S₂.stays b o' q; rw [e] at this; obtain rfl := Option.some.inj this; exact F'.keep b o q
  · have : m' = m := by
      obtain ⟨o, es, ep, e1, e2, e3, e4⟩ := hm'
      obtain ⟨o', es', ep', e1', e2', e3', e4'⟩ := Fr'.ns
      rw [e1] at e1'; obtain rfl := Option.some.inj e1'; rw [e2] at e2'; cases e2'
      exact funext fun n => (e4 n).symm.trans (e4' n)
    rw [this]; exact F'.ns
theorem aw_imeth (hG : G.Ok) {o : Expr} {name : Str} {apos pos : Pos} {es : List Expr} {pl : Sem Bool}
    (h : AW G pf k σ (eval o k.env) (fun σ₁ D => (Ex4 fun C dx kvs f => And5 (D = .obj (instObj C dx)) ((dx, .dct kvs) ∈ σ₁.mu) (MethF G.K C name f) (mapAt kvs name = none) (AL G pf k σ₁ (spliced (backTo pos (starEach es k.env))) (fun σ₂ Ds => AC G pf k σ₂ (.ref f) (D :: Ds) P F) F))) F)
    (hs : eval (Expr.Call (Expr.Attribute o name apos) es [] pos) k.env = (do
          let ov ← eval o k.env
          standAt (Pos.atName apos)
          let __x ← holding [ov] (getMethod ov name pl)
          match __x with
            | (f, first) => callWith pos f first (backTo pos (starEach es k.env)) (backToKw pos (keywordEach [] k.env))) := by with_unfolding_all rfl)
    (hp : (backTo pos (starEach es k.env)).any (·.1) = false := by rfl) : AW G pf k σ (eval (.Call (.Attribute o name apos) es [] pos) k.env) P F := by
  intro keep hid s g Q E hK S ok er
  refine methodCall_KW (pl := pl) (h keep hid s g _ E hK S (fun σ₁ D v s₁ g₁ h₁ l₁ S₁ i₁ => ?_) er) hs
  obtain ⟨C, dx, kvs, f, rfl, hm, mf, hno, h₂⟩ := h₁
  obtain ⟨x, es', n, rfl, I, hall⟩ := inst_at S₁ i₁ hm
  obtain ⟨m, Fr', N, back⟩ := S₁.led hK
  refine method_inst Fr' hG.X I mf.get mf.found mf.fn ((getL_of hall).2 hno) ?_
  refine callWith_any hG (.own mf.keep) hp (h₂ keep hid s₁ g₁ _ E hK S₁ (fun σ₂ Ds vs s₂ g₂ h₃ l₂ S₂ i₂ => ⟨S₂.stays, ?_⟩) fun n e s' f x => er n e s' f (x.le l₁))
  exact h₃ keep hid s₂ g₂ Q E (.ref x :: vs) hK S₂ (.cons (i₁.le l₂) i₂) (fun σ' D v s' g' p l => ok σ' D v s' g' p (l₁.trans (l₂.trans l))) fun n e s' f x => er n e s' f (x.le (l₁.trans l₂))
end inst
end
section
set_option linter.unusedVariables false
set_option maxRecDepth 100000
set_option maxHeartbeats 4000000
open PySem PySem.W PySem.Spec PySem.Calls
open PyProof.Rows (Fr News Top)
noncomputable abbrev superBody (nm : Str) (p0 p1 p2 p3 p4 p5 p6 p7 p8 p9 : Pos) : List Stmt :=
  [.Expr (.Call (.Attribute (.Call (.Name ("super" : Str) p0) [] [] p1) ("__init__" : Str) p2) [.Name ("what" : Str) p3] [] p4) p5, .Assign [.Attribute (.Name ("self" : Str) p6) nm p7] (.Name nm p8) p9]
noncomputable abbrev supSc (nms : List (Str × NameKind)) : Scope := { kind := .function, names := nms, isGenerator := false, isCoroutine := false }
inductive SupFn (prog : Program) (K : Frag) (f : Addr) (q nm : Str) (ps : Arguments) (nms : List (Str × NameKind)) (cc : Addr) : Prop
  | intro (name doc pm an : _) (cda : Addr) (ct oc od osl p0 p1 p2 p3 p4 p5 p6 p7 p8 p9 ccl cdd : _) (vs : Array Value) (ccs file tf ar : _)
    (h0 : K.lookup f = some ⟨oc, od, .func (ksFn name q ps (superBody nm p0 p1 p2 p3 p4 p5 p6 p7 p8 p9) (supSc nms) .none .none doc pm an (.ref cda) ct cc), osl⟩)
    (h1 : codeIn K (.ref cda) q = true)
    (h2 : K.lookup cda = some ⟨ccl, cdd, .fields vs, ccs⟩)
    (h3 : vs[2]? = some (.str file tf))
    (h4 : ((prog.main.file : Str) == file) = true)
    (h5 : (ps.posonlyargs ++ ps.args).head? = some ar)
    (h6 : ar.arg = ("self" : Str))
    (h7 : (∀ L, ∃ pl : Sem Bool, eval (.Call (.Attribute (.Call (.Name ("super" : Str) p0) [] [] p1) ("__init__" : Str) p2) [.Name ("what" : Str) p3] [] p4) (ksEnv q (supSc nms) L f (.ref cda) cc) = (do
      let ov ← attributeBase (.Call (.Name ("super" : Str) p0) [] [] p1) ("__init__" : Str) (ksEnv q (supSc nms) L f (.ref cda) cc) (eval (.Call (.Name ("super" : Str) p0) [] [] p1) (ksEnv q (supSc nms) L f (.ref cda) cc))
      standAt p2.atName
      let (f', first) ← holding [ov] (getMethod ov ("__init__" : Str) pl)
      callWith p4 f' first (backTo p4 (starEach [.Name ("what" : Str) p3] (ksEnv q (supSc nms) L f (.ref cda) cc))) [])))
    (h8 : (∀ L, swapsWith (.Name nm p8) (some (.Attribute (.Name ("self" : Str) p6) nm p7)) p9.line (ksEnv q (supSc nms) L f (.ref cda) cc) = pure false)) : SupFn prog K f q nm ps nms cc
structure SupF (prog : Program) (K : Frag) (f : Addr) (q nm : Str) (ps : Arguments) (nms : List (Str × NameKind)) (D cc : Addr) : Prop where
  fn : SupFn prog K f q nm ps nms cc
  cell : ∃ cl cld csl, K.lookup cc = some ⟨cl, cld, .cell (some (.ref D)), csl⟩
  nocell : ∀ x ∈ nms, x.2 ≠ .cell
  super : nms.lookup ("super" : Str) = some .globalImplicit
  cls : nms.lookup ("__class__" : Str) = some .free
  self : nms.lookup ("self" : Str) = some .local
  what : nms.lookup ("what" : Str) = some .local
  name : nms.lookup nm = some .local
  nosuper : nsIn K mainGlobals "super" = some none
  top : (prog.main.scope.names.lookup ("super" : Str)).isSome = false
  boot : bootBuiltins "super" = some (.type "super")
noncomputable def ledOf (h₀ : Heap) (L : Addr) (h : Heap) : List (Addr × Obj) := (allObjs h L).filter fun p => (h₀.get? p.1).isNone
theorem led_news {h₀ h : Heap} {L : Addr} {m : Str → Option Value} (F : Fr h₀ L h m) : News h₀ L h (ledOf h₀ L h) := fun p hp => by
  obtain ⟨a, o⟩ := p
  obtain ⟨hp, hn⟩ := List.mem_filter.mp hp
  obtain ⟨h1, h2⟩ := mem_allObjs.mp hp
  exact ⟨h2, h1, by simpa using hn⟩
theorem led_keep {h₀ h h' : Heap} {L : Addr} {m m' : Str → Option Value} (F : Fr h₀ L h m) (F' : Fr h₀ L h' m') (N' : ∀ p ∈ ledOf h₀ L h, h'.get? p.1 = some p.2) {b : Addr} {o : Obj} (hb : b ≠ L) (e : h.get? b = some o) : h'.get? b = some o := by
  cases q : h₀.get? b with
  | none => exact N' (b, o) (List.mem_filter.mpr ⟨mem_allObjs.mpr ⟨hb, e⟩, by simp [q]⟩)
  | some o' => have := F.keep b o' q; rw [e] at this; obtain rfl := Option.some.inj this; exact F'.keep b o q
section
variable {prog : Program} {w : World} {A : Around} {K : Frag} {C D f cc x : Addr} {s : Shared} {R : Result → Shared → Prop} {h₀ : Heap} {p : Program} {loose : List Str} {mean : ExcName → Option Value} {mg mb : Str → Option Value} {q nm : Str} {ps : Arguments} {nms : List (Str × NameKind)}
structure ExcCls (K : Frag) (C : Addr) (cd : ClassData) : Prop where
  cls : clsIn K C = some cd
  ne : cd.mro.isEmpty = false
  obj : cd.mro.contains (.type "object") = true
  refuse : ∀ self, refuseLoop self "__setattr__" cd.mro = pure ()
  set : findIn K (.ref C) "__setattr__" = some (some (.builtin "object.__setattr__"))
  dict : cd.hasDict = true
  exc : mroIn K C (.type "Exception") = some true
  noany : nsIn K cStatics "thirdparty.any" = some none
theorem x_mw_keeps {M : Model} {h : Heap} {q : Addr} {a b : Value} (hq : h.get? q = some { cls := .type "method-wrapper", dict := none, data := .fields #[a, b], slots := #[] }) : Looks M h (keeperOf (.ref q)) Keeper.machine :=
  (Looks.ld (part := none) hq).andThen .now
theorem x_init_S {cd : ClassData} {v : Value} {vs : Array Value} {sl : Array (Option Value)} (X₀ : K.In h₀) (T : Top p loose mean mg mb h₀) (st : ∀ b o, h₀.get? b = some o → s.heap.get? b = some o) (hsz : h₀.objs.size ≤ s.heap.objs.size) (S : SupF prog K f q nm ps nms D cc) (E : ExcCls K C cd)
    (hx : s.heap.get? x = some ⟨.ref C, none, .fields vs, sl⟩) (hx0 : h₀.get? x = none) (hv : 1 < vs.size) (hroom : A.depth < recursionLimit) (hsub : mroIn K C (.ref D) = some true) (hD : ∃ cdD, clsIn K D = some cdD) (ht : takerIn K C nm = some none) (hnm : nm = ("what" : Str))
    (hb : ∀ name body doc pm an cdv ct, ∀ (x v : Value), bindArgs (ksFn name q ps body (supSc nms) .none .none doc pm an cdv ct cc) ⟨[x, v], []⟩ = pure [(("self" : Str), x), (("what" : Str), v)])
    (hal : alongIn K ("__init__" : Str) ((cd.mro.dropWhile (· != .ref D)).drop 1) = some (some (.builtin "Exception.__init__")))
    (hq : ∀ h' d vs' tk, (∀ b o, b ≠ x → s.heap.get? b = some o → h'.get? b = some o) → h'.get? x = some ⟨.ref C, some d, .fields vs', sl⟩ → vs'[1]? = vs[1]? → s.heap.objs.size ≤ d → h'.get? d = some (dictOf [⟨PyData.keyHash w.params nm, .str nm tk, v⟩] 1) → R (.ok (.ret .none)) { s with heap := h', toks := tk + 1 }) :
    codeAny (model prog w) A (.call (.ref f) ⟨[.ref x, v], []⟩) R s := by
  obtain ⟨name, doc, pm, an, cda, ct, oc, od, osl, p0, p1, p2, p3, p4, p5, p6, p7, p8, p9, ccl, cdd, cvs, ccs, file, tf, ar, hf, hcode, hcda, hvs, hfile, hp, har, hmeth, hswap⟩ := S.fn
  obtain ⟨cl, cld, csl, hcell⟩ := S.cell
  obtain ⟨cdD, hD⟩ := hD
  have X := X₀.keeps st
  refine ks_codeAny_call_defAt (binds := [(("self" : Str), .ref x), (("what" : Str), v)]) hroom (X _ _ hf) rfl (T.nolimit.keeps st) (codeRec_of X hcode) rfl (BindsTo.of_eq (hb _ _ _ _ _ _ _ _ _)) S.nocell (fun y hy => ?_) (fun h₁ hns hk₁ => ?_) rfl rfl rfl
  · rcases List.mem_cons.mp hy with rfl | hy
    · exact S.self
    · rcases List.mem_cons.mp hy with rfl | hy
      · exact S.what
      · cases hy
  generalize hL : s.heap.objs.size = L at *
  have F₁ : Fr h₀ L h₁ (fun y => List.lookup y [(("self" : Str), Value.ref x), (("what" : Str), v)].reverse) := ⟨hns, fun b o e => hk₁ b o (st b o e), hsz⟩
  have hx₁ := hk₁ _ _ hx
  have I₁ : W.InstAt h₁ x ⟨.ref C, none, .fields vs, sl⟩ C none := ⟨hx₁, rfl, rfl, trivial⟩
  have xL : x ≠ L := hL ▸ Nat.ne_of_lt (Heap.lt_size hx)
  have hE : callEnv (ksFn name q ps (superBody nm p0 p1 p2 p3 p4 p5 p6 p7 p8 p9) (supSc nms) .none .none doc pm an (.ref cda) ct cc) L f = ksEnv q (supSc nms) L f (.ref cda) cc := rfl
  rw [hE]
  clear hE
  generalize hA : A.deeper (ksEnv q (supSc nms) L f (.ref cda) cc) = A'
  refine ks_wpAt_execs_cons (ks_wpAt_Expr_any ?_)
  obtain ⟨pl, hmeth⟩ := hmeth L
  have hswap := hswap L
  refine ks_wpAt_MethodCall ?_ hmeth
  refine ks_node (s := ⟨h₁, s.gens, s.drawn, s.toks + 2, s.os⟩) (scope := supSc nms) (attr := ("__init__" : Str)) (q := q) (L := L) (f := f) (cc := cc) (cda := cda) F₁ X₀ (led_news F₁) T hf hp (by rw [har]; rfl) I₁ hcda hvs hfile hcell hD hsub S.nosuper (by decide) S.super S.cls (by rw [har]; exact S.self) rfl S.top S.boot fun so h₂ F₂ N₂ lt => ?_
  have k₂ : ∀ b o, b ≠ L → h₁.get? b = some o → h₂.get? b = some o := fun b o hb e => led_keep F₁ F₂ (fun p hp => (N₂ p (.tail _ hp)).1) hb e
  have hx₂ := k₂ _ _ xL hx₁
  have hso := (N₂ _ (.head _)).1
  have X₂ := X₀.keeps F₂.keep
  have hxC : x ≠ C := by
    have I₂ : W.InstAt h₂ x ⟨.ref C, none, .fields vs, sl⟩ C none := ⟨hx₂, rfl, rfl, trivial⟩
    exact ks_ne X₂ I₂ E.cls
  have hsub₂ : ∀ h, K.In h → Looks (model prog w) h (isSubtype (.ref C) (.type "Exception")) true := fun h X => looks_mroIn X E.exc
  refine x_getMethod (D := D) (x := x) (C := C) (l₀ := cd.mro) hso (looks_opaque X₂ E.noany) ((looks_clsIn X₂ E.cls).andThen .now) rfl X₂ hx₂ rfl (hsub₂ _ X₂) hal hxC ?_
  generalize hh₃ : h₂.push { cls := Value.type "method-wrapper", data := Data.fields #[Value.builtin "Exception.__init__", Value.ref x] } = h₃
  have k₃ : ∀ b o, h₂.get? b = some o → h₃.get? b = some o := fun b o e => hh₃ ▸ Heap.get?_push_of_some _ e
  have hmw : h₃.get? h₂.objs.size = some { cls := Value.type "method-wrapper", data := Data.fields #[Value.builtin "Exception.__init__", Value.ref x] } := hh₃ ▸ Heap.get?_push_size _ rfl
  refine callWith_of (P := fun h => h = h₃) rfl (fun h e => ⟨.machine, .inr (.inl rfl), e ▸ x_mw_keeps hmw⟩) ?_
  have F₃ : Fr h₀ L h₃ (fun y => List.lookup y [(("self" : Str), Value.ref x), (("what" : Str), v)].reverse) := ⟨F₂.ns.keeps k₃, fun b o e => k₃ b o (F₂.keep b o e), F₂.above⟩
  have hx₃ := k₃ _ _ hx₂
  have X₃ := X₀.keeps F₃.keep
  refine evalArgs_all rfl ?_
  show wpAny _ _ (spliced ((false, eval (.Name ("what" : Str) p3) _) :: backTo p4 (starEach [] _))) _ _ _
  refine Calls.spliced_cons (wpAny_Name (wpAny_loadName_local rfl S.what F₃.ns rfl ?_) (by decide))
  refine Calls.spliced_nil ⟨rfl, ?_⟩
  obtain ⟨oC, hC, hCd⟩ : ∃ oC, h₃.get? C = some oC ∧ oC.data = .cls cd := by
    have := E.cls
    unfold clsIn at this
    split at this
    · rename_i c d cd' sl' ho
      obtain rfl := Option.some.inj this
      exact ⟨_, X₃ _ _ ho, rfl⟩
    · exact no_ns this
  refine wpAny_call (x_call_mw hmw hx₃ rfl rfl (by exact Nat.le_of_lt hv) hC hCd (hsub₂ _ X₃) ?_)
  generalize hh₄ : (h₃.push { cls := Value.type "tuple", data := Data.seq #[v] }).update x (Obj.mapFields (·.setIfInBounds 0 (.ref h₃.objs.size))) = h₄
  have hxp := Heap.get?_push_of_some (h := h₃) { cls := Value.type "tuple", data := Data.seq #[v] } hx₃
  have k₄ : ∀ b o, b ≠ x → h₃.get? b = some o → h₄.get? b = some o := fun b o hb e => hh₄ ▸ (Heap.get?_update_other _ _ (Ne.symm hb)).trans (Heap.get?_push_of_some _ e)
  have hx₄ : h₄.get? x = some ⟨.ref C, none, .fields (vs.setIfInBounds 0 (.ref h₃.objs.size)), sl⟩ := hh₄ ▸ Heap.get?_update_self _ hxp rfl
  have nx : ∀ m, h₃.Ns L m → h₄.Ns L m := fun m hm => hm.at' fun o e => k₄ _ o (Ne.symm xL) e
  have x0 : h₀.get? x = none := hx0
  have F₄ : Fr h₀ L h₄ (fun y => List.lookup y [(("self" : Str), Value.ref x), (("what" : Str), v)].reverse) := ⟨nx _ F₃.ns, fun b o e => k₄ b o (fun q => by rw [q, x0] at e; exact no_ns e) (F₃.keep b o e), F₃.above⟩
  have X₄ := X₀.keeps F₄.keep
  dsimp only
  refine ks_wpAt_execs_cons (ks_wpAt_Assign_Attr (wpAt_of_wpAny (wpAny_Name (wpAny_loadName_local rfl S.name F₄.ns (by rw [hnm]; rfl) ?_) (by rw [hnm]; decide))) hswap)
  refine wpAny_Name (wpAny_loadName_local rfl S.self F₄.ns rfl ?_) (by decide)
  refine x_set_new (cd := cd) X₄ hx₄ E.set E.cls E.ne E.obj E.refuse ht E.dict fun h₅ k₅ hx₅ hd₅ => ?_
  dsimp only
  refine wpAt_of_wpAny (wpAny_execs_nil ?_)
  refine hq h₅ h₄.objs.size _ _ (fun b o hb e => ?_) hx₅ ?_ ?_ hd₅
  · have bL : b ≠ L := hL ▸ Nat.ne_of_lt (Heap.lt_size e)
    exact k₅ b o hb (k₄ b o hb (k₃ b o (k₂ b o bL (hk₁ b o e))))
  · simp
  · obtain ⟨oL, es, ep, e1, _⟩ := F₄.ns
    exact Nat.le_of_lt (Heap.lt_size e1)
end
structure FaultF (prog : Program) (K : Frag) (C smt fP fS : Addr) : Prop where
  P : (Ex4 fun q ps nms cc => And3 (SupF prog K fP q ("step" : Str) ps nms C cc) (nms.lookup ("step" : Str) = some .local) (∀ name body doc pm an cdv ct, ∀ (x v n : Value), bindArgs (ksFn name q ps body (supSc nms) .none .none doc pm an cdv ct cc) ⟨[x, v, n], []⟩ = pure [(("self" : Str), x), (("what" : Str), v), (("step" : Str), n)]))
  S : (Ex4 fun q ps nms cc => SupF prog K fS q ("what" : Str) ps nms smt cc ∧ ∀ name body doc pm an cdv ct, ∀ (x v : Value), bindArgs (ksFn name q ps body (supSc nms) .none .none doc pm an cdv ct cc) ⟨[x, v], []⟩ = pure [(("self" : Str), x), (("what" : Str), v)])
  cls : ∃ cd, ExcCls K C cd ∧ alongIn K ("__init__" : Str) ((cd.mro.dropWhile (· != .ref smt)).drop 1) = some (some (.builtin "Exception.__init__")) ∧ cd.mro.dropWhile (· != .ref smt) ≠ []
  smtCls : ∃ cdS, clsIn K smt = some cdS
  subS : mroIn K C (.ref smt) = some true
  subP : mroIn K C (.ref C) = some true
  t1 : takerIn K C ("what" : Str) = some none
  t2 : takerIn K C ("step" : Str) = some none
  sup : ks_superIn K C C ("__init__" : Str) = some (some (.ref fS))
  tyS : typeIn K (.ref fS) = some (.type "function")
  fnS : fnIn K fS = true
section
variable {prog : Program} {w : World} {A : Around} {K : Frag} {C smt fP fS x : Addr} {s : Shared} {R : Result → Shared → Prop} {h₀ : Heap} {p : Program} {loose : List Str} {mean : ExcName → Option Value} {mg mb : Str → Option Value}
theorem x_init_P {v n : Value} {vs : Array Value} {sl : Array (Option Value)} (X₀ : K.In h₀) (T : Top p loose mean mg mb h₀) (st : ∀ b o, h₀.get? b = some o → s.heap.get? b = some o) (hsz : h₀.objs.size ≤ s.heap.objs.size) (FF : FaultF prog K C smt fP fS)
    (hx : s.heap.get? x = some ⟨.ref C, none, .fields vs, sl⟩) (hx0 : h₀.get? x = none) (hv : 1 < vs.size) (hroom : A.depth + 1 < recursionLimit)
    (hq : ∀ h' d vs' t1 t2 tk, (∀ b o, b ≠ x → s.heap.get? b = some o → h'.get? b = some o) → h'.get? x = some ⟨.ref C, some d, .fields vs', sl⟩ → vs'[1]? = vs[1]? → s.heap.get? d = none → h'.get? d = some (dictOf [⟨PyData.keyHash w.params ("what" : Str), .str ("what" : Str) t1, v⟩, ⟨PyData.keyHash w.params ("step" : Str), .str ("step" : Str) t2, n⟩] 2) → R (.ok (.ret .none)) { s with heap := h', toks := tk }) :
    codeAny (model prog w) A (.call (.ref fP) ⟨[.ref x, v, n], []⟩) R s := by
  obtain ⟨q, ps, nms, cc, S, hstep, hb⟩ := FF.P
  obtain ⟨qS, psS, nmsS, ccS, SS, hbS⟩ := FF.S
  obtain ⟨cd, E, hal, _⟩ := FF.cls
  obtain ⟨name, doc, pm, an, cda, ct, oc, od, osl, p0, p1, p2, p3, p4, p5, p6, p7, p8, p9, ccl, cdd, cvs, ccs, file, tf, ar, hf, hcode, hcda, hvs, hfile, hp, har, hmeth, hswap⟩ := S.fn
  obtain ⟨cl, cld, csl, hcell⟩ := S.cell
  have hD := E.cls
  have X := X₀.keeps st
  refine ks_codeAny_call_defAt (binds := [(("self" : Str), .ref x), (("what" : Str), v), (("step" : Str), n)]) (Nat.lt_of_succ_lt hroom) (X _ _ hf) rfl (T.nolimit.keeps st) (codeRec_of X hcode) rfl (BindsTo.of_eq (hb _ _ _ _ _ _ _ _ _ _)) S.nocell (fun y hy => ?_) (fun h₁ hns hk₁ => ?_) rfl rfl rfl
  · rcases List.mem_cons.mp hy with rfl | hy
    · exact S.self
    · rcases List.mem_cons.mp hy with rfl | hy
      · exact S.what
      · rcases List.mem_cons.mp hy with rfl | hy
        · exact hstep
        · cases hy
  generalize hL : s.heap.objs.size = L at *
  have F₁ : Fr h₀ L h₁ (fun y => List.lookup y [(("self" : Str), Value.ref x), (("what" : Str), v), (("step" : Str), n)].reverse) := ⟨hns, fun b o e => hk₁ b o (st b o e), hsz⟩
  have hx₁ := hk₁ _ _ hx
  have I₁ : W.InstAt h₁ x ⟨.ref C, none, .fields vs, sl⟩ C none := ⟨hx₁, rfl, rfl, trivial⟩
  have xL : x ≠ L := hL ▸ Nat.ne_of_lt (Heap.lt_size hx)
  have hE : callEnv (ksFn name q ps (superBody ("step" : Str) p0 p1 p2 p3 p4 p5 p6 p7 p8 p9) (supSc nms) .none .none doc pm an (.ref cda) ct cc) L fP = ksEnv q (supSc nms) L fP (.ref cda) cc := rfl
  rw [hE]
  clear hE
  generalize hA : A.deeper (ksEnv q (supSc nms) L fP (.ref cda) cc) = A'
  have hroom' : A'.depth < recursionLimit := by rw [← hA]; exact hroom
  refine ks_wpAt_execs_cons (ks_wpAt_Expr_any ?_)
  obtain ⟨pl, hmeth⟩ := hmeth L
  have hswap := hswap L
  refine ks_wpAt_MethodCall ?_ hmeth
  refine ks_node (s := ⟨h₁, s.gens, s.drawn, s.toks + 3, s.os⟩) (scope := supSc nms) (attr := ("__init__" : Str)) (q := q) (L := L) (f := fP) (cc := cc) (cda := cda) F₁ X₀ (led_news F₁) T hf hp (by rw [har]; rfl) I₁ hcda hvs hfile hcell hD FF.subP S.nosuper (by decide) S.super S.cls (by rw [har]; exact S.self) rfl S.top S.boot fun so h₂ F₂ N₂ lt => ?_
  have k₂ : ∀ b o, b ≠ L → h₁.get? b = some o → h₂.get? b = some o := fun b o hb e => led_keep F₁ F₂ (fun p hp => (N₂ p (.tail _ hp)).1) hb e
  have hx₂ := k₂ _ _ xL hx₁
  have I₂ : W.InstAt h₂ x ⟨.ref C, none, .fields vs, sl⟩ C none := ⟨hx₂, rfl, rfl, trivial⟩
  have X₂ := X₀.keeps F₂.keep
  refine ks_method (s := ⟨h₂, s.gens, s.drawn, s.toks + 3, s.os⟩) F₂ X₀ (news := (so, ks_superObj C x C) :: ledOf h₀ L h₂) (by
      intro p hp
      rcases List.mem_cons.mp hp with rfl | hp
      · exact N₂ _ (.head _)
      · exact led_news F₂ p hp) (.head _) I₂ E.noany FF.sup FF.tyS (by decide) fun mo h₃ F₃ N₃ lt₃ => ?_
  have k₃ : ∀ b o, b ≠ L → h₂.get? b = some o → h₃.get? b = some o := fun b o hb e => led_keep F₂ F₃ (fun p hp => (N₃ p (.tail _ (.tail _ hp))).1) hb e
  have hx₃ := k₃ _ _ xL hx₂
  have X₃ := X₀.keeps F₃.keep
  have hmo := (N₃ _ (.head _)).1
  refine callWith_of (P := fun h => h = h₃) rfl (fun h e => keeps_M (q := mo) FF.fnS h ⟨e ▸ hmo, e ▸ X₃⟩) ?_
  refine evalArgs_all rfl ?_
  show wpAny _ _ (spliced ((false, eval (.Name ("what" : Str) p3) _) :: backTo p4 (starEach [] _))) _ _ _
  refine Calls.spliced_cons (wpAny_Name (wpAny_loadName_local rfl S.what F₃.ns rfl ?_) (by decide))
  refine Calls.spliced_nil ⟨rfl, ?_⟩
  have Llt : L < h₃.objs.size := by obtain ⟨oL, es, ep, e1, _⟩ := F₃.ns; exact Heap.lt_size e1
  refine wpAny_call (ks_codeAny_call_bound hmo ?_)
  refine x_init_S (s := ⟨h₃, s.gens, s.drawn, s.toks + 3 + 1, s.os⟩) X₀ T F₃.keep (Nat.le_trans F₃.above (Nat.le_of_lt Llt)) SS E hx₃ hx0 hv hroom' FF.subS FF.smtCls FF.t1 rfl hbS hal fun h₄ d vs' tk k₄ hx₄ hvs4 hd hd₄ => ?_
  have nx : ∀ m, h₃.Ns L m → h₄.Ns L m := fun m hm => hm.at' fun o e => k₄ _ o (Ne.symm xL) e
  have F₄ : Fr h₀ L h₄ (fun y => List.lookup y [(("self" : Str), Value.ref x), (("what" : Str), v), (("step" : Str), n)].reverse) := ⟨nx _ F₃.ns, fun b o e => k₄ b o (fun q => by rw [q, hx0] at e; exact no_ns e) (F₃.keep b o e), F₃.above⟩
  have X₄ := X₀.keeps F₄.keep
  dsimp only
  refine ks_wpAt_execs_cons (ks_wpAt_Assign_Attr (wpAt_of_wpAny (wpAny_Name (wpAny_loadName_local rfl S.name F₄.ns rfl ?_) (by decide))) hswap)
  refine wpAny_Name (wpAny_loadName_local rfl S.self F₄.ns rfl ?_) (by decide)
  refine x_set_more (cd := cd) X₄ hx₄ rfl hd₄ E.set E.cls E.ne E.obj E.refuse FF.t2 E.dict rfl (by show 1 < 1000; decide) fun h₅ k₅ hd₅ => ?_
  dsimp only
  refine wpAt_of_wpAny (wpAny_execs_nil ?_)
  have dge : s.heap.objs.size ≤ d := by
    refine Nat.le_trans ?_ hd
    rw [hL]; exact Nat.le_of_lt Llt
  have dx : d ≠ x := by
    intro e; rw [e] at dge; exact absurd (Heap.lt_size hx) (Nat.not_lt.mpr dge)
  refine hq h₅ d vs' _ _ _ (fun b o hb e => ?_) (k₅ _ _ (Ne.symm dx) hx₄) hvs4 (Heap.get?_none_of_le dge) hd₅
  have bL : b ≠ L := hL ▸ Nat.ne_of_lt (Heap.lt_size e)
  have bd : b ≠ d := by intro e'; rw [e'] at e; exact absurd (Heap.lt_size e) (Nat.not_lt.mpr dge)
  exact k₅ b o bd (k₄ b o hb (k₃ b o bL (k₂ b o bL (hk₁ b o e))))
end
end
section
set_option linter.unusedVariables false
set_option maxRecDepth 100000
set_option maxHeartbeats 4000000
open PySem PySem.W PySem.Spec PySem.Calls
theorem x_raiseStmt {M : Model} {A : Around} {E : Value → Shared → Prop} {env : Env} {s : Shared} {C : Addr} {x : Sem Value} {Q : Flow → Shared → Prop} (hh : A.handled = none)
    (h : wpAny M A x (fun v s₁ => (Ex4 fun e dd vs sl => And6 (v = .ref e) (s₁.heap.get? e = some ⟨.ref C, dd, .fields vs, sl⟩) (vs[1]? = some .none) (Looks M s₁.heap (isSubtype (.ref C) (.type "BaseException")) true) ((∃ oC, s₁.heap.get? C = some oC ∧ oC.cls = .type "type")) (E (.ref e) s₁))) E s) :
    wpAny M A (raiseStmt env (some x) none) Q E s := by
  unfold raiseStmt
  refine wpAny_bind (wpAny_mono h (fun v s₁ h₁ => ?_) fun _ _ x => x)
  obtain ⟨e, dd, vs, sl, rfl, he, hvs, hs, ⟨⟨c1, c2, c3, c4⟩, hC, hCc⟩, hE⟩ := h₁
  dsimp only at hCc; subst hCc
  obtain ⟨hp, g, d, tk, os⟩ := s₁
  repeat (first | with_reducible refine wpAny_field he rfl hvs ?_ | with_reducible refine wpAny_loadPart_at he ?_ | with_reducible refine wpAny_loadPart_at hC ?_ | with_reducible refine Looks.at hs ?_ | wp_step)
  exact wpAny_raiseNew_none hh hE
theorem x_ga_slot : Slot "Exception" "__getattribute__" "BaseException.__getattribute__" := .of (owner := "BaseException") (n := "__getattribute__") (by rw [typeLookup_type, builtinLookup_eq_fast]; kernel_rfl) (by decide +kernel) (by decide +kernel) (by decide +kernel)
  (by first | exact .inl (by decide +kernel) | exact .inr (by decide +kernel)) (by rw [isSubtype_type]; kernel_rfl)
section
variable {prog : Program} {w : World} {A : Around} {E : Value → Shared → Prop} {h : Heap} {g : Array GenState} {d : Drawn} {t : Nat} {os : OsState} {x C dx : Addr} {ox : Obj} {es : List DictEntry} {n : Nat} {v : Value} {K : Frag} {cd : ClassData}
theorem x_ga_check {M : Model} {nameV : Value} {Q : Unit → Shared → Prop} (hs : Looks M h (isSubtype (.ref C) (.type "BaseException")) true)
    (hx : h.get? x = some ox) (hc : ox.cls = .ref C) (hq : Q () ⟨h, g, d, t, os⟩) : wpAny M A (checkBuiltinCall "BaseException.__getattribute__" ⟨[.ref x, nameV], []⟩) Q E ⟨h, g, d, t, os⟩ := by
  have hk : builtinKind "BaseException.__getattribute__" = some .slot := by decide +kernel
  have hsplit : splitId "BaseException.__getattribute__" = some ("BaseException", "__getattribute__") := by decide +kernel
  have ha := F.args_bexc_ga (.ref x) nameV
  simp only [checkBuiltinCall, hk, hsplit]
  refine wpAny_bind ?_
  · unfold isInstance
    repeat (first | (with_reducible refine wpAny_loadPart_at hx ?_; rw [hc]) | with_reducible refine Looks.at hs ?_ | wp_step)
    exact hq
theorem x_getattr {name : Str} {expr : Bool} {sl : Array (Option Value)} {vs : Array Value} {Q : Value → Shared → Prop} (X : K.In h) (hx : h.get? x = some ⟨.ref C, some dx, .fields vs, sl⟩) (hdx : h.get? dx = some (dictOf es n))
    (hga : findIn K (.ref C) ("__getattribute__" : Str) = some (some (.builtin "BaseException.__getattribute__"))) (hgt : findIn K (.ref C) ("__getattr__" : Str) = some none) (hnm : findIn K (.ref C) name = some none) (hs : mroIn K C (.type "BaseException") = some true)
    (hc : clsIn K C = some cd) (hd : cd.hasDict = true) (hl : getL name es = some (some v)) (hv : handedIn v = true) (hq : Q v ⟨h, g, d, t + 1, os⟩) : wpAny (model prog w) A (getAttr (.ref x) name expr) Q E ⟨h, g, d, t, os⟩ := by
  have hsub : Looks (model prog w) h (isSubtype (.ref C) (.type "BaseException")) true := looks_mroIn X hs
  have l1 : Looks (model prog w) h (typeLookup (.ref C) ("__getattribute__" : Str)) (some (.builtin "BaseException.__getattribute__")) := looks_findIn X hga
  have l2 : Looks (model prog w) h (typeLookup (.ref C) ("__getattr__" : Str)) none := looks_findIn X hgt
  have l3 : Looks (model prog w) h (typeLookup (.ref C) name) none := looks_findIn X hnm
  have l4 : Looks (model prog w) h (classData C) cd := looks_clsIn X hc
  have l5 : Looks (model prog w) h (nsLook name (dictOf es n)) (some v) := Looks.of_pure (nsLook_of ((lookIn_dict name es n).trans hl))
  have f3 := x_ga_slot.bind (.ref x)
  have hho := handedOut_of hv
  have hx0 : (expr && onTheHeap (Value.builtin "BaseException.__getattribute__")) = false := by cases expr <;> rfl
  have hx2 : (Value.builtin "BaseException.__getattribute__" == Value.builtin "object.__getattribute__") = false := by decide +kernel
  have hx1 : (onTheHeap (Value.ref C) && Value.builtin "BaseException.__getattribute__" == Value.builtin "object.__getattribute__") = false := by rw [hx2]; rfl
  unfold getAttr getAttrBy
  repeat (any_goals (first | assumption | with_reducible refine Looks.at l1 ?_ | with_reducible refine Looks.at l2 ?_ | with_reducible refine wpAny_loadPart_at hx ?_ | wp_step))
  refine codeAny_call_builtin x_ga_slot.plain F.entry_bexc_ga (x_ga_check hsub hx rfl ?_)
  unfold Builtin.«object.__getattribute__»
  repeat (any_goals (first | assumption | with_reducible refine Looks.at l5 ?_ | with_reducible refine Looks.at l3 ?_ | with_reducible refine Looks.at l4 ?_ | (rw [hd]) | with_reducible refine wpAny_loadPart_at hx ?_ | with_reducible refine wpAny_loadPart_at hdx ?_ | wp_step))
theorem x_excMatches {M : Model} {E : Value → Shared → Prop} {e : Addr} {oe oC : Obj} {Q : Bool → Shared → Prop} (he : h.get? e = some oe) (hcls : oe.cls = .ref C) (hC : h.get? C = some oC) (hCc : oC.cls = .type "type") (hCd : oC.data = .cls cd)
    (hb : Looks M h (isSubtype (.ref C) (.type "BaseException")) true) (hs : Looks M h (isSubtype (.ref C) (.ref C)) true) (hq : Q true ⟨h, g, d, t, os⟩) : wpAny M A (excMatches (.ref e) (.ref C)) Q E ⟨h, g, d, t, os⟩ := by
  obtain ⟨c1, c2, c3, c4⟩ := oC
  dsimp only at hCc hCd; subst hCc; subst hCd
  obtain ⟨y1, y2, y3, y4⟩ := oe
  dsimp only at hcls; subst hcls
  have ht : isSubtype (.type "type") (.type "tuple") = pure false := by rw [isSubtype_type]; kernel_rfl
  unfold excMatches
  repeat (first | with_reducible refine wpAny_loadPart_at he ?_ | with_reducible refine wpAny_loadPart_at hC ?_ | with_reducible refine Looks.at hb ?_ | with_reducible refine Looks.at hs ?_ | (dsimp only; rw [ht]) | wp_step)
  exact hq
end
end
section
set_option linter.unusedVariables false
set_option maxRecDepth 100000
open PySem PySem.W PySem.Spec PySem.Calls PyProof.Rows PyProof.V
variable {G : Gl} {pf : Addr} {k : Kx}
variable {σ : St} {P : St → Dsc → Prop} {PB : St → Bool → Prop} {PL : St → List Dsc → Prop} {PX : St → Prop} {R : St → Dsc → Prop} {F : Int → Prop} {Pb : Bool → Prop}
theorem Kp.re {k k' : Kx} {keep : PH} {hid : Addr → Prop} (h : Kp G k keep hid) (e₁ : k'.env = k.env) (e₂ : k'.envs = k.envs) : Kp G k' keep hid := by
  obtain ⟨A, env, envs⟩ := k; obtain ⟨A', env', envs'⟩ := k'
  dsimp only at e₁ e₂; subst e₁; subst e₂
  exact ⟨h.base, h.L, h.Lb, h.hk, h.fr, h.frh⟩
theorem Site.re {k k' : Kx} {keep : PH} {hid : Addr → Prop} {s : Shared} {g : PH} (S : Site G k keep hid σ s g) (e₁ : k'.env = k.env) (e₂ : k'.envs = k.envs) : Site G k' keep hid σ s g := by
  obtain ⟨A, env, envs⟩ := k; obtain ⟨A', env', envs'⟩ := k'
  dsimp only at e₁ e₂; subst e₁; subst e₂
  exact ⟨S.base, S.gh, S.kept, S.ghid, S.gL, S.locs, S.mus, S.nodup, S.gens, S.os⟩
theorem FSite.re {k k' : Kx} {keep : PH} {s : Shared} {g : PH} {n : Int} {e : Value} (x : FSite G pf k keep g n e s) (e₁ : k'.env = k.env) (e₂ : k'.envs = k.envs) : FSite G pf k' keep g n e s := by
  obtain ⟨A, env, envs⟩ := k; obtain ⟨A', env', envs'⟩ := k'
  dsimp only at e₁ e₂; subst e₁; subst e₂
  exact ⟨x.gh, x.kept, x.ns, x.gens, x.os, x.exc⟩
theorem Site.newAt {keep : PH} {hid : Addr → Prop} {s : Shared} {g : PH} (hK : Kp G k keep hid) (S : Site G k keep hid σ s g) {a : Addr} (hn : s.heap.get? a = none) : g a = none ∧ keep a = none ∧ a ≠ k.env.locals ∧ ∀ p ∈ σ.mu, p.1 ≠ a := by
  refine ⟨?_, ?_, fun q => ?_, fun p hp q => ?_⟩
  · cases q : g a with
    | none => rfl
    | some o => rw [S.gh _ _ q] at hn; exact no_sn hn
  · cases q : keep a with
    | none => rfl
    | some o => obtain ⟨sl, h⟩ := S.kept.keep_get q; rw [h] at hn; exact no_sn hn
  · obtain ⟨m, ⟨o, es, ep, h, _⟩, _⟩ := S.locs; rw [← q, hn] at h; exact no_ns h
  · obtain ⟨_, _, _, o, h, _⟩ := S.mus p hp; rw [q, hn] at h; exact no_ns h
theorem Site.adoptG {keep : PH} {hid : Addr → Prop} {s : Shared} {g : PH} (hK : Kp G k keep hid) (S : Site G k keep hid σ s g) {a : Addr} {o : Obj} (h1 : g a = none) (h2 : keep a = none) (h3 : a ≠ k.env.locals) (h4 : ∀ p ∈ σ.mu, p.1 ≠ a) (ho : s.heap.get? a = some o) :
    Site G k keep hid σ s (g.ext a o) ∧ Le g (g.ext a o) := by
  have l := PH.le_ext (o := o) h1
  refine ⟨⟨fun b o e => l _ _ (S.base b o e), fun b o' e => ?_, S.kept, fun b hb => ?_, by simp [PH.ext, h3.symm, S.gL], ?_, fun p hp => ?_, S.nodup, S.gens, S.os⟩, l⟩
  · unfold PH.ext at e
    by_cases q : b = a
    · rw [if_pos q] at e; obtain rfl := Option.some.inj e; rw [q]; exact ho
    · rw [if_neg q] at e; exact S.gh b o' e
  · have : b ≠ a := fun q => by obtain ⟨o1, e⟩ := hK.hk b hb; rw [q, h2] at e; exact no_ns e
    simp [PH.ext, this, S.ghid b hb]
  · obtain ⟨m, hm, hl⟩ := S.locs
    exact ⟨m, hm, fun x D e => let ⟨v, hv, hi⟩ := hl x D e; ⟨v, hv, hi.le l⟩⟩
  · obtain ⟨a1, a2, a3, o1, a4, a5⟩ := S.mus p hp
    exact ⟨by simp [PH.ext, h4 p hp, a1], a2, a3, o1, a4, a5.le l⟩
noncomputable def Kx.init (k : Kx) (C : Addr) (vs : List Value) : Kx := ⟨k.A.under (.builtin "type.__call__" ⟨.ref C :: vs, []⟩), k.env, k.envs⟩
theorem tcall_envs (C : Addr) (vs : List Value) : Code.envs (.builtin "type.__call__" ⟨.ref C :: vs, []⟩) = [] := rfl
theorem tcall_weight (C : Addr) (vs : List Value) : Code.weight (.builtin "type.__call__" ⟨.ref C :: vs, []⟩) = 1 := rfl
theorem tcall_units (C : Addr) (vs : List Value) : Code.cUnits (.builtin "type.__call__" ⟨.ref C :: vs, []⟩) = 1 := rfl
theorem Kx.Ok.init (hk : k.Ok) {C : Addr} {vs : List Value} : (k.init C vs).Ok where
  frames := by
    have : (k.init C vs).A.frames = pushEnvs (Code.envs (.builtin "type.__call__" ⟨.ref C :: vs, []⟩)) k.A.frames := rfl
    rw [this, tcall_envs]; exact hk.frames
  kind := hk.kind
  glob := hk.glob
  blt := hk.blt
  hand := hk.hand
theorem Room.init {n : Nat} (h : Room k.A (n + 1)) {C : Addr} {vs : List Value} : Room (k.init C vs).A n := by
  obtain ⟨a, b⟩ := h
  have h1 : (k.init C vs).A.depth = k.A.depth + Code.weight (.builtin "type.__call__" ⟨.ref C :: vs, []⟩) := rfl
  have h2 : (k.init C vs).A.units = k.A.units + Code.cUnits (.builtin "type.__call__" ⟨.ref C :: vs, []⟩) := rfl
  rw [tcall_weight] at h1
  rw [tcall_units] at h2
  exact ⟨by exact ar31 a h1, by exact ar32 b h2⟩
theorem acc_make (hG : G.Ok) {C fI : Addr} {Ds : List Dsc} (hm : makesIn G.K C = true) (hi : findIn G.K (.ref C) "__init__" = some (some (.ref fI))) (hf : typeIn G.K (.ref fI) = some (.type "function"))
    (h : ∀ dx vs, vs.length = Ds.length → ACc G pf (k.init C vs) ⟨σ.loc, (dx, .dct []) :: σ.mu⟩ (.ref fI) (.obj (instObj C dx) :: Ds) (fun σ' D => D = .d .none ∧ P σ' (.obj (instObj C dx))) F) : ACc G pf k σ (.ref C) Ds P F := by
  intro keep hid s g Rr vs hK S hv ok er
  obtain ⟨m, Fr', N, back⟩ := S.led hK
  refine W.make_K Fr' N (hG.X.keeps S.stays) hm hi hf fun x dx h' F' N' lt1 lt2 => ?_
  have gro := back h' F' fun p hp => (N' p (.tail _ (.tail _ hp))).1
  have S₁ := S.same (s' := { s with heap := h' }) hK gro
  have fresh : ∀ a o, (a, o) ∈ (x, instObj C dx) :: (dx, emptyDict) :: ((allObjs s.heap k.env.locals).filter fun p => (G.base.get? p.1).isNone) → dx ≤ a → s.heap.get? a = none := by
    intro a o hmem hle
    cases q : s.heap.get? a with
    | none => rfl
    | some o' =>
      exfalso
      obtain ⟨_, hL, hb⟩ := N' _ hmem
      have := lt1 (a, o') (List.mem_filter.mpr ⟨mem_allObjs.mpr ⟨hL, q⟩, by simp [hb]⟩)
      exact absurd this (Nat.not_lt.mpr hle)
  obtain ⟨d1, d2, d3, d4⟩ := S.newAt hK (fresh dx _ (.tail _ (.head _)) (Nat.le_refl _))
  obtain ⟨x1, x2, x3, x4⟩ := S.newAt hK (fresh x _ (.head _) (Nat.le_of_lt lt2))
  have S₂ := S₁.adopt (mo := .dct []) d1 d2 d3 d4 (N' _ (.tail _ (.head _))).1 ⟨[], 0, rfl, .nil⟩
  obtain ⟨S₃, le⟩ := S₂.adoptG hK x1 x2 x3 (fun p hp => by
    rcases List.mem_cons.mp hp with rfl | hp
    · exact Nat.ne_of_lt lt2
    · exact x4 p hp) (N' _ (.head _)).1
  have S₄ : Site G (k.init C vs) keep hid ⟨σ.loc, (dx, .dct []) :: σ.mu⟩ { s with heap := h' } (g.ext x (instObj C dx)) := S₃.re rfl rfl
  refine h dx vs hv.length keep hid _ _ (InitBack x Rr) (.ref x :: vs) (hK.re rfl rfl) S₄ (.cons ⟨x, rfl, PH.ext_self⟩ (hv.mono fun _ _ i => i.le le)) (fun σ' D v s' g' p l S' i => ?_) fun n e s' f y => ?_
  · obtain ⟨rfl, p⟩ := p
    obtain rfl := Dat.inv i
    exact ⟨rfl, ok σ' _ _ s' g' p (le.trans l) (S'.re rfl rfl) ⟨x, rfl, l _ _ PH.ext_self⟩⟩
  · exact er n e s' f ((y.re (k' := k) rfl rfl).le le)
structure PFx (G : Gl) (pf : Addr) : Prop where
  ff : (Ex3 fun smt fP fS => And3 (FaultF G.prog G.K pf smt fP fS) (findIn G.K (.ref pf) ("__init__" : Str) = some (some (.ref fP))) (typeIn G.K (.ref fP) = some (.type "function")))
  obj : ∃ nm q N bs bm hdct sn sub ab col dd k0 k1 k2 k3 k5, G.K.lookup pf = some (excClassObj nm q pf N bs bm hdct sn sub ab col dd k0 k1 k2 k3 k5 "Exception.__new__") ∧
    (Value.ref pf :: bm).contains (.type "Exception") = true ∧ (Value.ref pf :: bm).contains (.type "AttributeError") = false ∧ (Value.ref pf :: bm).contains (.type "NameError") = false
  base : mroIn G.K pf (.type "BaseException") = some true
  keep : keepIn G.K (.ref pf) = true
  ga : findIn G.K (.ref pf) ("__getattribute__" : Str) = some (some (.builtin "BaseException.__getattribute__"))
  gt : findIn G.K (.ref pf) ("__getattr__" : Str) = some none
  step : findIn G.K (.ref pf) ("step" : Str) = some none
theorem fault_new (hG : G.Ok) (pfx : PFx G pf) (room : Room k.A 3) {keep : PH} {hid : Addr → Prop} {s : Shared} {g : PH} (hK : Kp G k keep hid) (S : Site G k keep hid σ s g) {x : Str} {t : Tok} {n : Int} {u : Tok} {E : Value → Shared → Prop} {Q : Value → Shared → Prop}
    (h : ∀ e s' vs' d sl, s'.heap.get? e = some ⟨.ref pf, some d, .fields vs', sl⟩ → vs'[1]? = some .none → G.K.In s'.heap → FSite G pf k keep g n (.ref e) s' → Q (.ref e) s') : wpAny G.M k.A (call (.ref pf) [.str x t, .int n u]) Q E s := by
  obtain ⟨smt, fP, fS, FF, hi, hfP⟩ := pfx.ff
  obtain ⟨nm, q, N, bs, bm, hdct, sn, sub, ab, col, dd, k0, k1, k2, k3, k5, hC, c1, c2, c3⟩ := pfx.obj
  have st := S.stays
  have X := hG.X.keeps st
  obtain ⟨oI, hoI, hcI⟩ : ∃ oI, s.heap.get? fP = some oI ∧ oI.cls = .type "function" := by
    have ht : (G.K.lookup fP).map (·.cls) = some (.type "function") := hfP
    cases z : G.K.lookup fP with
    | none => rw [z] at ht; cases ht
    | some of => rw [z] at ht; exact ⟨of, X _ _ z, Option.some.inj ht⟩
  obtain ⟨hp, gn, dr, tk, os⟩ := s
  have bsz : G.base.objs.size ≤ hp.objs.size := Nat.le_trans hK.Lb (Nat.le_of_lt S.Llt)
  refine x_call PySem.F.excBase_Exception c1 c2 c3 (X _ _ hC) (fun h' hk Q q A E => Looks.at (looks_findIn (X.keeps hk) hi) q) hoI hcI (fun h' e hm => ?_) (by show 2 ≤ sizeLine; rw [sizeLine_eq]; decide)
  obtain ⟨tt, he, _, _⟩ := hm.there
  have st' : ∀ b o, G.base.get? b = some o → h'.get? b = some o := fun b o e => hm.keeps b o (st b o e)
  have he0 : G.base.get? e = none := by
    cases z : G.base.get? e with
    | none => rfl
    | some o => have := st _ _ z; rw [hm.new] at this; exact no_ns this
  have hL : k.env.locals < h'.objs.size := by
    obtain ⟨m, ⟨o, es, ep, h1, _⟩, _⟩ := S.locs
    exact Heap.lt_size (hm.keeps _ _ h1)
  obtain ⟨e1, e2, e3, e4⟩ := S.newAt hK hm.new
  refine wpAny_call (x_init_P (s := ⟨h', gn, dr, tk, os⟩) hG.X hG.T st' (Nat.le_trans hK.Lb (Nat.le_of_lt hL)) FF he he0 (by show 1 < 6; decide) ?_ fun h'' d vs' t1 t2 tk' hk hx hv hd hdd => ⟨rfl, ?_⟩)
  · obtain ⟨r1, _⟩ := room
    have : (k.A.under (.builtin "type.__call__" ⟨.ref pf :: [.str x t, .int n u], []⟩)).depth = k.A.depth + Code.weight (.builtin "type.__call__" ⟨.ref pf :: [.str x t, .int n u], []⟩) := rfl
    rw [tcall_weight] at this
    rw [this]
    show _ < 1000
    exact Nat.le_of_lt r1
  have hv' : vs'[1]? = some .none := hv
  have kk : ∀ b o, hp.get? b = some o → h''.get? b = some o := fun b o z => hk b o (fun q => by rw [q, hm.new] at z; exact no_ns z) (hm.keeps b o z)
  have hpd : hp.get? d = none := by
    cases z : hp.get? d with
    | none => rfl
    | some o => have := hm.keeps _ _ z; rw [hd] at this; exact no_ns this
  obtain ⟨d1, d2, d3, d4⟩ := S.newAt hK hpd
  refine h e _ vs' d _ hx hv' (hG.X.keeps fun b o z => kk b o (st b o z)) ⟨fun b o z => kk b o (S.gh b o z), S.kept.mono fun b o _ z => kk b o z, let ⟨m, hm, _⟩ := S.locs; ⟨m, hm.keeps kk⟩, S.gens, S.os, e, _, vs', d, _, x, rfl, e2, e1, d2, d1, d3, hx, rfl, rfl, rfl, hdd, ⟨_, _, rfl, .cons ⟨⟨_, rfl⟩, rfl, .str _ _⟩ (.cons ⟨⟨_, rfl⟩, rfl, .int _ _⟩ .nil)⟩, .inl hv'⟩
theorem ax_fault (hG : G.Ok) (hk : k.Ok) (pfx : PFx G pf) (room : Room k.A 3) {x : Str} {np cpos pos : Pos} {e₁ e₂ : Expr}
    (hx : k.env.kindOf x = some .globalImplicit) (hn : nsIn G.K mainGlobals x = some (some (.ref pf)))
    (h : AW G pf k σ (eval e₁ k.env) (fun σ₁ D₁ => (∃ x, D₁ = .d (.str x)) ∧ AW G pf k σ₁ (eval e₂ k.env) (fun σ₂ D₂ => ∃ n, D₂ = .d (.int n) ∧ F n) F) F)
    (hs₁ : starEach [e₁, e₂] k.env = (false, eval e₁ k.env) :: starEach [e₂] k.env := by rfl) (hs₂ : starEach [e₂] k.env = (false, eval e₂ k.env) :: starEach [] k.env := by rfl)
    (hp : (backTo cpos (starEach [e₁, e₂] k.env)).any (·.1) = false := by rfl) (hd : (x == ("__debug__" : Str)) = false := by decide) : AX G pf k σ (exec (.Raise (some (.Call (.Name x np) [e₁, e₂] [] cpos)) none pos) k.env) PX R F := by
  intro keep hid s g Q E hK S ok rt er
  rw [arm_exec_Raise]
  refine wpAny_bind (wpAny_standAt ?_)
  refine x_raiseStmt (C := pf) hk.hand ?_
  have h' : AW G pf k σ (eval (.Name x np) k.env) (fun σ₁ D => σ₁ = σ ∧ D = .v (.ref pf)) (fun _ => False) := aw_glob hG hk hx hn ⟨rfl, rfl⟩ hd
  show wpAny _ _ (eval (.Call (.Name x np) [e₁, e₂] [] cpos) k.env >>= fun v => standAt pos >>= fun _ => pure v) _ _ _
  refine wpAny_bind (wpAny_Call_NameR (h' keep hid s g _ E hK S (fun σ₀ D v s₀ g₀ h₀ l₀ S₀ i₀ => ?_) fun _ _ _ f => f.elim))
  obtain ⟨rfl, rfl⟩ := h₀
  cases i₀
  refine callWith_any hG (.own pfx.keep) hp ?_
  have key : AL G pf k σ₀ (spliced (backTo cpos (starEach [e₁, e₂] k.env))) (fun σ' Ds => ∃ y n, Ds = [.d (.str y), .d (.int n)] ∧ F n) F := by
    refine al_cons (h.mono (fun σ₁ D₁ ⟨⟨y, hy⟩, p⟩ => al_cons (p.mono (fun σ₂ D₂ ⟨n, hn, f⟩ => al_nil ⟨y, n, by rw [hy, hn], f⟩) fun _ x => x) hs₂) fun _ x => x) hs₁
  refine key keep hid s₀ g₀ _ E hK S₀ (fun σ' Ds vs s₁ g₁ p l₁ S₁ i₁ => ⟨S₁.stays, ?_⟩) fun n e s' f x => er n e s' f (x.le l₀)
  obtain ⟨y, n, rfl, hF⟩ := p
  obtain ⟨_, _, rfl, a, b⟩ := i₁.two
  obtain ⟨_, rfl⟩ := Dat.inv a
  obtain ⟨_, rfl⟩ := Dat.inv b
  refine fault_new hG pfx room hK S₁ fun e s' vs' d sl he hv X' x => ?_
  refine wpAny_bind (wpAny_standAt (wpAny_pure ⟨e, some d, vs', sl, rfl, he, hv, looks_mroIn X' pfx.base, ?_, er n _ _ hF (x.le (l₀.trans l₁))⟩))
  obtain ⟨nm, q, N, bs, bm, hdct, sn, sub, ab, col, dd, k0, k1, k2, k3, k5, hC, _⟩ := pfx.obj
  exact ⟨_, X' _ _ hC, rfl⟩
end
section
set_option linter.unusedVariables false
set_option maxRecDepth 100000
open PySem PySem.W PySem.Spec PySem.Calls PyProof.Rows PyProof.V
variable {G : Gl} {pf : Addr} {k : Kx}
variable {σ : St} {P : St → Dsc → Prop} {PB : St → Bool → Prop} {PL : St → List Dsc → Prop} {PX : St → Prop} {R : St → Dsc → Prop} {F F' : Int → Prop} {Pb : Bool → Prop}
noncomputable def Kx.mark (k : Kx) (e : Value) : Kx := ⟨k.A.mark (some e), k.env, k.envs⟩
theorem obj_is {o : Obj} {c : Value} {d : Option Addr} {x : Data} (h1 : o.cls = c) (h2 : o.dict = d) (h3 : o.data = x) : o = ⟨c, d, x, o.slots⟩ := by subst h1 h2 h3; rfl
theorem fault_caught (hG : G.Ok) (hk : k.Ok) (hF : k.Fun) (pfx : PFx G pf) {X n : Str} {xp p1 p2 p3 hpos : Pos}
    (hX : k.env.kindOf X = some .globalImplicit) (hXn : nsIn G.K mainGlobals X = some (some (.ref pf))) (hl : k.env.kindOf n = some .local) (hXd : (X == ("__debug__" : Str)) = false) (hnd : (n == ("__debug__" : Str)) = false)
    (hattr : eval (Expr.Attribute (.Name n p1) ("step" : Str) p2) k.env = (do let v ← eval (.Name n p1) k.env; standAt (Pos.atName p2); let r ← holding [v] (getAttr v ("step" : Str) true); letTemporaryGo (.Name n p1) v r; pure r))
    {keep : PH} {hid : Addr → Prop} {s s₀ : Shared} {g : PH} {i : Int} {e : Value} {Q : Flow → Shared → Prop} {E : Value → Shared → Prop} (hK : Kp G k keep hid) (S : Site G k keep hid σ s₀ g) (x : FSite G pf k keep g i e s)
    (h : ∀ s' u, Site G k keep hid ⟨[], []⟩ s' g → Q (.ret (.int i u)) s') :
    wpAny G.M k.A (handleBy e k.env [.ExceptHandler (some (.Name X xp)) (some n) [.Return (some (.Attribute (.Name n p1) ("step" : Str) p2)) p3] hpos]) Q E s := by
  obtain ⟨hp', gn, dr, tk, os'⟩ := s
  obtain ⟨gh, kp, ⟨m, hm⟩, gens, os, ea, oe, vs, dd, od, xx, rfl, b2, b3, b4, b5, b6, b7, b8, b9, b10, b11, b12, b13⟩ := id x
  have st : ∀ b o, G.base.get? b = some o → hp'.get? b = some o := fun b o z => gh b o (S.base b o z)
  have XK := hG.X.keeps st
  obtain ⟨smt, fP, fS, FF, _⟩ := pfx.ff
  obtain ⟨cd, EC, _⟩ := FF.cls
  have hp : (k.env.scope.kind == .class || (k.env.scope.kind == .module && k.env.locals != k.env.globals)) = false := by rw [hk.kind]; rfl
  obtain ⟨oC, hC, hCc, hCd⟩ : ∃ oC, hp'.get? pf = some oC ∧ oC.cls = .type "type" ∧ oC.data = .cls cd := by
    obtain ⟨nm, q, N, bs, bm, hdct, sn, sub, ab, col, dd, k0, k1, k2, k3, k5, hC, _⟩ := pfx.obj
    refine ⟨_, XK _ _ hC, rfl, ?_⟩
    have := EC.cls
    unfold clsIn at this
    rw [hC] at this
    exact congrArg Data.cls (Option.some.inj this)
  have bp : (Value.ref ea) ≠ byPass := by intro q; cases q
  refine wpAny_handleBy_cons (codeAny_handlers_test ?_) bp
  refine Name_function_global hk.kind hX (loadGlobal_global (by rw [hk.glob]; exact hG.T.g.keeps st) (mg_of hG.X hG.T.g hXn) ?_) hXd
  refine x_excMatches b7 b8 hC hCc hCd (looks_mroIn XK pfx.base) (looks_mroIn XK FF.subP) ?_
  dsimp only
  refine codeAny_handlers_suite_as ?_
  clear gh kp hm gens os b2 b3 b4 b5 b6 b7 b8 b9 b10 b11 b12 b13 hC hCc hCd XK st
  have x' : FSite G pf (k.mark (.ref ea)) keep g i (.ref ea) ⟨hp', gn, dr, tk, os'⟩ := x.re rfl rfl
  refine fault_flight (k := k.mark (.ref ea)) x' (.inl rfl) fun s₁ y _ _ => ?_
  have y : FSite G pf k keep g i (.ref ea) s₁ := y.re rfl rfl
  obtain ⟨gh, kp, ⟨m, hm⟩, gens, os, ea', oe, vs, dd, od, xx, he', b2, b3, b4, b5, b6, b7, b8, b9, b10, b11, b12, b13⟩ := y
  cases he'
  refine wpAny_storeName_local hl hm (fun h₂ hn₂ hs₂ => ?_) hp
  have eaL : ea ≠ k.env.locals := fun q => by
    obtain ⟨o, es, ep, q1, q2, q3⟩ := hm
    rw [q, q1] at b7; obtain rfl := Option.some.inj b7; rw [b10] at q2; exact no_df q2.symm
  have st₂ : ∀ b o, G.base.get? b = some o → h₂.get? b = some o := fun b o z => (hs₂.2 b fun q => by
    have := S.base b o z; rw [q, S.gL] at this; exact no_ns this).trans (gh b o (S.base b o z))
  refine wpAny_execs_cons (wpAny_Return_some (Attribute_any_ (wpAny_Name (wpAny_loadName_local hk.kind hl hn₂ (if_pos rfl) ?_) hnd) hattr))
  have hx₂ : h₂.get? ea = some oe := (hs₂.2 ea eaL).trans b7
  have hx₂ := hx₂.trans (congrArg some (obj_is b8 b9 b10))
  obtain ⟨es, nn, rfl, hall⟩ := b12
  have hd₂ : h₂.get? dd = some (dictOf es nn) := (hs₂.2 dd b6).trans b11
  obtain ⟨v, hv, hvi⟩ := (getL_of (x := ("step" : Str)) hall).1 (.d (.int i)) rfl
  cases hvi
  rename_i u
  refine x_getattr (hG.X.keeps st₂) hx₂ hd₂ pfx.ga pfx.gt pfx.step pfx.base EC.cls EC.dict hv rfl ?_
  dsimp only
  refine wpAny_nameGoes hl hn₂ hp fun h₃ m₃ hn₃ hs₃ => h _ u ?_
  have sb : ∀ b o, b ≠ k.env.locals → s₁.heap.get? b = some o → h₃.get? b = some o := fun b o hb z => (hs₃.2 b hb).trans ((hs₂.2 b hb).trans z)
  exact ⟨S.base, fun b o z => sb b o (fun q => by rw [q, S.gL] at z; exact no_ns z) (gh b o z), kp.mono fun b o hb z => sb b o (fun q => by obtain ⟨o', hb⟩ := hb; rw [q, hK.L] at hb; exact no_ns hb) z, S.ghid, S.gL, ⟨m₃, hn₃, fun x D z => by simp at z⟩, fun p hp => by simp at hp, List.nodup_nil, gens, os⟩
theorem ax_try (hG : G.Ok) (hk : k.Ok) (hF : k.Fun) (pfx : PFx G pf) {X n : Str} {xp p1 p2 p3 hpos pos : Pos} {body : List Stmt}
    (hX : k.env.kindOf X = some .globalImplicit) (hXn : nsIn G.K mainGlobals X = some (some (.ref pf))) (hl : k.env.kindOf n = some .local)
    (h : AX G pf k σ (execs body k.env) PX R F') (hr : ∀ i, F' i → R ⟨[], []⟩ (.d (.int i)))
    (hXd : (X == ("__debug__" : Str)) = false := by decide) (hnd : (n == ("__debug__" : Str)) = false := by decide)
    (hattr : eval (Expr.Attribute (.Name n p1) ("step" : Str) p2) k.env = (do let v ← eval (.Name n p1) k.env; standAt (Pos.atName p2); let r ← holding [v] (getAttr v ("step" : Str) true); letTemporaryGo (.Name n p1) v r; pure r) := by rfl) :
    AX G pf k σ (exec (.Try body [.ExceptHandler (some (.Name X xp)) (some n) [.Return (some (.Attribute (.Name n p1) ("step" : Str) p2)) p3] hpos] [] [] pos) k.env) PX R F := by
  intro keep hid s g Q E hK S ok rt er
  refine wpAny_Try_except (h keep hid s g _ _ hK S (fun σ' s' g' p l S' => wpAny_execs_nil (ok σ' s' g' p l S')) (fun σ' D v s' g' p l S' i => rt σ' D v s' g' p l S' i) fun i e s' f x => ?_)
  refine fault_noted hk hF hK (S.gfr hK) x fun s₁ ea he y _ => ?_
  subst he
  refine fault_flight y (.inl rfl) fun s₂ w _ _ => ?_
  exact fault_caught hG hk hF pfx hX hXn hl hXd hnd hattr hK S w fun s' u S' => rt _ (.d (.int i)) _ s' g (hr i f) .rfl S' (.int i u)
noncomputable def CellStart (g : PH) (cm : Str → Option Value) (cl : List (Str × Addr)) (p : Addr × MO) : Prop :=
  ∃ name, (name, p.1) ∈ cl ∧ cl.lookup name = some p.1 ∧ match p.2 with
    | .cell D => ∃ v, cm name = some v ∧ Is g v D
    | .cell0 => cm name = none
    | _ => False
theorem acc_defC (hG : G.Ok) (hk : k.Ok) {f : Addr} {q : Str} {ps : Arguments} {body : List Stmt} {sc : Scope} (hf : FnK G f q ps body sc) {n : Nat} (room : Room k.A (n + 1)) {own muIn : List (Addr × MO)} (hmu : σ.mu = own ++ muIn) {Ds : List Dsc} (names : List Str)
    (hb : ∀ name doc pm an cdv ct vs, vs.length = Ds.length → bindArgs (fnOf name q ps body sc .none .none doc pm an cdv ct) ⟨vs, []⟩ = pure (names.zip vs))
    (locs : List (Str × Dsc)) (cmu : Addr → List (Addr × MO))
    (hbinds : ∀ L x, x ∈ names → sc.names.lookup x = some .local ∨ (sc.names.lookup x = some .cell ∧ ((cellsFrom (L + 1) sc.names []).lookup x).isSome = true))
    (hl : ∀ g vs, All2 (Is g) vs Ds → ∀ x D, locs.lookup x = some D → ∃ v, bindL (fun y => sc.names.lookup y) (names.zip vs) (fun _ => none) x = some v ∧ Is g v D)
    (hc : ∀ L g vs, All2 (Is g) vs Ds → ∀ p ∈ cmu L, CellStart g (bindC (fun y => sc.names.lookup y) (names.zip vs) (fun _ => none)) (cellsFrom (L + 1) sc.names []) p)
    (hnd : ∀ L, ((cmu L).map (·.1)).Nodup) (hco : sc.isCoroutine = false) (hgen : sc.isGenerator = false) (hs : sc.kind = .function)
    (hbody : ∀ L cd, (k.call q sc L f cd (cellsFrom (L + 1) sc.names [])).Ok → (k.call q sc L f cd (cellsFrom (L + 1) sc.names [])).Fun → Room (k.call q sc L f cd (cellsFrom (L + 1) sc.names [])).A n →
      (∀ p ∈ muIn, p.1 < L) →
      AX G pf (k.call q sc L f cd (cellsFrom (L + 1) sc.names [])) ⟨locs, cmu L ++ muIn⟩ (execs body (k.call q sc L f cd (cellsFrom (L + 1) sc.names [])).env)
        (fun σ' => (Ex2 fun ext muOut => And3 (σ'.mu = ext ++ muOut) (muOut.map (·.1) = muIn.map (·.1)) (P ⟨σ.loc, own ++ muOut⟩ (.d .none))))
        (fun σ' D => (Ex2 fun ext muOut => And3 (σ'.mu = ext ++ muOut) (muOut.map (·.1) = muIn.map (·.1)) (P ⟨σ.loc, own ++ muOut⟩ D))) F) : ACc G pf k σ (.ref f) Ds P F := by
  intro keep hid s g Rr vs hK S hv ok er
  obtain ⟨loc, mu⟩ := σ
  dsimp only at hmu; subst hmu
  obtain ⟨name, doc, pm, an, cdv, ct, oc, od, osl, hlk, hcd⟩ := hf
  have hst := S.stays
  have hX := hG.X.keeps hst
  have C := calls_of hK S
  have hvl := hv.length
  refine codeAny_call_cells (fd := fnOf name q ps body sc .none .none doc pm an cdv ct) (body := body) (binds := names.zip vs) room.depth (hX _ _ hlk) rfl (hG.T.nolimit.keeps hst) (codeRec_of hX hcd) rfl
    (hb _ _ _ _ _ _ _ hvl) rfl (fun x hx => hbinds _ x.1 (List.of_mem_zip hx).1) (fun s₁ hin => ?_) hco hgen hs
  have hK' := call_kp hK S (q := q) (f := f) (cd := cdv) (cl := cellsFrom (s.heap.objs.size + 1) sc.names []) hs C (fun a h => h)
  obtain ⟨⟨h₀, tk, rfl⟩, hns, hkp, _⟩ := hin.toInCall
  dsimp only at hns hkp
  have hcell := hin.cell
  have habove := hin.above
  have S₀ : Site G (k.call q sc s.heap.objs.size f cdv (cellsFrom (s.heap.objs.size + 1) sc.names [])) (PH.without (muIn.map (·.1)) s.heap) (fun a => hid a ∨ a = k.env.locals ∨ a ∈ own.map (·.1)) ⟨locs, cmu s.heap.objs.size ++ muIn⟩ { s with heap := h₀, toks := tk } g := by
    have nol : ∀ a, s.heap.objs.size ≤ a → g a = none := fun a ha => by
      cases z : g a with
      | none => rfl
      | some o => exact absurd (Heap.lt_size (S.gh _ _ z)) (Nat.not_lt.mpr ha)
    have cabove : ∀ p ∈ cmu s.heap.objs.size, s.heap.objs.size < p.1 := fun p hp => by
      obtain ⟨nm, hm, _⟩ := hc s.heap.objs.size g vs hv p hp
      exact habove nm p.1 hm
    refine ⟨S.base, fun b o e => hkp b o (S.gh b o e), fun b o e => ?_, fun a ha => ?_, S.gfresh, ⟨_, hns, fun x D e => hl g vs hv x D e⟩, fun p hp => ?_, ?_, S.gens, S.os⟩
    · have h1 := hkp b o (C.sub b o e)
      by_cases hb : b ∈ (k.call q sc s.heap.objs.size f cdv (cellsFrom (s.heap.objs.size + 1) sc.names [])).fr
      · exact .inr ⟨hb, o.slots, h1⟩
      · exact .inl ⟨hb, h1⟩
    · rcases ha with h | rfl | h
      · exact S.ghid a h
      · exact S.gL
      · obtain ⟨p, hp, rfl⟩ := List.mem_map.mp h; exact (S.mus p (List.mem_append.mpr (.inl hp))).1
    · rcases List.mem_append.mp hp with hp | hp
      · have ca := cabove p hp
        obtain ⟨nm, hm, hlk, hcs⟩ := hc s.heap.objs.size g vs hv p hp
        have hce := hcell nm p.1 hlk
        refine ⟨nol _ (Nat.le_of_lt ca), ?_, Nat.ne_of_gt ca, ?_⟩
        · cases z : PH.without (muIn.map (·.1)) s.heap p.1 with
          | none => rfl
          | some o => exact absurd (Heap.lt_size (C.sub _ _ z)) (Nat.not_lt.mpr (Nat.le_of_lt ca))
        · obtain ⟨o, ho, hd⟩ := hce
          refine ⟨o, ho, ?_⟩
          obtain ⟨pa, pm⟩ := p
          dsimp only at hcs
          cases pm with
          | cell D =>
            obtain ⟨v, h1, h2⟩ := hcs
            exact ⟨v, by rw [hd]; exact congrArg Data.cell h1, h2⟩
          | cell0 => exact hd.trans (congrArg Data.cell hcs)
          | lst _ => exact hcs.elim
          | dct _ => exact hcs.elim
          | map _ => exact hcs.elim
      · obtain ⟨h1, h2, h3, o, h4, h5⟩ := S.mus p (List.mem_append.mpr (.inr hp))
        exact ⟨h1, C.inn p hp, Nat.ne_of_lt (Heap.lt_size h4), o, hkp _ _ h4, h5⟩
    · simp only [List.map_append]
      have := S.nodup
      simp only [List.map_append] at this
      refine List.nodup_append.mpr ⟨hnd _, (List.nodup_append.mp this).2.1, fun a ha b hb e => ?_⟩
      subst e
      obtain ⟨p, hp, rfl⟩ := List.mem_map.mp ha
      obtain ⟨p', hp', e⟩ := List.mem_map.mp hb
      obtain ⟨_, _, _, o, h4, _⟩ := S.mus p' (List.mem_append.mpr (.inr hp'))
      have := cabove p hp
      rw [← e] at this
      exact absurd (Heap.lt_size h4) (Nat.not_lt.mpr (Nat.le_of_lt this))
  refine hbody s.heap.objs.size cdv (hk.call hs) Kx.call_fun room.call (fun p hp => by
      obtain ⟨_, _, _, o, h4, _⟩ := S.mus p (List.mem_append.mpr (.inr hp)); exact Heap.lt_size h4) _ _ _ g _ _ hK' S₀ (fun σ' s' g' p l S' => ?_) (fun σ' D v s' g' p l S' i => ?_) fun n' e s' hn x => ?_
  · obtain ⟨ext, muOut, h1, h2, h3⟩ := p
    exact ok _ _ _ s' g' h3 l (call_back hK S fr_call C l S' h1 h2) .none
  · obtain ⟨ext, muOut, h1, h2, h3⟩ := p
    exact ok _ D v s' g' h3 l (call_back hK S fr_call C l S' h1 h2) i
  · refine fault_leave hk hK S hs C hK' (fun b o h1 h2 => ?_) x fun s'' y => er n' e s'' hn y
    unfold PH.without at h1
    by_cases hb : b ∈ muIn.map (·.1)
    · exact hb
    · rw [if_neg hb, h2] at h1; exact no_sn h1
noncomputable def AW1 (G : Gl) (pf : Addr) (k : Kx) (σ : St) (t : Sem Value) (P : St → Dsc → Prop) (F : Int → Prop) : Prop :=
  ∀ keep hid s g Q E, 1 ≤ s.toks → Kp G k keep hid → Site G k keep hid σ s g →
    (∀ σ' D v s' g', 1 ≤ s'.toks → P σ' D → Le g g' → Site G k keep hid σ' s' g' → Is g' v D → Q v s') →
    (∀ n e s', F n → FSite G pf k keep g n e s' → E e s') → wpAny G.M k.A t Q E s
noncomputable def AX1 (G : Gl) (pf : Addr) (k : Kx) (σ : St) (t : Sem Flow) (PX : St → Prop) (R : St → Dsc → Prop) (F : Int → Prop) : Prop :=
  ∀ keep hid s g Q E, 1 ≤ s.toks → Kp G k keep hid → Site G k keep hid σ s g →
    (∀ σ' s' g', 1 ≤ s'.toks → PX σ' → Le g g' → Site G k keep hid σ' s' g' → Q .next s') →
    (∀ σ' D v s' g', R σ' D → Le g g' → Site G k keep hid σ' s' g' → Is g' v D → Q (.ret v) s') →
    (∀ n e s', F n → FSite G pf k keep g n e s' → E e s') → wpAny G.M k.A t Q E s
theorem ax1_of {t : Sem Flow} (h : AX G pf k σ t PX R F) : AX1 G pf k σ t PX R F :=
  fun keep hid s g Q E tk hK S ok rt er => wpAny_with_toks tk (h keep hid s g _ _ hK S (fun σ' s' g' p l S' tk' => ok σ' s' g' tk' p l S') (fun σ' D v s' g' p l S' i _ => rt σ' D v s' g' p l S' i) fun n e s' f x _ => er n e s' f x)
theorem aw1_of {t : Sem Value} (h : AW G pf k σ t P F) : AW1 G pf k σ t P F :=
  fun keep hid s g Q E tk hK S ok er => wpAny_with_toks tk (h keep hid s g _ _ hK S (fun σ' D v s' g' p l S' i tk' => ok σ' D v s' g' tk' p l S' i) fun n e s' f x _ => er n e s' f x)
theorem ax1_cons {st : Stmt} {rest : List Stmt} (h : AX1 G pf k σ (exec st k.env) (fun σ' => AX1 G pf k σ' (execs rest k.env) PX R F) R F) : AX1 G pf k σ (execs (st :: rest) k.env) PX R F :=
  fun keep hid s g Q E tk hK S ok rt er => wpAny_execs_cons (h keep hid s g _ E tk hK S
    (fun σ' s' g' tk' p l S' => p keep hid s' g' Q E tk' hK S' (fun σ'' s'' g'' tk'' p' l' => ok σ'' s'' g'' tk'' p' (l.trans l')) (fun σ'' D v s'' g'' p' l' => rt σ'' D v s'' g'' p' (l.trans l')) fun n e s'' f x => er n e s'' f (x.le l))
    (fun σ' D v s' g' p l S' i => rt σ' D v s' g' p l S' i) er)
theorem ax1_for (hk : k.Ok) (hF : k.Fun) {t i : Expr} {body : List Stmt} {pos : Pos}
    (h : AW1 G pf k σ (eval i k.env) (fun σ' D => ∃ xs, ASrc G k σ' D xs ∧ AF G pf k t body PX R F xs σ') F)
    (hi : foldedSetIterable i k.env = pure := by rfl) (hgo : letOwnedTupleGo t = (fun _ _ => pure ()) := by rfl) : AX1 G pf k σ (exec (.For t i body [] pos) k.env) PX R F :=
  fun keep hid s g Q E tk hK S ok rt er => wpAny_with_toks tk (for_core hk hF hK S (h keep hid s g _ _ tk hK S (fun σ₁ D v s₁ g₁ _ h₁ l₁ S₁ i₁ => ⟨σ₁, D, g₁, h₁, l₁, S₁, i₁⟩) fun n e s' f x _ => er n e s' f x) (fun σ' s' g' p l S' tk' => ok σ' s' g' tk' p l S') (fun σ' D v s' g' p l S' i _ => rt σ' D v s' g' p l S' i) (fun n e s' f x _ => er n e s' f x) hi hgo)
theorem aw1_replace (hG : G.Ok) {o : Expr} {c₁ c₂ : Str} {u₁ u₂ : Nat} {q₁ q₂ apos pos : Pos} (hc : (c₁ == c₂) = false) (hz : c₂.length ≤ 14)
    (h : AW1 G pf k σ (eval o k.env) (fun σ₁ D => ∃ x, D = .d (.str x) ∧ x.length ≤ 1048576 ∧ P σ₁ (.d (.str (Txt.replace x c₁ c₂)))) F)
    (ha : attributeBase o ("replace" : Str) k.env (eval o k.env) = eval o k.env := by rfl)
    (hp : (((List.all (backTo pos (starEach [.Constant (.str c₁) u₁ q₁, .Constant (.str c₂) u₂ q₂] k.env)) fun x => !x.fst) && List.all (backToKw pos (keywordEach [] k.env)) fun x => Option.isSome x.fst) && decide ((List.length [Expr.Constant (.str c₁) u₁ q₁, .Constant (.str c₂) u₂ q₂] + List.length ([] : List Keyword) + if List.isEmpty ([] : List Keyword) = true then 0 else 1) < 30)) = true := by rfl)
    (hl : (apos.endLine == pos.line) = true := by rfl) (hp' : (backTo pos (starEach [.Constant (.str c₁) u₁ q₁, .Constant (.str c₂) u₂ q₂] k.env)).any (·.1) = false := by rfl) :
    AW1 G pf k σ (eval (.Call (.Attribute o ("replace" : Str) apos) [.Constant (.str c₁) u₁ q₁, .Constant (.str c₂) u₂ q₂] [] pos) k.env) P F := by
  intro keep hid s g Q E tk hK S ok er
  refine wpAny_with_toks tk ?_
  refine wpAny_Call_method ha hp hl PySem.F.plainAttrs_str PySem.F.slot_str_replace (by kernel_rfl) (h keep hid s g _ _ tk hK S (fun σ₁ D v s₁ g₁ tk₁ h₁ l₁ S₁ i₁ => ?_) fun n e s' f x _ => er n e s' f x)
  obtain ⟨x, rfl, hx, p⟩ := h₁
  obtain ⟨_, rfl⟩ := Dat.inv i₁
  refine ⟨rfl, (fun _ e => by cases e), callWith_any hG (.blt _) hp' ?_⟩
  show wpAny _ _ (spliced ((false, eval (.Constant (.str c₁) u₁ q₁) k.env) :: (false, eval (.Constant (.str c₂) u₂ q₂) k.env) :: backTo pos (starEach [] k.env))) _ _ _
  refine Calls.spliced_cons (wpAny_Constant_str (Calls.spliced_cons (wpAny_Constant_str (Calls.spliced_nil ⟨S₁.stays, ?_⟩))))
  refine SC.replaceW (by show s₁.toks ≠ 0; exact Nat.ne_of_gt tk₁) (by show s₁.toks + 1 ≠ 0; exact ar35) (by show s₁.toks ≠ s₁.toks + 1; exact ar36) hc hx hz fun t' k' tk' => ?_
  exact ok σ₁ _ _ _ g₁ tk' p l₁ S₁.tok (.str _ _)
theorem aw1_split (hG : G.Ok) {o : Expr} {apos pos : Pos} (h : AW1 G pf k σ (eval o k.env) (fun σ₁ D => ∃ x, D = .d (.str x) ∧ x.length + 2 ≤ sizeLine ∧ P σ₁ (.d (.lst ((Txt.words x).map PV.str)))) F)
    (ha : attributeBase o ("split" : Str) k.env (eval o k.env) = eval o k.env := by rfl)
    (hp : (((List.all (backTo pos (starEach [] k.env)) fun x => !x.fst) && List.all (backToKw pos (keywordEach [] k.env)) fun x => Option.isSome x.fst) && decide ((List.length ([] : List Expr) + List.length ([] : List Keyword) + if List.isEmpty ([] : List Keyword) = true then 0 else 1) < 30)) = true := by rfl)
    (hl : (apos.endLine == pos.line) = true := by rfl) : AW1 G pf k σ (eval (.Call (.Attribute o ("split" : Str) apos) [] [] pos) k.env) P F := by
  intro keep hid s g Q E tk hK S ok er
  refine wpAny_with_toks tk ?_
  refine wpAny_Call_method ha hp hl PySem.F.plainAttrs_str PySem.F.slot_str_split (by kernel_rfl) (h keep hid s g _ _ tk hK S (fun σ₁ D v s₁ g₁ tk₁ h₁ l₁ S₁ i₁ => ?_) fun n e s' f x _ => er n e s' f x)
  obtain ⟨x, rfl, hx, p⟩ := h₁
  have i₁' := i₁
  obtain ⟨_, rfl⟩ := Dat.inv i₁
  refine ⟨rfl, (fun _ e => by cases e), callWith_any hG (.blt _) rfl ?_⟩
  refine Calls.spliced_nil ⟨S₁.stays, ?_⟩
  exact (ac_split0 (P := fun σ' D => σ' = σ₁ ∧ D = .d (.lst ((Txt.words x).map PV.str))) (F := fun _ => False) (pf := pf) hx ⟨rfl, rfl⟩) keep hid s₁ g₁ _ _ _ hK S₁ (.cons i₁' .nil) (fun σ' D v s' g' ⟨e₁, e₂⟩ l' S' i' tk' => by subst e₁; subst e₂; exact ok σ' _ _ s' g' tk' p (l₁.trans l') S' i') fun _ _ _ f => f.elim
theorem acc_def1 (hG : G.Ok) (hk : k.Ok) {f : Addr} {q : Str} {ps : Arguments} {body : List Stmt} {sc : Scope} (hf : FnK G f q ps body sc) {n : Nat} (room : Room k.A (n + 1)) {own muIn : List (Addr × MO)} (hmu : σ.mu = own ++ muIn) {Ds : List Dsc} (names : List Str)
    (hb : ∀ name doc pm an cdv ct vs, vs.length = Ds.length → bindArgs (fnOf name q ps body sc .none .none doc pm an cdv ct) ⟨vs, []⟩ = pure (names.zip vs)) (hlen : names.length = Ds.length) (hpos : 0 < names.length)
    (hloc : (names.all fun x => decide (sc.names.lookup x = some .local)) = true) (hcell : (sc.names.all fun x => decide (x.2 ≠ .cell)) = true) (hco : sc.isCoroutine = false) (hgen : sc.isGenerator = false) (hs : sc.kind = .function)
    (hbody : ∀ L cd, (k.call q sc L f cd []).Ok → (k.call q sc L f cd []).Fun → Room (k.call q sc L f cd []).A n →
      AX1 G pf (k.call q sc L f cd []) ⟨(names.zip Ds).reverse, muIn⟩ (execs body (k.call q sc L f cd []).env)
        (fun σ' => (Ex2 fun ext muOut => And3 (σ'.mu = ext ++ muOut) (muOut.map (·.1) = muIn.map (·.1)) (P ⟨σ.loc, own ++ muOut⟩ (.d .none))))
        (fun σ' D => (Ex2 fun ext muOut => And3 (σ'.mu = ext ++ muOut) (muOut.map (·.1) = muIn.map (·.1)) (P ⟨σ.loc, own ++ muOut⟩ D))) F) : ACc G pf k σ (.ref f) Ds P F := by
  intro keep hid s g Rr vs hK S hv ok er
  obtain ⟨loc, mu⟩ := σ
  dsimp only at hmu; subst hmu
  obtain ⟨name, doc, pm, an, cdv, ct, oc, od, osl, hlk, hcd⟩ := hf
  have hst := S.stays
  have hX := hG.X.keeps hst
  have C := calls_of hK S
  have hvl := hv.length
  refine (codeAny_call_def (fd := fnOf name q ps body sc .none .none doc pm an cdv ct) (body := body) (binds := names.zip vs) room.depth (hX _ _ hlk) rfl (hG.T.nolimit.keeps hst) (codeRec_of hX hcd) rfl
    (BindsTo.of_eq (hb _ _ _ _ _ _ _ hvl)) (fun x hx => of_decide_eq_true (List.all_eq_true.mp hcell x hx)) (fun x hx => of_decide_eq_true (List.all_eq_true.mp hloc x.1 (List.of_mem_zip hx).1)) (fun h₀ hns hkp => ?_) hco hgen hs)
  have hK' := call_kp hK S (q := q) (f := f) (cd := cdv) (cl := []) hs C (fun a h => h)
  -- the callee's start
  have hLh : h₀.get? s.heap.objs.size ≠ none := fun z => by obtain ⟨o, es, ep, h1, _⟩ := hns; rw [h1] at z; exact no_sn z
  have S₀ : Site G (k.call q sc s.heap.objs.size f cdv []) (PH.without (muIn.map (·.1)) s.heap) (fun a => hid a ∨ a = k.env.locals ∨ a ∈ own.map (·.1)) ⟨(names.zip Ds).reverse, muIn⟩ { s with heap := h₀, toks := s.toks + (names.zip vs).length } g := by
    refine ⟨S.base, fun b o e => hkp b o (S.gh b o e), fun b o e => ?_, fun a ha => ?_, S.gfresh, ⟨_, hns, fun x D e => ?_⟩, fun p hp => ?_, ?_, S.gens, S.os⟩
    · have h1 := hkp b o (C.sub b o e)
      by_cases hb : b ∈ (k.call q sc s.heap.objs.size f cdv []).fr
      · exact .inr ⟨hb, o.slots, h1⟩
      · exact .inl ⟨hb, h1⟩
    · rcases ha with h | rfl | h
      · exact S.ghid a h
      · exact S.gL
      · obtain ⟨p, hp, rfl⟩ := List.mem_map.mp h; exact (S.mus p (List.mem_append.mpr (.inl hp))).1
    · exact all2_lookup (all2_zip (names := names) hv).rev x D e
    · obtain ⟨h1, h2, h3, o, h4, h5⟩ := S.mus p (List.mem_append.mpr (.inr hp))
      exact ⟨h1, C.inn p hp, Nat.ne_of_lt (Heap.lt_size h4), o, hkp _ _ h4, h5⟩
    · have := S.nodup
      simp only [List.map_append] at this
      exact (List.nodup_append.mp this).2.1
  have hkF : (k.call q sc s.heap.objs.size f cdv []).Ok := hk.call hs
  refine hbody s.heap.objs.size cdv hkF Kx.call_fun room.call _ _ _ g _ _ (by show 1 ≤ s.toks + (names.zip vs).length; rw [List.length_zip, hvl, ← hlen, Nat.min_self]; exact ar37 hpos) hK' S₀ (fun σ' s' g' _ p l S' => ?_) (fun σ' D v s' g' p l S' i => ?_) fun n' e s' hn x => ?_
  · obtain ⟨ext, muOut, h1, h2, h3⟩ := p
    exact ok _ _ _ s' g' h3 l (call_back hK S fr_call C l S' h1 h2) .none
  · obtain ⟨ext, muOut, h1, h2, h3⟩ := p
    exact ok _ D v s' g' h3 l (call_back hK S fr_call C l S' h1 h2) i
  · refine fault_leave hk hK S hs C hK' (fun b o h1 h2 => ?_) x fun s'' y => er n' e s'' hn y
    unfold PH.without at h1
    by_cases hb : b ∈ muIn.map (·.1)
    · exact hb
    · rw [if_neg hb, h2] at h1; exact no_sn h1
end
section
set_option linter.unusedVariables false
set_option maxRecDepth 100000
open PySem PySem.W PySem.Spec PySem.Calls PyProof.Rows PyProof.V
noncomputable def topB : List Stmt := PySem.Challenge.pw_nz0141_01.main.body
noncomputable def clsB (i : Nat) : List Stmt := match topB[i]? with | some (.ClassDef _ _ _ b _ _ _ _ _ _ _) => b | _ => []
noncomputable def fnB (b : List Stmt) (i : Nat) : List Stmt := match b[i]? with | some (.FunctionDef _ _ s _ _ _ _ _ _ _) => s | _ => []
noncomputable def fnA (b : List Stmt) (i : Nat) : Arguments := match b[i]? with | some (.FunctionDef _ a _ _ _ _ _ _ _ _) => a | _ => { posonlyargs := [], args := [], vararg := none, kwonlyargs := [], kw_defaults := [], kwarg := none, defaults := [] }
noncomputable def fnS (b : List Stmt) (i : Nat) : Scope := match b[i]? with | some (.FunctionDef _ _ _ _ _ _ s _ _ _) => s | _ => { kind := .function, names := [], isGenerator := false, isCoroutine := false }
noncomputable def fnN (b : List Stmt) (i : Nat) : Str := match b[i]? with | some (.FunctionDef n _ _ _ _ _ _ _ _ _) => n | _ => ""
noncomputable def fnTab : List (Addr × Nat) := [(86, 7), (220, 10), (225, 11), (230, 12), (237, 13), (244, 14), (251, 15), (260, 19), (265, 20), (270, 21), (275, 22), (280, 23), (287, 24), (294, 25), (299, 26), (306, 27), (311, 28), (318, 29), (323, 30), (328, 31), (335, 32), (340, 33), (347, 34)]
noncomputable def bltTab : List Str := ["len", "abs", "range", "str", "int", "tuple", "ord", "isinstance", "sorted", "set", "enumerate"]
noncomputable def rulesL : List Str := ["input", "define", "ite_term", "three", "bits", "congruence", "farkas", "branch", "divide", "cut", "resolve"]
noncomputable def putL14 : List Str := ["|", ";", "(", ")", "-", " ", "7", "0", "x", "\n", " step ", "name 3 1\n", "--", "| "]
noncomputable def metTab : List (Addr × Nat) := [(100, 0), (107, 1), (128, 4), (149, 7)]
structure Fx (G : Gl) (pf : Addr) : Prop where
  ok : G.Ok
  fn : ∀ p ∈ fnTab, FnK G p.1 (fnN topB p.2) (fnA topB p.2) (fnB topB p.2) (fnS topB p.2) ∧ nsIn G.K mainGlobals (fnN topB p.2) = some (some (.ref p.1)) ∧ keepIn G.K (.ref p.1) = true
  blt : ∀ x ∈ bltTab, nsIn G.K mainGlobals x = some none
  figs : ∃ t, nsIn G.K mainGlobals ("FIGURES" : Str) = some (some (.str ("0123456789" : Str) t))
  rules : ∃ v, nsIn G.K mainGlobals ("RULES" : Str) = some (some v) ∧ Dat (fun b => G.base.get? b) v (.tup (rulesL.map PV.str))
  lrules : ∃ v, nsIn G.K mainGlobals ("_law_rules" : Str) = some (some v) ∧ Dat (fun b => G.base.get? b) v (.tup (rulesL.map PV.str))
  lput : ∃ v, nsIn G.K mainGlobals ("_law_put" : Str) = some (some v) ∧ Dat (fun b => G.base.get? b) v (.tup (putL14.map PV.str))
  met : ∀ p ∈ metTab, FnK G p.1 (("Steps." : Str) ++ fnN (clsB 8) p.2) (fnA (clsB 8) p.2) (fnB (clsB 8) p.2) (fnS (clsB 8) p.2)
  mname : MethF G.K 213 ("name" : Str) 107
  msize : MethF G.K 213 ("size" : Str) 128
  madd : MethF G.K 213 ("add" : Str) 149
  get : ∀ x ∈ [("steps" : Str), "named", "empty"], GetF G.K 213 x ∧ SetF G.K 213 x
  make : makesIn G.K 213 = true ∧ findIn G.K (.ref 213) "__init__" = some (some (.ref 100)) ∧ typeIn G.K (.ref 100) = some (.type "function") ∧ keepIn G.K (.ref 213) = true ∧ nsIn G.K mainGlobals ("Proof" : Str) = some (some (.ref 213))
  pfn : nsIn G.K mainGlobals ("ProofFault" : Str) = some (some (.ref pf))
  pfx : PFx G pf
theorem Fx.k {G : Gl} {pf : Addr} (fx : Fx G pf) {a : Addr} {i : Nat} (hm : (a, i) ∈ fnTab) : FnK G a (fnN topB i) (fnA topB i) (fnB topB i) (fnS topB i) := (fx.fn (a, i) hm).1
section more
variable {G : Gl} {pf : Addr} {k : Kx}
variable {σ : St} {P : St → Dsc → Prop} {PB : St → Bool → Prop} {PL : St → List Dsc → Prop} {PX : St → Prop} {R : St → Dsc → Prop} {F F' : Int → Prop} {Pb : Bool → Prop}
theorem aw_neg {x : Expr} {pos : Pos} (h : AW G pf k σ (eval x k.env) (fun σ₁ D => ∃ a, D = .d (.int a) ∧ P σ₁ (.d (.int (-a)))) F) : AW G pf k σ (eval (.UnaryOp .USub x pos) k.env) P F := by
  intro keep hid s g Q E hK S ok er
  refine wpAny_UnaryOp (h keep hid s g _ E hK S (fun σ₁ D v s₁ g₁ h₁ l₁ S₁ i₁ => ?_) er)
  obtain ⟨a, rfl, p⟩ := h₁
  obtain ⟨_, rfl⟩ := Dat.inv i₁
  exact PyProof.Rows.neg_int (ok _ _ _ _ g₁ p l₁ S₁.tok (.int _ _))
theorem aw_m1 {u : Nat} {p pos : Pos} (h : P σ (.d (.int (-1)))) : AW G pf k σ (eval (.UnaryOp .USub (.Constant (.int 1) u p) pos) k.env) P F := aw_neg (aw_int ⟨1, rfl, h⟩)
theorem aw_fn (fx : Fx G pf) (hk : k.Ok) {a : Addr} {i : Nat} (hm : (a, i) ∈ fnTab) {id : Str} {p pos : Pos} {es : List Expr} (hid : id = fnN topB i) (hx : k.env.kindOf id = some .globalImplicit)
    (h : AL G pf k σ (spliced (backTo pos (starEach es k.env))) (fun σ₂ Ds => AC G pf k σ₂ (.ref a) Ds P F) F) (hd : (id == ("__debug__" : Str)) = false := by decide)
    (hp : (backTo pos (starEach es k.env)).any (·.1) = false := by rfl) : AW G pf k σ (eval (.Call (.Name id p) es [] pos) k.env) P F :=
  aw_call fx.ok (aw_glob fx.ok hk hx (hid ▸ (fx.fn (a, i) hm).2.1) ⟨_, rfl, .own (fx.fn (a, i) hm).2.2, h⟩ hd) hp
theorem aw_bl (fx : Fx G pf) (hk : k.Ok) {id : Str} {v : Value} (hm : id ∈ bltTab) (hv : bootBuiltins id = some v) (hc : Callee G v) {p pos : Pos} {es : List Expr} (hx : k.env.kindOf id = some .globalImplicit)
    (h : AL G pf k σ (spliced (backTo pos (starEach es k.env))) (fun σ₂ Ds => AC G pf k σ₂ v Ds P F) F) (hn : id ≠ "__name__" := by decide) (hd : (id == ("__debug__" : Str)) = false := by decide)
    (hp : (backTo pos (starEach es k.env)).any (·.1) = false := by rfl) : AW G pf k σ (eval (.Call (.Name id p) es [] pos) k.env) P F :=
  aw_call fx.ok (aw_blt fx.ok hk hx (fx.blt id hm) hv ⟨_, rfl, hc, h⟩ hn hd) hp
noncomputable def AllIn (big : List (Str × Dsc)) : List (Str × Dsc) → Prop
  | [] => True
  | (x, D) :: r => big.lookup x = some D ∧ AllIn big r
theorem AllIn.sub {big : List (Str × Dsc)} : ∀ {small : List (Str × Dsc)}, AllIn big small → ∀ x D, small.lookup x = some D → big.lookup x = some D
  | [], _, x, D, h => by simp at h
  | (y, D') :: r, ⟨a, b⟩, x, D, h => by
    rw [List.lookup_cons] at h
    cases q : x == y with
    | true => rw [q] at h; obtain rfl := Option.some.inj h; rw [eq_of_beq q]; exact a
    | false => rw [q] at h; exact b.sub x D h
theorem ax_nil_f {σ' : St} (hl : AllIn σ.loc σ'.loc) (hm : σ'.mu = σ.mu) (h : PX σ') : AX G pf k σ (execs [] k.env) PX R F :=
  fun keep hid s g Q E hK S ok _ _ => wpAny_execs_nil (ok σ' s g h .rfl (S.forget hl.sub (hm ▸ List.Sublist.refl _)))
theorem ax_forget' {t : Sem Flow} {σ' : St} (hl : AllIn σ.loc σ'.loc) (hm : σ'.mu = σ.mu) (h : AX G pf k σ' t PX R F) : AX G pf k σ t PX R F := ax_forget hl.sub (hm ▸ List.Sublist.refl _) h
theorem ax_nil_p {σ' : St} {mu₁ : List (Addr × MO)} (hl : AllIn σ.loc σ'.loc) (hp : σ.mu.Perm mu₁) (hm : σ'.mu.Sublist mu₁) (h : PX σ') : AX G pf k σ (execs [] k.env) PX R F :=
  fun keep hid s g Q E hK S ok _ _ => wpAny_execs_nil (ok σ' s g h .rfl ((S.perm hp).forget hl.sub hm))
theorem af_ind {α : Type} {t : Expr} {body : List Stmt} (f : α → PV) (Inv : List α → St → Prop) (hnil : ∀ σ, Inv [] σ → PX σ)
    (hcons : ∀ c cs σ, Inv (c :: cs) σ → AS G k σ t (.d (f c)) fun σ' => AX G pf k σ' (execs body k.env) (Inv cs) R F) : ∀ cs σ, Inv cs σ → AF G pf k t body PX R F (cs.map f) σ
  | [], σ, h => hnil σ h
  | c :: cs, σ, h => fun keep hid s g Q E v hK S i ok => hcons c cs σ h keep hid s g Q E v hK S i fun σ' s' g' p l S' => ok σ' s' g' (p.mono (fun σ'' q => af_ind f Inv hnil hcons cs σ'' q) (fun _ _ x => x) fun _ x => x) l S'
theorem acm_ind {α : Type} {elt t : Expr} {ifs : List Expr} {fin : St → List Dsc → Prop} (f : α → PV) (Inv : List α → St → List Dsc → Prop) (hnil : ∀ σ acc, Inv [] σ acc → fin σ acc)
    (hcons : ∀ c cs σ acc, Inv (c :: cs) σ acc → AS G k σ t (.d (f c)) fun σ' => AB G pf k σ' (tests ifs k.env) (fun σ'' b => if b = true then AW G pf k σ'' (eval elt k.env) (fun σ₃ D => Inv cs σ₃ (acc ++ [D])) (fun _ => False) else Inv cs σ'' acc) (fun _ => False)) :
    ∀ cs σ acc, Inv cs σ acc → ACm G pf k elt t ifs fin (cs.map f) σ acc
  | [], σ, acc, h => hnil σ acc h
  | c :: cs, σ, acc, h => fun keep hid s g Q E v hK S i ok => hcons c cs σ acc h keep hid s g Q E v hK S i fun σ' s' g' p l S' => ok σ' s' g' (fun keep hid s g Q E hK S ok er => p keep hid s g Q E hK S (fun σ'' b s'' g'' p' l' S'' => ok σ'' b s'' g'' (by
      cases b with
      | true => rw [if_pos rfl] at p' ⊢; exact p'.mono (fun σ₃ D q => acm_ind f Inv hnil hcons cs σ₃ _ q) fun _ x => x
      | false => rw [if_neg (by decide)] at p' ⊢; exact acm_ind f Inv hnil hcons cs σ'' _ p') l' S'') er) l S'
theorem acm_map {α : Type} {elt t : Expr} {ifs : List Expr} {fin : St → List Dsc → Prop} (f : α → PV) (b : α → Bool) (g : α → Dsc) (mu₀ : List (Addr × MO)) {all : List α}
    (hturn : ∀ c ∈ all, ∀ loc, AS G k ⟨loc, mu₀⟩ t (.d (f c)) fun σ' => AB G pf k σ' (tests ifs k.env) (fun σ'' b' => b' = b c ∧ σ''.mu = mu₀ ∧ (b c = true → AW G pf k σ'' (eval elt k.env) (fun σ₃ D => σ₃.mu = mu₀ ∧ D = g c) (fun _ => False))) (fun _ => False))
    (hfin : ∀ loc, fin ⟨loc, mu₀⟩ ((all.filter b).map g)) : ∀ loc, ACm G pf k elt t ifs fin (all.map f) ⟨loc, mu₀⟩ [] := by
  intro loc
  refine acm_ind f (fun cs σ acc => σ.mu = mu₀ ∧ acc ++ (cs.filter b).map g = (all.filter b).map g ∧ ∀ c ∈ cs, c ∈ all) ?_ ?_ all ⟨loc, mu₀⟩ [] ⟨rfl, by simp, fun _ h => h⟩
  · rintro ⟨loc, mu⟩ acc ⟨rfl, h, _⟩
    simp only [List.filter_nil, List.map_nil, List.append_nil] at h
    rw [h]; exact hfin loc
  · rintro c cs ⟨loc, mu⟩ acc ⟨rfl, h, hm⟩
    have h1 := hturn c (hm c (.head _)) loc
    intro keep hid s g' Q E v hK S i ok
    refine h1 keep hid s g' Q E v hK S i fun σ' s' g'' p l S' => ok σ' s' g'' (fun keep hid s g Q E hK S ok er => p keep hid s g Q E hK S (fun σ'' b' s'' g'' p' l' S'' => ok σ'' b' s'' g'' ?_ l' S'') er) l S'
    obtain ⟨rfl, e, p'⟩ := p'
    cases q : b c with
    | true =>
      first | refine ite_t ?_ | rw [if_pos rfl]
      refine (p' q).mono (fun σ₃ D ⟨e3, e4⟩ => ⟨e3, ?_, fun c' h' => hm c' (.tail _ h')⟩) fun _ x => x
      rw [← h, List.filter_cons, q]; simp [e4]
    | false =>
      first | refine ite_f ?_ | rw [if_neg (by decide)]
      refine ⟨e, ?_, fun c' h' => hm c' (.tail _ h')⟩
      rw [← h, List.filter_cons, q]; rfl
theorem eqb_str (a b : Str) : eqb (.str a) (.str b) = (a == b) := by
  rw [Bool.eq_iff_iff, eqb_iff]; simp
theorem eqb_comm (a b : PV) : eqb a b = eqb b a := by
  rw [Bool.eq_iff_iff, eqb_iff, eqb_iff]; exact eq_comm
noncomputable def Asc (x : Str) : Prop := ∀ c ∈ x.cps.toList, c < 128
theorem Asc.ok {x : Str} (h : Asc x) {n : Nat} : PVok n (.str x) := .str n x (by
  unfold PyData.strOk
  rw [Array.all_eq_true_iff_forall_mem]
  intro c hc
  have := h c (by simpa using hc)
  simp
  exact Nat.lt_of_lt_of_le this (by decide))
noncomputable def opt (o : Option Int) : PV := match o with | none => .none | some n => .int n
theorem aw_spec {t : Sem Value} (σ' : St) (D : Dsc) (h : AW G pf k σ t (fun σ₁ D₁ => σ₁ = σ' ∧ D₁ = D) F) (p : P σ' D) : AW G pf k σ t P F := h.mono (fun _ _ ⟨a, b⟩ => a ▸ b ▸ p) fun _ x => x
theorem aw_same {t : Sem Value} (D : Dsc) (h : AW G pf k σ t (fun σ₁ D₁ => σ₁ = σ ∧ D₁ = D) F) (p : P σ D) : AW G pf k σ t P F := aw_spec σ D h p
theorem fin0 {own : List (Addr × MO)} {D : Dsc} (h : P σ D) : (Ex2 fun ext muOut => And3 (own = ext ++ muOut) (muOut.map (·.1) = ([] : List (Addr × MO)).map (·.1)) (P ⟨σ.loc, σ.mu ++ muOut⟩ D)) := ⟨own, [], by simp, rfl, by simpa using h⟩
theorem aw_and2 {a b : Expr} {pos : Pos} (h : AW G pf k σ (eval a k.env) (fun σ₁ D => ∃ c, D = .d (.bool c) ∧ if c = true then AW G pf k σ₁ (eval b k.env) P F else P σ₁ (.d (.bool false))) F) : AW G pf k σ (eval (.BoolOp .And [a, b] pos) k.env) P F := by
  intro keep hid s g Q E hK S ok er
  refine BoolOp_and (h keep hid s g _ E hK S (fun σ₁ D v s₁ g₁ h₁ l₁ S₁ i₁ => ?_) er)
  obtain ⟨c, rfl, p⟩ := h₁
  obtain rfl := Dat.inv i₁
  refine wpAny_truthy_bool ?_
  cases c with
  | true =>
    rw [if_pos rfl] at p ⊢
    exact BoolOp_one (p keep hid s₁ g₁ Q E hK S₁ (fun σ' D v s' g' p l => ok σ' D v s' g' p (l₁.trans l)) fun n e s' f x => er n e s' f (x.le l₁))
  | false =>
    rw [if_neg (by decide)] at p ⊢
    exact ok _ _ _ s₁ g₁ p l₁ S₁ (.bool _)
theorem lenS {α : Type} {n : Nat} {vs : List α} (h : vs.length = n + 1) : ∃ a r, vs = a :: r ∧ r.length = n := by
  cases vs with
  | nil => cases h
  | cons a r => exact ⟨a, r, rfl, Nat.succ.inj h⟩
theorem len1 {α : Type} {vs : List α} (h : vs.length = 1) : ∃ a, vs = [a] := by obtain ⟨a, r, e, h'⟩ := lenS h; exact ⟨a, by rw [e, List.eq_nil_of_length_eq_zero h']⟩
theorem len2 {α : Type} {vs : List α} (h : vs.length = 2) : ∃ a b, vs = [a, b] := by obtain ⟨a, r, rfl, h'⟩ := lenS h; obtain ⟨b, rfl⟩ := len1 h'; exact ⟨a, b, rfl⟩
theorem len3 {α : Type} {vs : List α} (h : vs.length = 3) : ∃ a b c, vs = [a, b, c] := by obtain ⟨a, r, rfl, h'⟩ := lenS h; obtain ⟨b, c, rfl⟩ := len2 h'; exact ⟨a, b, c, rfl⟩
theorem len4 {α : Type} {vs : List α} (h : vs.length = 4) : (Ex4 fun a b c d => vs = [a, b, c, d]) := by obtain ⟨a, r, rfl, h'⟩ := lenS h; obtain ⟨b, c, d, rfl⟩ := len3 h'; exact ⟨a, b, c, d, rfl⟩
theorem len5 {α : Type} {vs : List α} (h : vs.length = 5) : Ex5 fun a b c d e => vs = [a, b, c, d, e] := by obtain ⟨a, r, rfl, h'⟩ := lenS h; obtain ⟨b, c, d, e, rfl⟩ := len4 h'; exact ⟨a, b, c, d, e, rfl⟩
theorem sl_eq : sizeLine = 16777216 := sizeLine_eq
end more
section
set_option cleanup.letToHave false
theorem ax_l1 {t : Sem Flow} (h : let s := σ; AX G pf k s t PX R F) : AX G pf k σ t PX R F := h
theorem ax_l2 {t : Sem Flow} (h : let P' := PX; let s := σ; AX G pf k s t P' R F) : AX G pf k σ t PX R F := h
theorem ax_l3 {t : Sem Flow} (h : let P' := PX; let R' := R; let s := σ; AX G pf k s t P' R' F) : AX G pf k σ t PX R F := h
theorem ax_l4 {ss : List Stmt} (h : let k' := k; let P' := PX; let R' := R; let s := σ; AX G pf k' s (execs ss k'.env) P' R' F) : AX G pf k σ (execs ss k.env) PX R F := h
end
end
section
set_option linter.unusedVariables false
set_option maxRecDepth 100000
open PySem PySem.W PySem.Spec PySem.Calls PyProof.Rows PyProof.V
variable {G : Gl} {pf : Addr} {k : Kx}
variable {σ : St} {P : St → Dsc → Prop} {PB : St → Bool → Prop} {PL : St → List Dsc → Prop} {PX : St → Prop} {R : St → Dsc → Prop} {F F' : Int → Prop} {Pb : Bool → Prop}
noncomputable def cutL (m : Str) : List Nat → List Str → Str → List Str
  | [], ds, d => ds ++ [d]
  | c :: cs, ds, d => if (⟨#[c]⟩ : Str) == m then cutL m cs (ds ++ [d]) Str.empty else cutL m cs ds (d ++ ⟨#[c]⟩)
noncomputable def cut (x m : Str) : List Str := cutL m x.cps.toList [] Str.empty
theorem cutL_len (m : Str) : ∀ cs ds d, (cutL m cs ds d).length ≤ ds.length + 1 + cs.length
  | [], ds, d => by simp [cutL]
  | c :: cs, ds, d => by
    unfold cutL
    split
    · have := cutL_len m cs (ds ++ [d]) Str.empty; simp at this ⊢; exact ar39 this
    · have := cutL_len m cs ds (d ++ ⟨#[c]⟩); simp at this ⊢; exact Nat.le_succ_of_le this
theorem str1_len (c : Nat) : (⟨#[c]⟩ : Str).length = 1 := rfl
theorem len_app (x y : Str) : (x ++ y).length = x.length + y.length := by
  show (x.cps ++ y.cps).size = _
  simp [Str.length]
theorem c_cut (fx : Fx G pf) (hk : k.Ok) {x m : Str} (hx : x.length ≤ 100000) (room : Room k.A 1) (h : P σ (.d (.lst ((cut x m).map PV.str)))) : AC G pf k σ (.ref 294) [.d (.str x), .d (.str m)] P F := by
  refine ac_def fx.ok hk (fx.k (a := 294) (i := 25) (by decide)) (n := 0) room (own := σ.mu) (muIn := []) (by simp) ["text", "mark"] (fun name doc pm an cdv ct vs hvs => ?_) rfl (by decide +kernel) (by decide +kernel) rfl rfl rfl fun L cd hk' hF' rm => ?_
  · obtain ⟨a, b, rfl⟩ := len2 hvs
    rfl
  have sl : sizeLine = 16777216 := sizeLine_eq
  (refine ax_l4 ?_; intro z1a z1b z1c z1d; refine ax_cons ?_; refine ax_asgn ?_)
  refine aw_list ?_
  (refine al_cons ?_; refine aw_str ?_; refine al_nil ?_)
  refine ⟨by show 1 ≤ sizeLine; exact ar41 sl, fun a => ?_⟩
  (refine an_loc (by assumption) rfl ?_; (try dsimp only); refine ax_l1 ?_; intro z3a; refine ax_cons ?_)
  refine ax_forget' (σ' := ⟨[("found", .m a), ("text", .d (.str x)), ("mark", .d (.str m))], [(a, .lst (([] ++ [Str.empty]).map fun y => .d (.str y)))]⟩) ⟨rfl, rfl, rfl, trivial⟩ rfl ?_
  refine ax_l1 ?_; intro z4a; refine ax_for hk' hF' (aw_loc hk' rfl rfl ⟨signs x, src_str hk', ?_⟩)
  refine af_ind (fun c => PV.str ⟨#[c]⟩) (fun cs σ' => (Ex2 fun ds d => And3 (cutL m cs ds d = cut x m) (ds.length + d.length + cs.length ≤ 100000) (σ' = ⟨[("found", .m a), ("text", .d (.str x)), ("mark", .d (.str m))], [(a, .lst ((ds ++ [d]).map fun y => .d (.str y)))]⟩))) ?_ ?_ x.cps.toList _ ⟨[], Str.empty, rfl, by simpa [Str.length, Str.empty] using hx, rfl⟩
  · rintro σ' ⟨ds, d, hc, hl, rfl⟩
    refine ax_cons ?_
    refine ax_ret ?_
    refine aw_freeze (aw_loc hk' rfl rfl ⟨a, (ds ++ [d]).map PV.str, [], rfl, by simp, [], [], rfl, rfl, ?_⟩)
    rw [show ds ++ [d] = cut x m from hc]
    simpa using h
  · rintro c cs σ' ⟨ds, d, hc, hl, rfl⟩
    simp only [List.length_cons] at hl
    (refine as_name ?_; refine an_loc (by assumption) rfl ?_; (try dsimp only); refine ax_cons ?_; refine ax_if ?_; refine ab_cmp ?_; refine aw_loc (by assumption) rfl rfl ?_; refine aw_loc (by assumption) rfl rfl ?_)
    refine ao_eqs ?_
    refine at_bool ?_
    unfold cutL at hc
    cases q : ((⟨#[c]⟩ : Str) == m) with
    | true =>
      rw [q] at hc
      first | refine ite_t ?_ | rw [if_pos rfl]
      refine ax_cons (ax_expr (aw_meth fx.ok PySem.F.plainAttrs_list PySem.F.slot_list_append (by kernel_rfl) (aw_loc hk' rfl rfl ⟨⟨rfl, _, .head _⟩, ?_⟩)))
      (refine al_cons ?_; refine aw_str ?_; refine al_nil ?_)
      refine ac_append .head (by simp; exact ar42 sl hl) ?_
      refine ax_nil_f (σ' := ⟨[("found", .m a), ("text", .d (.str x)), ("mark", .d (.str m))], _⟩) ⟨rfl, rfl, rfl, trivial⟩ rfl ?_
      refine ax_nil ?_
      exact ⟨ds ++ [d], Str.empty, by simpa using hc, by simp [Str.length, Str.empty]; exact ar43 hl, by simp [Str.empty]; rfl⟩
    | false =>
      rw [q] at hc
      first | refine ite_f ?_ | rw [if_neg (by decide)]
      (refine ax_cons ?_; refine ax_setitem ?_; refine aw_bin ?_; refine aw_sub ?_; refine aw_loc (by assumption) rfl rfl ?_; refine aw_m1 ?_)
      refine ao_last_m (Ds := ds.map fun y => .d (.str y)) (D := .d (.str d)) (by simp) (by simp; exact ar42 sl hl) ?_
      refine aw_loc (by assumption) rfl rfl ?_
      refine ao_adds (by rw [str1_len]; exact ar44 sl hl) ?_
      (refine aw_loc (by assumption) rfl rfl ?_; refine aw_m1 ?_)
      refine ai_last (Ds := ds.map fun y => .d (.str y)) (D := .d (.str d)) (mu' := [(a, .lst ((ds.map fun y => .d (.str y)) ++ [.d (.str (d ++ ⟨#[c]⟩))]))]) (by simpa using MuUp.head) ?_
      refine ax_nil_f (σ' := ⟨[("found", .m a), ("text", .d (.str x)), ("mark", .d (.str m))], _⟩) ⟨rfl, rfl, rfl, trivial⟩ rfl ?_
      refine ax_nil ?_
      exact ⟨ds, d ++ ⟨#[c]⟩, by simpa using hc, by rw [len_app, str1_len]; exact ar45 hl, by simp⟩
noncomputable def lwords (x : Str) : List Str := (cut x " ").filter fun y => y != Str.empty
theorem c_words (fx : Fx G pf) (hk : k.Ok) {x : Str} (hx : x.length ≤ 100000) (room : Room k.A 2) (h : P σ (.d (.lst ((lwords x).map PV.str)))) : AC G pf k σ (.ref 299) [.d (.str x)] P F := by
  refine ac_def fx.ok hk (fx.k (a := 299) (i := 26) (by decide)) (n := 1) room (own := σ.mu) (muIn := []) (by simp) ["text"] (fun name doc pm an cdv ct vs hvs => ?_) rfl (by decide +kernel) (by decide +kernel) rfl rfl rfl fun L cd hk' hF' rm => ?_
  · obtain ⟨a, rfl⟩ := len1 hvs; rfl
  have sl := sl_eq
  refine ax_cons ?_
  refine ax_ret ?_
  refine aw_freeze (aw_comp hk' (cl := []) rfl ?_)
  refine aw_fn fx hk' (a := 294) (i := 25) (by decide) rfl rfl ?_
  (refine al_cons ?_; refine aw_loc (by assumption) rfl rfl ?_; refine al_cons ?_; refine aw_str ?_; refine al_nil ?_)
  refine c_cut fx hk' hx rm ?_
  refine ⟨_, src_list hk', ?_, fun C hkC => ?_⟩
  · have := cutL_len " " x.cps.toList [] Str.empty
    simp only [List.length_map]
    unfold cut
    simp only [Str.length, List.length_nil, Array.length_toList] at this hx
    exact ar46 hx sl this
  refine acm_map PV.str (fun y => y != Str.empty) (fun y => .d (.str y)) [] (fun c _ loc => ?_) (fun loc => ?_) _
  · refine as_name ?_
    (refine an_loc (by assumption) rfl ?_; dsimp only)
    refine ab_tests_one ?_
    (refine ab_cmp ?_; refine aw_loc (by assumption) rfl rfl ?_; refine aw_str ?_)
    refine ao_nes ?_
    refine at_bool ?_
    refine ⟨rfl, rfl, fun _ => ?_⟩
    refine aw_loc (by assumption) rfl rfl ?_
    exact ⟨rfl, rfl⟩
  · refine ⟨[], [], rfl, rfl, fun a => ⟨a, (lwords x).map PV.str, [], rfl, ?_, [], [], rfl, rfl, ?_⟩⟩
    · simp [lwords]
    · simpa using h
noncomputable def isDig (c : Nat) : Bool := !decide ([c] < [48]) && !decide ([57] < [c])
noncomputable def lval : List Nat → Int → Option Int
  | [], a => some a
  | c :: cs, a => if isDig c then lval cs (10 * a + c - 48) else none
noncomputable def lbody (w : Str) : Str := if Txt.slice w none (some 1) == "-" then Txt.slice w (some 1) none else w
noncomputable def lnum (w : Str) : Option Int := (lval (lbody w).cps.toList 0).bind fun n => if w == "" || w == "-" then none else some (if Txt.item w 0 == "-" then 0 - n else n)
theorem c_number (fx : Fx G pf) (hk : k.Ok) {w : Str} (hx : w.length ≤ 100000) (ha : Asc w) (room : Room k.A 2) (h : P σ (.d (opt (lnum w)))) : AC G pf k σ (.ref 306) [.d (.str w)] P F := by
  refine ac_def fx.ok hk (fx.k (a := 306) (i := 27) (by decide)) (n := 1) room (own := σ.mu) (muIn := []) (by simp) ["word"] (fun name doc pm an cdv ct vs hvs => ?_) rfl (by decide +kernel) (by decide +kernel) rfl rfl rfl fun L cd hk' hF' rm => ?_
  · obtain ⟨a, rfl⟩ := len1 hvs; rfl
  have sl := sl_eq
  (refine ax_cons ?_; refine ax_asgn ?_; refine aw_int ?_; refine an_loc (by assumption) rfl ?_; dsimp only; refine ax_cons ?_)
  refine ax_for hk' hF' (aw_spec ⟨[("found", .d (.int 0)), ("word", .d (.str w))], []⟩ (.d (.str (lbody w))) ?_ ⟨_, src_str hk', ?_⟩)
  · (refine aw_ife ?_; refine ab_cmp ?_; refine aw_sslice ?_; refine aw_loc (by assumption) rfl rfl ?_; refine aw_pnone ?_; refine aw_psome ?_; refine aw_int ?_)
    refine ⟨w, none, some 1, rfl, rfl, rfl, by exact ar47 hx sl, ?_⟩
    refine aw_str ?_
    refine ao_eqs ?_
    refine at_bool ?_
    unfold lbody
    cases q : (Txt.slice w none (some 1) == ("-" : Str)) with
    | true =>
      rw [if_pos rfl, if_pos rfl]
      (refine aw_sslice ?_; refine aw_loc (by assumption) rfl rfl ?_; refine aw_psome ?_; refine aw_int ?_; refine aw_pnone ?_)
      exact ⟨w, some 1, none, rfl, rfl, rfl, by exact ar47 hx sl, rfl, rfl⟩
    | false =>
      rw [if_neg (by decide), if_neg (by decide)]
      refine aw_loc (by assumption) rfl rfl ?_
      exact ⟨rfl, rfl⟩
  refine af_ind (fun c => PV.str ⟨#[c]⟩) (fun cs σ' => ∃ a, lval cs a = lval (lbody w).cps.toList 0 ∧ σ' = ⟨[("found", .d (.int a)), ("word", .d (.str w))], []⟩) ?_ ?_ _ _ ⟨0, rfl, rfl⟩
  · rintro σ' ⟨a, hc, rfl⟩
    (refine ax_cons ?_; refine ax_if ?_; refine ab_cmp ?_; refine aw_loc (by assumption) rfl rfl ?_; refine aw_tuple ?_; refine al_cons ?_; refine aw_str ?_; refine al_cons ?_; refine aw_str ?_; refine al_nil ?_)
    refine ⟨[.str "", .str "-"], rfl, by show 2 ≤ sizeLine; exact ar48 sl, ?_⟩
    refine ao_in_tup (n := 0) (m := 0) ha.ok (.cons (.str _ _ (by decide +kernel)) (.cons (.str _ _ (by decide +kernel)) (.nil _))) (by have := rm.2; show _ < 9900; exact ar49 this) ?_
    refine at_bool ?_
    have e : ([PV.str "", PV.str "-"].any fun y => eqb y (.str w)) = (w == "" || w == "-") := by
      simp only [List.any_cons, List.any_nil, Bool.or_false, eqb_comm _ (PV.str w), eqb_str]
    rw [e]
    unfold lnum at h
    rw [← hc] at h
    simp only [lval, Option.bind_some] at h
    cases q2 : (w == "" || w == "-") with
    | true =>
      rw [q2] at h
      first | refine ite_t ?_ | rw [if_pos rfl]
      (refine ax_cons ?_; refine ax_ret ?_; refine aw_none ?_)
      exact fin0 (by simpa [opt] using h)
    | false =>
      rw [q2] at h
      first | refine ite_f ?_ | rw [if_neg (by decide)]
      refine ax_nil ?_
      (refine ax_cons ?_; refine ax_ret ?_; refine aw_ife ?_; refine ab_cmp ?_; refine aw_sub ?_; refine aw_loc (by assumption) rfl rfl ?_; refine aw_int ?_)
      have wne : 0 < w.length := by
        rcases Nat.eq_zero_or_pos w.length with z | z
        · exfalso
          have : w = "" := by
            obtain ⟨⟨l⟩⟩ := w
            simp [Str.length] at z
            subst z; rfl
          rw [this] at q2; revert q2; decide +kernel
        · exact z
      refine ao_item_str (by decide) (by exact ar50) (by exact ar51 wne) ?_
      refine aw_str ?_
      refine ao_eqs ?_
      refine at_bool ?_
      cases q3 : (Txt.item w 0 == ("-" : Str)) with
      | true =>
        rw [q3] at h
        first | refine ite_t ?_ | rw [if_pos rfl]
        (refine aw_bin ?_; refine aw_int ?_; refine aw_loc (by assumption) rfl rfl ?_)
        refine ao_sub ?_
        exact fin0 (by simpa [opt] using h)
      | false =>
        rw [q3] at h
        first | refine ite_f ?_ | rw [if_neg (by decide)]
        refine aw_loc (by assumption) rfl rfl ?_
        exact fin0 (by simpa [opt] using h)
  · rintro c cs σ' ⟨a, hc, rfl⟩
    (refine as_name ?_; refine an_loc (by assumption) rfl ?_; dsimp only; refine ax_cons ?_; refine ax_if ?_; refine ab_not ?_; refine ab_chain ?_; refine aw_str ?_; refine aw_loc (by assumption) rfl rfl ?_)
    refine ao_les ?_
    refine at_bool ?_
    rw [show lval (c :: cs) a = if isDig c then lval cs (10 * a + c - 48) else none from rfl] at hc
    unfold isDig at hc
    cases q : decide ([c] < [48]) with
    | true =>
      rw [q] at hc
      rw [show (!decide ((⟨#[c]⟩ : Str).cps.toList < ("0" : Str).cps.toList)) = false by rw [show (("0" : Str).cps.toList) = [48] by decide +kernel]; simp only [q]; rfl]
      first | refine ite_f ?_ | rw [if_neg (by decide)]
      simp only [Bool.not_true, Bool.false_and, Bool.false_eq_true, if_false] at hc
      rw [if_pos (by rfl)]
      (refine ax_cons ?_; refine ax_ret ?_; refine aw_none ?_)
      unfold lnum at h
      rw [← hc] at h
      exact fin0 (by simpa [opt] using h)
    | false =>
      rw [q] at hc
      rw [show (!decide ((⟨#[c]⟩ : Str).cps.toList < ("0" : Str).cps.toList)) = true by rw [show (("0" : Str).cps.toList) = [48] by decide +kernel]; simp only [q]; rfl]
      first | refine ite_t ?_ | rw [if_pos rfl]
      refine aw_str ?_
      refine ao_les ?_
      refine at_bool ?_
      have e2 : (("9" : Str).cps.toList) = [57] := by decide +kernel
      rw [e2]
      cases q2 : decide ([57] < [c]) with
      | true =>
        rw [q2] at hc
        rw [if_pos (by rfl)]
        simp only [Bool.not_true, Bool.and_false, Bool.false_eq_true, if_false] at hc
        (refine ax_cons ?_; refine ax_ret ?_; refine aw_none ?_)
        unfold lnum at h
        rw [← hc] at h
        exact fin0 (by simpa [opt] using h)
      | false =>
        rw [q2] at hc
        first | refine ite_f ?_ | rw [if_neg (by decide)]
        simp only [Bool.not_false, Bool.and_true, if_true] at hc
        refine ax_nil ?_
        (refine ax_cons ?_; refine ax_asgn ?_; refine aw_bin ?_; refine aw_bin ?_; refine aw_bin ?_; refine aw_int ?_; refine aw_loc (by assumption) rfl rfl ?_)
        refine ao_mul (IntMulOk.of_left (by decide)) ?_
        refine aw_bl fx hk' (v := .builtin "ord") (by decide) (by kernel_rfl) (.blt _) rfl ?_
        (refine al_cons ?_; refine aw_loc (by assumption) rfl rfl ?_; refine al_nil ?_)
        refine ac_ord ?_
        refine ao_add ?_
        refine aw_int ?_
        refine ao_sub ?_
        (refine an_loc (by assumption) rfl ?_; dsimp only)
        refine ax_nil_f (σ' := ⟨[("found", _), ("word", .d (.str w))], []⟩) ⟨rfl, rfl, trivial⟩ rfl ?_
        exact ⟨_, hc, rfl⟩
theorem app_cps (x : Str) (c : Nat) : (x ++ ⟨#[c]⟩ : Str).cps.toList = x.cps.toList ++ [c] := by
  show (x.cps ++ #[c]).toList = _
  simp
theorem cutL_all {p : Nat → Prop} (m : Str) : ∀ cs ds d, (∀ c ∈ cs, p c) → (∀ y ∈ ds, ∀ c ∈ y.cps.toList, p c) → (∀ c ∈ d.cps.toList, p c) → ∀ y ∈ cutL m cs ds d, ∀ c ∈ y.cps.toList, p c
  | [], ds, d, _, h2, h3, y, hy => by
    rcases List.mem_append.mp hy with h | h
    · exact h2 y h
    · rw [List.mem_singleton.mp h]; exact h3
  | c :: cs, ds, d, h1, h2, h3, y, hy => by
    unfold cutL at hy
    split at hy
    · refine cutL_all m cs _ _ (fun c h => h1 c (.tail _ h)) (fun y' hy' => ?_) (fun c h => by simp [Str.empty] at h) y hy
      rcases List.mem_append.mp hy' with h | h
      · exact h2 y' h
      · rw [List.mem_singleton.mp h]; exact h3
    · refine cutL_all m cs _ _ (fun c h => h1 c (.tail _ h)) h2 (fun c' h => ?_) y hy
      rw [app_cps] at h
      rcases List.mem_append.mp h with h | h
      · exact h3 c' h
      · rw [List.mem_singleton.mp h]; exact h1 c (.head _)
theorem cut_asc {x m : Str} (h : Asc x) : ∀ y ∈ cut x m, Asc y := cutL_all (p := (· < 128)) m _ _ _ h (fun y hy => by simp at hy) (fun c hc => by simp [Str.empty] at hc)
theorem cutL_each (m : Str) (n : Nat) : ∀ cs ds d, d.length + cs.length ≤ n → (∀ y ∈ ds, y.length ≤ n) → ∀ y ∈ cutL m cs ds d, y.length ≤ n
  | [], ds, d, h1, h2, y, hy => by
    rcases List.mem_append.mp hy with h | h
    · exact h2 y h
    · rw [List.mem_singleton.mp h]; simpa using h1
  | c :: cs, ds, d, h1, h2, y, hy => by
    simp only [List.length_cons] at h1
    unfold cutL at hy
    split at hy
    · refine cutL_each m n cs _ _ (by simp [Str.length, Str.empty]; exact ar52 h1) (fun y' hy' => ?_) y hy
      rcases List.mem_append.mp hy' with h | h
      · exact h2 y' h
      · rw [List.mem_singleton.mp h]; exact Nat.le_trans (Nat.le_add_right _ _) h1
    · exact cutL_each m n cs _ _ (by rw [len_app, str1_len]; exact Nat.le_trans (Nat.le_of_eq (Nat.add_right_comm _ _ _)) h1) h2 y hy
theorem cut_each {x m : Str} : ∀ y ∈ cut x m, y.length ≤ x.length := cutL_each m x.length _ _ _ (by simp [Str.length, Str.empty]) (fun y hy => by simp at hy)
theorem cut_len {x m : Str} : (cut x m).length ≤ x.length + 1 := by
  have := cutL_len m x.cps.toList [] Str.empty
  unfold cut
  simp only [Str.length, List.length_nil, Array.length_toList] at this ⊢
  exact ar55 this
theorem lwords_asc {x : Str} (h : Asc x) : ∀ y ∈ lwords x, Asc y := fun y hy => cut_asc h y (List.mem_filter.mp hy).1
theorem lwords_each {x : Str} : ∀ y ∈ lwords x, y.length ≤ x.length := fun y hy => cut_each y (List.mem_filter.mp hy).1
theorem lwords_len {x : Str} : (lwords x).length ≤ x.length + 1 := Nat.le_trans (List.length_filter_le _ _) cut_len
theorem oks_strs {n : Nat} : ∀ {l : List Str}, (∀ y ∈ l, Asc y) → PVoks n (l.map PV.str)
  | [], _ => .nil _
  | y :: r, h => .cons (h y (.head _)).ok (oks_strs fun y' h' => h y' (.tail _ h'))
theorem oks_opts {n : Nat} : ∀ {l : List (Option Int)}, PVoks n (l.map opt)
  | [] => .nil _
  | none :: r => .cons (.none _) oks_opts
  | some i :: r => .cons (.int _ _) oks_opts
theorem okd {n : Nat} : PVok n (.str "-") := .str _ _ (by decide +kernel)
theorem eqb_strs : ∀ (a b : List Str), eqb (.lst (a.map PV.str)) (.lst (b.map PV.str)) = (a == b) := by
  intro a b
  rw [Bool.eq_iff_iff, eqb_iff]
  constructor
  · intro h
    have h' : a.map PV.str = b.map PV.str := by injection h
    have : a = b := by
      clear h
      induction a generalizing b with
      | nil => cases b with | nil => rfl | cons _ _ => cases h'
      | cons x a ih =>
        cases b with
        | nil => cases h'
        | cons y b =>
          simp only [List.map_cons, List.cons.injEq, PV.str.injEq] at h'
          rw [h'.1, ih b h'.2]
    simp [this]
  · intro h; rw [eq_of_beq h]
noncomputable def lnumsF (x : Str) : List (Option Int) := if lwords x != [("-" : Str)] then (lwords x).map lnum else []
noncomputable def lnums (x : Str) : Option (List Int) := if (lnumsF x).contains none then none else some ((lnumsF x).filterMap id)
noncomputable def optL (o : Option (List Int)) : PV := match o with | none => .none | some l => .lst (l.map PV.int)
theorem any_none (l : List (Option Int)) : ((l.map opt).any fun y => eqb y .none) = l.contains none := by
  induction l with
  | nil => rfl
  | cons a r ih =>
    simp only [List.map_cons, List.any_cons, ih, List.contains_cons]
    cases a with
    | none => rw [show opt none = PV.none from rfl, eqb_self]; rfl
    | some i => rw [eqb_ne (show opt (some i) ≠ .none from fun h => by cases h)]; rfl
theorem opts_ints {l : List (Option Int)} (h : l.contains none = false) : l.map opt = (l.filterMap id).map PV.int := by
  induction l with
  | nil => rfl
  | cons a r ih =>
    rw [List.contains_cons, Bool.or_eq_false_iff] at h
    cases a with
    | none => simp at h
    | some i => simp [opt, ← ih h.2]
theorem c_numbers (fx : Fx G pf) (hk : k.Ok) {x : Str} (hx : x.length ≤ 100000) (ha : Asc x) (room : Room k.A 4) (h : P σ (.d (optL (lnums x)))) : AC G pf k σ (.ref 311) [.d (.str x)] P F := by
  refine ac_def fx.ok hk (fx.k (a := 311) (i := 28) (by decide)) (n := 3) room (own := σ.mu) (muIn := []) (by simp) ["part"] (fun name doc pm an cdv ct vs hvs => ?_) rfl (by decide +kernel) (by decide +kernel) rfl rfl rfl fun L cd hk' hF' rm => ?_
  · obtain ⟨a, rfl⟩ := len1 hvs; rfl
  have sl := sl_eq
  have un := rm.2
  (refine ax_cons ?_; refine ax_asgn ?_)
  refine aw_fn fx hk' (a := 299) (i := 26) (by decide) rfl rfl ?_
  (refine al_cons ?_; refine aw_loc (by assumption) rfl rfl ?_; refine al_nil ?_)
  refine c_words fx hk' hx (rm.less (by exact Nat.le_add_left _ _)) ?_
  (refine an_loc (by assumption) rfl ?_; dsimp only; refine ax_cons ?_; refine ax_asgn ?_)
  refine aw_spec ⟨[("words", .d (.lst ((lwords x).map PV.str))), ("part", .d (.str x))], []⟩ (.d (.lst ((lnumsF x).map opt))) ?_ ?_
  · (refine aw_ife ?_; refine ab_cmp ?_; refine aw_loc (by assumption) rfl rfl ?_)
    refine aw_listD ?_
    (refine al_cons ?_; refine aw_str ?_; refine al_nil ?_)
    refine ⟨[.str "-"], rfl, by show 1 ≤ sizeLine; exact ar41 sl, ?_⟩
    refine ao_ne (n := 1) (m := 1) (.lst (oks_strs (lwords_asc ha))) (.lst (.cons okd (.nil _))) (rm.less (by exact Nat.zero_le _)) (by show _ < 9900; exact ar58 un) ?_
    refine at_bool ?_
    rw [show PV.lst [PV.str "-"] = PV.lst ([("-" : Str)].map PV.str) from rfl, eqb_strs]
    unfold lnumsF
    cases q : (lwords x == [("-" : Str)]) with
    | true =>
      rw [if_neg (by decide), if_neg (by simp [bne, q])]
      refine aw_listD ?_
      refine al_nil ?_
      exact ⟨[], rfl, Nat.zero_le _, rfl, rfl⟩
    | false =>
      rw [if_pos (by rfl), if_pos (by simp [bne, q])]
      refine aw_freeze (aw_comp hk' (cl := []) rfl ?_)
      refine aw_loc (by assumption) rfl rfl ?_
      refine ⟨_, src_list hk', ?_, fun C hkC => ?_⟩
      · have := lwords_len (x := x); simp only [List.length_map]; exact ar59 hx sl this
      refine acm_map PV.str (fun y => true) (fun y => .d (opt (lnum y))) [] (fun c hc loc => ?_) (fun loc => ?_) _
      · refine as_name ?_
        (refine an_loc (by assumption) rfl ?_; dsimp only)
        refine ab_tests_nil ⟨rfl, rfl, fun _ => ?_⟩
        refine aw_fn fx hkC (a := 306) (i := 27) (by decide) rfl rfl ?_
        (refine al_cons ?_; refine aw_loc (by assumption) rfl rfl ?_; refine al_nil ?_)
        refine c_number fx hkC (Nat.le_trans (lwords_each c hc) hx) (lwords_asc ha c hc) (rm.less (by exact Nat.le_add_left _ _)) ⟨rfl, rfl⟩
      · refine ⟨[], [], rfl, rfl, fun a => ⟨a, ((lwords x).map lnum).map opt, [], rfl, ?_, rfl, rfl⟩⟩
        rw [List.filter_eq_self.mpr (fun _ _ => rfl)]
        simp [Function.comp_def]
  (refine an_loc (by assumption) rfl ?_; dsimp only; refine ax_cons ?_; refine ax_ret ?_; refine aw_ife ?_; refine ab_cmp ?_; refine aw_none ?_; refine aw_loc (by assumption) rfl rfl ?_)
  refine ao_in_list (n := 0) (m := 0) (.none _) oks_opts (by show (k.call (fnN topB 28) (fnS topB 28) L 311 cd []).A.units + 1 + 0 < 9900; exact ar60 un) ?_
  refine at_bool ?_
  rw [any_none]
  unfold lnums at h
  cases q : (lnumsF x).contains none with
  | true =>
    rw [q] at h
    first | refine ite_t ?_ | rw [if_pos rfl]
    refine aw_none ?_
    exact fin0 (by simpa [optL] using h)
  | false =>
    rw [q] at h
    first | refine ite_f ?_ | rw [if_neg (by decide)]
    refine aw_loc (by assumption) rfl rfl ?_
    refine fin0 ?_
    rw [opts_ints q]
    simpa [optL] using h
noncomputable def atom (w : Str) : PV := match lnum w with | none => .str w | some i => .int i
noncomputable def thg : Nat → Bool → List Str → List PV → Option (List PV × List Str)
  | 0, _, _, _ => none
  | _ + 1, b, [], acc => if b then none else some (acc, [])
  | n + 1, b, w :: r, acc => if w == (")" : Str) then (if b then some (acc, r) else none)
    else if w == ("(" : Str) then (match thg n true r [] with | none => none | some (ds, r') => thg n b r' (acc ++ [.tup ds]))
    else if w == ("-" : Str) then thg n b r (acc ++ [.none]) else thg n b r (acc ++ [atom w])
theorem thg_suf : ∀ n b r acc ds r', thg n b r acc = some (ds, r') → ∃ p, r = p ++ r'
  | 0, _, _, _, _, _, h => by cases h
  | n + 1, b, [], acc, ds, r', h => by
    unfold thg at h
    split at h
    · exact no_ns h
    · cases h; exact ⟨[], rfl⟩
  | n + 1, b, w :: r, acc, ds, r', h => by
    unfold thg at h
    split at h
    · split at h
      · cases h; exact ⟨[w], rfl⟩
      · exact no_ns h
    · split at h
      · split at h
        · exact no_ns h
        · rename_i ds' r'' e
          obtain ⟨p, rfl⟩ := thg_suf n _ _ _ _ _ e
          obtain ⟨p', rfl⟩ := thg_suf n _ _ _ _ _ h
          exact ⟨w :: (p ++ p'), by simp⟩
      · split at h
        · obtain ⟨p, rfl⟩ := thg_suf n _ _ _ _ _ h; exact ⟨w :: p, rfl⟩
        · obtain ⟨p, rfl⟩ := thg_suf n _ _ _ _ _ h; exact ⟨w :: p, rfl⟩
theorem thg_cons (n : Nat) (b : Bool) (w : Str) (r : List Str) (acc : List PV) : thg (n + 1) b (w :: r) acc = if w == (")" : Str) then (if b then some (acc, r) else none)
    else if w == ("(" : Str) then (match thg n true r [] with | none => none | some (ds, r') => thg n b r' (acc ++ [.tup ds]))
    else if w == ("-" : Str) then thg n b r (acc ++ [.none]) else thg n b r (acc ++ [atom w]) := rfl
theorem thg_nil (n : Nat) (b : Bool) (acc : List PV) : thg (n + 1) b [] acc = if b then none else some (acc, []) := rfl
theorem thg_fuel : ∀ (n m : Nat) (b : Bool) (r : List Str) (acc : List PV), r.length < n → r.length < m → thg n b r acc = thg m b r acc
  | 0, _, _, _, _, h, _ => absurd h (Nat.not_lt_zero _)
  | _, 0, _, _, _, _, h => absurd h (Nat.not_lt_zero _)
  | n + 1, m + 1, b, [], acc, _, _ => rfl
  | n + 1, m + 1, b, w :: r, acc, h1, h2 => by
    simp only [List.length_cons] at h1 h2
    rw [thg_cons, thg_cons, thg_fuel n m b r _ (by exact Nat.le_of_lt_succ h1) (by exact Nat.le_of_lt_succ h2), thg_fuel n m b r _ (by exact Nat.le_of_lt_succ h1) (by exact Nat.le_of_lt_succ h2), thg_fuel n m true r [] (by exact Nat.le_of_lt_succ h1) (by exact Nat.le_of_lt_succ h2)]
    split
    · rfl
    · split
      · split
        · rfl
        · rename_i e
          obtain ⟨p, rfl⟩ := thg_suf _ _ _ _ _ _ e
          simp only [List.length_append] at h1 h2
          exact thg_fuel n m b _ _ (by exact ar62 h1) (by exact ar62 h2)
      · rfl
noncomputable def opens (l : List Str) : Nat := (l.filter fun w => w == ("(" : Str)).length
noncomputable def resT (N : Nat) (o : Option (List PV × List Str)) : PV := match o with | none => .none | some (ds, r) => .tup [.lst ds, .int ((N - r.length : Nat) : Int)]
theorem thg_len : ∀ n b r acc ds r', thg n b r acc = some (ds, r') → ds.length ≤ acc.length + r.length
  | 0, _, _, _, _, _, h => by cases h
  | n + 1, b, [], acc, ds, r', h => by
    unfold thg at h
    split at h
    · exact no_ns h
    · cases h; simp
  | n + 1, b, w :: r, acc, ds, r', h => by
    unfold thg at h
    split at h
    · split at h
      · cases h; simp
      · exact no_ns h
    · split at h
      · split at h
        · exact no_ns h
        · rename_i ds' r'' e
          obtain ⟨p, rfl⟩ := thg_suf n _ _ _ _ _ e
          have := thg_len n _ _ _ _ _ h
          simp at this ⊢; exact ar63 this
      · split at h
        · have := thg_len n _ _ _ _ _ h; simp at this ⊢; exact ar64 this
        · have := thg_len n _ _ _ _ _ h; simp at this ⊢; exact ar64 this
theorem c_things (fx : Fx G pf) {ws : List Str} (hx : ws.length ≤ 100000) (hw : ∀ y ∈ ws, Asc y ∧ y.length ≤ 100000) : ∀ (n : Nat) {k : Kx} {σ : St} {P : St → Dsc → Prop} {F : Int → Prop} {at_ deep : Nat} {r : List Str}, k.Ok → r = ws.drop at_ → at_ ≤ ws.length → r.length < n → Room k.A (opens r + 4) →
    P σ (.d (resT ws.length (thg n (decide (0 < deep)) r []))) → AC G pf k σ (.ref 318) [.d (.lst (ws.map PV.str)), .d (.int at_), .d (.int deep)] P F := by
  intro n
  induction n with
  | zero => intro k σ P F at_ deep r _ _ _ h; exact absurd h (Nat.not_lt_zero _)
  | succ n ih =>
    intro k σ P F at_ deep r hk hr hat hn room h
    refine ac_def fx.ok hk (fx.k (a := 318) (i := 29) (by decide)) (n := opens r + 3) room (own := σ.mu) (muIn := []) (by simp) ["words", "at", "deep"] (fun name doc pm an cdv ct vs hvs => ?_) rfl (by decide +kernel) (by decide +kernel) rfl rfl rfl fun L cd hk' hF' rm => ?_
    · obtain ⟨a, b, c, rfl⟩ := len3 hvs; rfl
    have sl := sl_eq
    (refine ax_l4 ?_; intro z1a z1b z1c z1d; refine ax_cons ?_; refine ax_asgn ?_)
    refine aw_list (al_nil ⟨Nat.zero_le _, fun a => ?_⟩)
    (refine an_loc (by assumption) rfl ?_; (try dsimp only); refine ax_l1 ?_; intro z3a; refine ax_cons ?_)
    refine ax_forget' (σ' := ⟨[("found", .m a), ("words", .d (.lst (ws.map PV.str))), ("at", .d (.int at_)), ("deep", .d (.int deep))], [(a, .lst (([] : List PV).map Dsc.d))]⟩) ⟨rfl, rfl, rfl, rfl, trivial⟩ rfl ?_
    refine ax_while hk' hF' (fun m σ' => (Ex3 fun (at' : Nat) (r' : List Str) (acc : List PV) => And8 (r' = ws.drop at') (at' ≤ ws.length) (r'.length < m) (opens r' ≤ opens r) (acc.length + r'.length ≤ ws.length) (m ≤ n + 1) (thg m (decide (0 < deep)) r' acc = thg (n + 1) (decide (0 < deep)) r []) (σ' = ⟨[("found", .m a), ("words", .d (.lst (ws.map PV.str))), ("at", .d (.int at')), ("deep", .d (.int deep))], [(a, .lst (acc.map Dsc.d))]⟩))) (n + 1) ⟨at_, r, [], hr, hat, hn, Nat.le_refl _, by rw [hr]; simp, Nat.le_refl _, rfl, rfl⟩ ?_
    rintro m σ' ⟨at', r', acc, hr', hat', hm, hop, hacc, hmn, hth, rfl⟩
    (refine ab_cmp ?_; refine aw_loc (by assumption) rfl rfl ?_)
    refine aw_bl fx hk' (v := .builtin "len") (by decide) (by kernel_rfl) (.blt _) rfl ?_
    (refine al_cons ?_; refine aw_loc (by assumption) rfl rfl ?_; refine al_nil ?_)
    refine ac_lenl (by simp; exact Int.ofNat_lt.mpr (Nat.lt_of_le_of_lt hx (by decide))) ?_
    refine ao_lt ?_
    refine at_bool ?_
    rw [List.length_map]
    rw [← hth] at h
    obtain ⟨m, rfl⟩ : ∃ m', m = m' + 1 := ⟨m - 1, by exact ar66 hm⟩
    by_cases hlt : at' < ws.length
    · rw [decide_eq_true (show (at' : Int) < (ws.length : Int) by exact ar67 hlt), if_pos rfl]
      obtain ⟨w, hw0⟩ : ∃ w, ws[at']? = some w := ⟨ws[at'], by simp [hlt]⟩
      have hrr : r' = w :: ws.drop (at' + 1) := by
        rw [hr', List.drop_eq_getElem_cons hlt]
        rw [List.getElem?_eq_getElem hlt] at hw0
        obtain rfl := Option.some.inj hw0; rfl
      generalize hr2 : ws.drop (at' + 1) = r₂ at hrr
      subst hrr
      simp only [List.length_cons] at hm hacc
      have hwm : w ∈ ws := List.mem_of_getElem? hw0
      (refine ax_cons ?_; refine ax_asgn ?_; refine aw_sub ?_; refine aw_loc (by assumption) rfl rfl ?_; refine aw_loc (by assumption) rfl rfl ?_)
      refine ao_item_list (d := .str w) (by exact ar68) (by exact Int.ofNat_lt.mpr (Nat.lt_of_le_of_lt hat' (Nat.lt_of_le_of_lt hx (by decide)))) (by simpa using hw0) ?_
      (refine an_loc (by assumption) rfl ?_; (try dsimp only); refine ax_cons ?_; refine ax_asgn ?_; refine aw_bin ?_; refine aw_loc (by assumption) rfl rfl ?_; refine aw_int ?_)
      refine ao_add ?_
      (refine an_loc (by assumption) rfl ?_; (try dsimp only); refine ax_cons ?_; refine ax_if ?_; refine ab_cmp ?_; refine aw_loc (by assumption) rfl rfl ?_; refine aw_str ?_)
      refine ao_eqs ?_
      refine at_bool ?_
      rw [thg_cons] at h hth
      cases q1 : (w == (")" : Str)) with
      | true =>
        rw [q1] at h
        first | refine ite_t ?_ | rw [if_pos rfl]
        rw [if_pos rfl] at h
        (refine ax_cons ?_; refine ax_ret ?_; refine aw_ife ?_; refine ab_cmp ?_; refine aw_loc (by assumption) rfl rfl ?_; refine aw_int ?_)
        refine ao_gt ?_
        refine at_bool ?_
        by_cases hdp : 0 < deep
        · rw [decide_eq_true (show (0 : Int) < (deep : Int) by exact ar51 hdp), if_pos rfl]
          rw [decide_eq_true hdp, if_pos rfl] at h
          refine aw_tuple (al_cons (aw_freeze (aw_loc hk' rfl rfl ⟨a, acc, [], rfl, by simp, ?_⟩)))
          (refine al_cons ?_; refine aw_loc (by assumption) rfl rfl ?_; refine al_nil ?_)
          refine ⟨[.lst acc, .int (at' + 1)], rfl, by show 2 ≤ sizeLine; exact ar48 sl, ?_⟩
          refine fin0 ?_
          have e : ws.length - r₂.length = at' + 1 := by rw [← hr2]; simp; exact ar70 hlt
          simpa [resT, e] using h
        · rw [decide_eq_false (show ¬ (0 : Int) < (deep : Int) by exact ar71 hdp), if_neg (by decide)]
          rw [decide_eq_false hdp, if_neg (by decide)] at h
          refine aw_none ?_
          exact fin0 (by simpa [resT] using h)
      | false =>
        rw [q1] at h hth
        rw [if_neg (by decide)] at h hth
        first | refine ite_f ?_ | rw [if_neg (by decide)]
        refine ax_nil ?_
        (refine ax_l4 ?_; intro z12a z12b z12c z12d; refine ax_cons ?_; refine ax_if ?_; refine ab_cmp ?_; refine aw_loc (by assumption) rfl rfl ?_; refine aw_str ?_)
        refine ao_eqs ?_
        refine at_bool ?_
        have hop2 : opens r₂ ≤ opens (w :: r₂) := by
          unfold opens; rw [List.filter_cons]; split <;> simp
        cases q2 : (w == ("(" : Str)) with
        | true =>
          rw [q2] at h hth
          rw [if_pos rfl] at h hth
          first | refine ite_t ?_ | rw [if_pos rfl]
          have hop3 : opens r₂ + 1 = opens (w :: r₂) := by
            unfold opens; rw [List.filter_cons, q2]; simp
          refine ax_cons ?_
          refine ax_asgn ?_
          refine aw_fn fx hk' (a := 318) (i := 29) (by decide) rfl rfl ?_
          (refine al_cons ?_; refine aw_loc (by assumption) rfl rfl ?_; refine al_cons ?_; refine aw_loc (by assumption) rfl rfl ?_; refine al_cons ?_; refine aw_bin ?_; refine aw_loc (by assumption) rfl rfl ?_; refine aw_int ?_)
          refine ao_add ?_
          refine al_nil ?_
          have e1 : ((at' : Int) + 1) = ((at' + 1 : Nat) : Int) := by rfl
          have e2 : ((deep : Int) + 1) = ((deep + 1 : Nat) : Int) := by rfl
          rw [e1, e2]
          refine ih hk' hr2.symm (by exact hlt) (by exact ar74 hmn hm) (rm.less (by exact ar75 hop hop3)) ?_
          rw [show decide (0 < deep + 1) = true by simp, thg_fuel n m true r₂ [] (by exact ar74 hmn hm) (by exact Nat.le_of_lt_succ hm)]
          cases q3 : thg m true r₂ [] with
          | none =>
            rw [q3] at h
            rw [show resT ws.length none = PV.none from rfl]
            (refine an_loc (by assumption) rfl ?_; (try dsimp only); refine ax_cons ?_; refine ax_if ?_; refine ab_cmp ?_; refine aw_loc (by assumption) rfl rfl ?_; refine aw_none ?_)
            refine ao_is_none (at_bool ?_)
            first | refine ite_t ?_ | rw [if_pos rfl]
            (refine ax_cons ?_; refine ax_l2 ?_; intro z19a z19b; refine ax_ret ?_; refine aw_none ?_)
            exact fin0 (by simpa [resT] using h)
          | some pr =>
            obtain ⟨ds, r₃⟩ := pr
            rw [q3] at h hth
            dsimp only at h hth
            obtain ⟨pp, hpp⟩ := thg_suf _ _ _ _ _ _ q3
            have hlen3 : r₂.length = pp.length + r₃.length := by rw [hpp]; simp
            have hds := thg_len _ _ _ _ _ _ q3
            simp only [List.length_nil, Nat.zero_add] at hds
            have hdrop : ws.drop (ws.length - r₃.length) = r₃ := by
              have e : ws = ws.take (at' + 1) ++ (pp ++ r₃) := by rw [← hpp, ← hr2]; exact (List.take_append_drop _ _).symm
              have e3 : ws.length - r₃.length = (ws.take (at' + 1) ++ pp).length := by
                have := congrArg List.length e
                simp only [List.length_append] at this ⊢
                exact ar76 this
              have e' : ws = (ws.take (at' + 1) ++ pp) ++ r₃ := by rw [List.append_assoc]; exact e
              clear e
              generalize ws.take (at' + 1) ++ pp = A at e' e3
              rw [e3, e', List.drop_left]
            have hr2l : r₂.length = ws.length - (at' + 1) := by rw [← hr2]; simp
            have hop4 : opens r₃ ≤ opens r₂ := by
              unfold opens; rw [hpp, List.filter_append, List.length_append]; exact Nat.le_add_left _ _
            rw [show resT ws.length (some (ds, r₃)) = PV.tup [.lst ds, .int ((ws.length - r₃.length : Nat) : Int)] from rfl]
            (refine an_loc (by assumption) rfl ?_; (try dsimp only); refine ax_l1 ?_; intro z20a; refine ax_cons ?_; refine ax_if ?_; refine ab_cmp ?_; refine aw_loc (by assumption) rfl rfl ?_; refine aw_none ?_)
            refine ao_is_none (at_bool ?_)
            rw [if_neg (by simp)]
            refine ax_nil ?_
            refine ax_cons (ax_expr (aw_meth fx.ok PySem.F.plainAttrs_list PySem.F.slot_list_append (by kernel_rfl) (aw_loc hk' rfl rfl ⟨⟨rfl, _, .head _⟩, ?_⟩)))
            refine al_cons ?_
            refine aw_bl fx hk' (v := .type "tuple") (by decide) (by kernel_rfl) (.type _) rfl ?_
            (refine al_cons ?_; refine aw_sub ?_; refine aw_loc (by assumption) rfl rfl ?_; refine aw_int ?_)
            refine ao_item_tup (n := 0) (d := .lst ds) (by decide) (by decide) (by rfl) rfl ?_
            refine al_nil ?_
            refine ac_tuple (by exact ar78 hx sl hacc hds) ?_
            refine al_nil ?_
            refine ac_append .head (by simp; exact ar79 hx sl hacc) ?_
            (refine ax_cons ?_; refine ax_asgn ?_; refine aw_sub ?_; refine aw_loc (by assumption) rfl rfl ?_; refine aw_int ?_)
            refine ao_item_tup (n := 1) (d := .int ((ws.length - r₃.length : Nat) : Int)) (by decide) (by decide) (by rfl) rfl ?_
            (refine an_loc (by assumption) rfl ?_; (try dsimp only))
            refine ax_nil (ax_nil_f (σ' := ⟨[("found", .m a), ("words", .d (.lst (ws.map PV.str))), ("at", .d (.int ((ws.length - r₃.length : Nat) : Int))), ("deep", .d (.int deep))], _⟩) ⟨rfl, rfl, rfl, rfl, trivial⟩ rfl ?_)
            exact ⟨m, Nat.lt_succ_self _, ws.length - r₃.length, r₃, acc ++ [.tup ds], hdrop.symm, by exact Nat.sub_le _ _, by exact ar81 hm hlen3, by exact ar82 hop hop2 hop4, by simp; exact ar83 hacc hlen3, by exact Nat.le_of_lt hmn, hth, by simp⟩
        | false =>
          rw [q2] at h hth
          rw [if_neg (by decide)] at h hth
          first | refine ite_f ?_ | rw [if_neg (by decide)]
          (refine ax_cons ?_; refine ax_if ?_; refine ab_cmp ?_; refine aw_loc (by assumption) rfl rfl ?_; refine aw_str ?_)
          refine ao_eqs ?_
          refine at_bool ?_
          cases q3 : (w == ("-" : Str)) with
          | true =>
            rw [q3] at h hth
            rw [if_pos rfl] at h hth
            first | refine ite_t ?_ | rw [if_pos rfl]
            refine ax_cons (ax_expr (aw_meth fx.ok PySem.F.plainAttrs_list PySem.F.slot_list_append (by kernel_rfl) (aw_loc hk' rfl rfl ⟨⟨rfl, _, .head _⟩, ?_⟩)))
            (refine al_cons ?_; refine aw_none ?_; refine al_nil ?_)
            refine ac_append .head (by simp; exact ar79 hx sl hacc) ?_
            refine ax_nil (ax_nil ?_)
            refine ax_nil_f (σ' := ⟨[("found", .m a), ("words", .d (.lst (ws.map PV.str))), ("at", .d (.int ((at' + 1 : Nat) : Int))), ("deep", .d (.int deep))], _⟩) ⟨rfl, rfl, rfl, rfl, trivial⟩ rfl ?_
            exact ⟨m, Nat.lt_succ_self _, at' + 1, r₂, acc ++ [.none], hr2.symm, by exact hlt, by exact Nat.le_of_lt_succ hm, by exact Nat.le_trans hop2 hop, by simp; exact Nat.le_trans (Nat.le_of_eq (Nat.add_right_comm _ _ _)) hacc, by exact Nat.le_of_lt hmn, hth, by simp⟩
          | false =>
            rw [q3] at h hth
            rw [if_neg (by decide)] at h hth
            first | refine ite_f ?_ | rw [if_neg (by decide)]
            refine ax_cons (ax_expr (aw_meth fx.ok PySem.F.plainAttrs_list PySem.F.slot_list_append (by kernel_rfl) (aw_loc hk' rfl rfl ⟨⟨rfl, _, .head _⟩, ?_⟩)))
            refine al_cons ?_
            refine aw_spec ⟨put "at" (.d (.int ((at' : Int) + 1))) (put "here" (.d (.str w)) [("found", .m a), ("words", .d (.lst (ws.map PV.str))), ("at", .d (.int at')), ("deep", .d (.int deep))]), [(a, .lst (acc.map Dsc.d))]⟩ (.d (atom w)) ?_ ?_
            · refine aw_ife (ab_cmp ?_)
              refine aw_fn fx hk' (a := 306) (i := 27) (by decide) rfl rfl ?_
              (refine al_cons ?_; refine aw_loc (by assumption) rfl rfl ?_; refine al_nil ?_)
              refine c_number fx hk' (hw w hwm).2 (hw w hwm).1 (rm.less (by exact Nat.le_add_left _ _)) ?_
              refine aw_none ?_
              refine ao_is_none (at_bool ?_)
              unfold atom
              cases q4 : lnum w with
              | none =>
                rw [if_pos (by rfl)]
                refine aw_loc (by assumption) rfl rfl ?_
                exact ⟨rfl, rfl⟩
              | some i =>
                rw [if_neg (by simp [opt])]
                refine aw_fn fx hk' (a := 306) (i := 27) (by decide) rfl rfl ?_
                (refine al_cons ?_; refine aw_loc (by assumption) rfl rfl ?_; refine al_nil ?_)
                refine c_number fx hk' (hw w hwm).2 (hw w hwm).1 (rm.less (by exact Nat.le_add_left _ _)) ?_
                rw [q4]
                exact ⟨rfl, rfl⟩
            refine al_nil ?_
            refine ac_append .head (by simp; exact ar79 hx sl hacc) ?_
            refine ax_nil (ax_nil ?_)
            refine ax_nil_f (σ' := ⟨[("found", .m a), ("words", .d (.lst (ws.map PV.str))), ("at", .d (.int ((at' + 1 : Nat) : Int))), ("deep", .d (.int deep))], _⟩) ⟨rfl, rfl, rfl, rfl, trivial⟩ rfl ?_
            exact ⟨m, Nat.lt_succ_self _, at' + 1, r₂, acc ++ [atom w], hr2.symm, by exact hlt, by exact Nat.le_of_lt_succ hm, by exact Nat.le_trans hop2 hop, by simp; exact Nat.le_trans (Nat.le_of_eq (Nat.add_right_comm _ _ _)) hacc, by exact Nat.le_of_lt hmn, hth, by simp⟩
    · have hr0 : r' = [] := by rw [hr']; exact List.drop_eq_nil_of_le (by exact ar87 hlt)
      subst hr0
      rw [thg_nil] at h
      rw [decide_eq_false (show ¬ (at' : Int) < (ws.length : Int) by exact ar88 hlt), if_neg (by decide)]
      (refine ax_cons ?_; refine ax_ret ?_; refine aw_ife ?_; refine ab_cmp ?_; refine aw_loc (by assumption) rfl rfl ?_; refine aw_int ?_)
      refine ao_eqi ?_
      refine at_bool ?_
      by_cases hdp : 0 < deep
      · rw [decide_eq_true hdp, if_pos rfl] at h
        rw [show ((deep : Int) == 0) = false by simp; exact Nat.ne_of_gt hdp, if_neg (by decide)]
        refine aw_none ?_
        exact fin0 (by simpa [resT] using h)
      · rw [decide_eq_false hdp, if_neg (by decide)] at h
        rw [show ((deep : Int) == 0) = true by simp; exact ar90 hdp, if_pos rfl]
        refine aw_tuple (al_cons (aw_freeze (aw_loc hk' rfl rfl ⟨a, acc, [], rfl, by simp, ?_⟩)))
        (refine al_cons ?_; refine aw_loc (by assumption) rfl rfl ?_; refine al_nil ?_)
        refine ⟨[.lst acc, .int at'], rfl, by show 2 ≤ sizeLine; exact ar48 sl, ?_⟩
        refine fin0 ?_
        have e : ws.length = at' := by exact ar91 hat' hlt
        simpa [resT, e] using h
noncomputable def isParen (c : Nat) : Bool := !List.isEmpty (Builtin.Str.occurrences ("()" : Str) ⟨#[c]⟩ 0 ("()" : Str).length 1)
noncomputable def spell (c : Nat) : Str := if isParen c then (" " : Str) ++ ⟨#[c]⟩ ++ (" " : Str) else ⟨#[c]⟩
noncomputable def spaced (x : Str) : Str := Txt.join "" (x.cps.toList.map spell)
noncomputable def nread (x : Str) : List PV := match thg ((lwords (spaced x)).length + 1) false (lwords (spaced x)) [] with
  | some (ds, _) => if (ds.length : Int) == 1 then ds else []
  | none => []
theorem spell_len (c : Nat) : (spell c).length ≤ 3 := by
  unfold spell; split
  · rw [len_app, len_app]; exact Nat.le_refl 3
  · exact (by decide : 1 ≤ 3)
theorem sum_le {l : List Str} {n : Nat} (h : ∀ y ∈ l, y.length ≤ n) : (l.map (·.length)).sum ≤ n * l.length := by
  induction l with
  | nil => simp
  | cons a r ih =>
    have h1 := ih fun y hy => h y (.tail _ hy)
    have h2 := h a (.head _)
    simp only [List.map_cons, List.sum_cons, List.length_cons, Nat.mul_add]
    exact ar92 h1 h2
theorem c_note_read (fx : Fx G pf) (hk : k.Ok) {x : Str} (hx : x.length ≤ 30000) (hsp : Asc (spaced x)) (hsl : (spaced x).length ≤ 100000 - 1) (room : Room k.A (opens (lwords (spaced x)) + 6)) (h : P σ (.d (.lst (nread x)))) : AC G pf k σ (.ref 323) [.d (.str x)] P F := by
  refine ac_def fx.ok hk (fx.k (a := 323) (i := 30) (by decide)) (n := opens (lwords (spaced x)) + 5) room (own := σ.mu) (muIn := []) (by simp) ["part"] (fun name doc pm an cdv ct vs hvs => ?_) rfl (by decide +kernel) (by decide +kernel) rfl rfl rfl fun L cd hk' hF' rm => ?_
  · obtain ⟨a, rfl⟩ := len1 hvs; rfl
  have sl := sl_eq
  have un := rm.2
  have lw := lwords_len (x := spaced x)
  (refine ax_l4 ?_; intro z1a z1b z1c z1d; refine ax_cons ?_; refine ax_asgn ?_)
  refine aw_meth fx.ok PySem.F.plainAttrs_str PySem.F.slot_str_join (by kernel_rfl) (aw_str ⟨rfl, ?_⟩)
  refine al_cons (aw_freeze (aw_comp hk' (cl := []) rfl ?_))
  refine aw_loc (by assumption) rfl rfl ?_
  refine ⟨_, src_str hk', ?_, fun C hkC => ?_⟩
  · simp only [signs, List.length_map, Array.length_toList]; show x.length ≤ _; exact ar93 hx sl
  refine acm_map (fun c => PV.str ⟨#[c]⟩) (fun y => true) (fun c => .d (.str (spell c))) [] (fun c hc loc => ?_) (fun loc => ?_) _
  · refine as_name ?_
    (refine an_loc (by assumption) rfl ?_; (try dsimp only))
    refine ab_tests_nil ⟨rfl, rfl, fun _ => ?_⟩
    (refine aw_ife ?_; refine ab_cmp ?_; refine aw_loc (by assumption) rfl rfl ?_; refine aw_str ?_)
    refine ao_ins (at_bool ?_)
    unfold spell isParen
    cases q : (!List.isEmpty (Builtin.Str.occurrences ("()" : Str) ⟨#[c]⟩ 0 ("()" : Str).length 1)) with
    | true =>
      first | refine ite_t ?_ | rw [if_pos rfl]
      (refine aw_bin ?_; refine aw_bin ?_; refine aw_str ?_; refine aw_loc (by assumption) rfl rfl ?_)
      refine ao_adds (by rw [sl]; exact (by decide : 2 ≤ 16777216)) ?_
      refine aw_str ?_
      exact ao_adds (by rw [sl, len_app]; exact (by decide : 3 ≤ 16777216)) ⟨rfl, rfl⟩
    | false =>
      first | refine ite_f ?_ | rw [if_neg (by decide)]
      refine aw_loc (by assumption) rfl rfl ?_
      exact ⟨rfl, rfl⟩
  refine ⟨[], [], rfl, rfl, fun a => ⟨a, (x.cps.toList.map spell).map PV.str, [], rfl, ?_, ?_⟩⟩
  · rw [List.filter_eq_self.mpr (fun _ _ => rfl)]
    simp [Function.comp_def]
  refine al_nil ?_
  refine ac_join (by decide) ?_ ?_
  · have := sum_le (l := x.cps.toList.map spell) (n := 3) (fun y hy => by obtain ⟨c, _, rfl⟩ := List.mem_map.mp hy; exact spell_len c)
    simp only [List.length_map, Array.length_toList] at this ⊢
    have hx' : x.cps.size ≤ 30000 := hx
    exact ar94 this hx'
  show AN _ _ _ _ (.d (.str (spaced x))) _
  (refine an_loc (by assumption) rfl ?_; (try dsimp only); refine ax_cons ?_; refine ax_asgn ?_)
  refine aw_fn fx hk' (a := 318) (i := 29) (by decide) rfl rfl ?_
  refine al_cons (aw_fn fx hk' (a := 299) (i := 26) (by decide) rfl rfl ?_)
  (refine al_cons ?_; refine aw_loc (by assumption) rfl rfl ?_; refine al_nil ?_)
  refine c_words fx hk' (by exact Nat.le_succ_of_le hsl) (rm.less (by exact Nat.le_add_left _ _)) ?_
  (refine al_cons ?_; refine aw_int ?_; refine al_cons ?_; refine aw_int ?_; refine al_nil ?_)
  refine c_things fx (by exact Nat.le_trans lw (Nat.le_trans (Nat.add_le_add_right hsl _) (by decide))) (fun y hy => ⟨lwords_asc hsp y hy, Nat.le_trans (lwords_each y hy) (by exact Nat.le_succ_of_le hsl)⟩) ((lwords (spaced x)).length + 1) (at_ := 0) (deep := 0) (r := lwords (spaced x)) hk' rfl (Nat.zero_le _) (Nat.lt_succ_self _) (rm.less (by exact ar98)) ?_
  rw [show decide (0 < 0) = false by decide]
  unfold nread at h
  cases q : thg ((lwords (spaced x)).length + 1) false (lwords (spaced x)) [] with
  | none =>
    rw [q] at h
    rw [show ∀ N, resT N none = PV.none from fun _ => rfl]
    (refine an_loc (by assumption) rfl ?_; (try dsimp only); refine ax_cons ?_; refine ax_ret ?_; refine aw_ife ?_; refine ab_bool ?_; refine ab_and ?_; refine ab_cmp ?_; refine aw_loc (by assumption) rfl rfl ?_; refine aw_none ?_)
    refine ao_isnot_none (at_bool ?_)
    rw [if_neg (by decide), if_neg (by decide)]
    refine aw_listD (al_nil ?_)
    refine ⟨[], rfl, Nat.zero_le _, ?_⟩
    refine fin0 (P := P) (σ := σ) ?_
    simpa using h
  | some pr =>
    obtain ⟨ds, r⟩ := pr
    rw [q] at h
    dsimp only at h
    have hds := thg_len _ _ _ _ _ _ q
    simp only [List.length_nil, Nat.zero_add] at hds
    rw [show ∀ N, resT N (some (ds, r)) = PV.tup [.lst ds, .int ((N - r.length : Nat) : Int)] from fun _ => rfl]
    (refine an_loc (by assumption) rfl ?_; (try dsimp only); refine ax_l1 ?_; intro z7a; refine ax_cons ?_; refine ax_ret ?_; refine aw_ife ?_; refine ab_bool ?_; refine ab_and ?_; refine ab_cmp ?_; refine aw_loc (by assumption) rfl rfl ?_; refine aw_none ?_)
    refine ao_isnot_none (at_bool ?_)
    rw [if_pos (by rfl)]
    (refine ab_and ?_; refine ab_cmp ?_)
    refine aw_bl fx hk' (v := .builtin "len") (by decide) (by kernel_rfl) (.blt _) rfl ?_
    (refine al_cons ?_; refine aw_sub ?_; refine aw_loc (by assumption) rfl rfl ?_; refine aw_int ?_)
    refine ao_item_tup (n := 0) (d := .lst ds) (by decide) (by decide) (by rfl) rfl ?_
    refine al_nil ?_
    refine ac_lenl (by exact ar99 hsl lw hds) ?_
    refine aw_int ?_
    refine ao_eqi (at_bool ?_)
    cases q2 : ((ds.length : Int) == 1) with
    | true =>
      rw [q2, if_pos rfl] at h
      first | refine ite_t ?_ | rw [if_pos rfl]
      refine ab_and_nil ?_
      first | refine ite_t ?_ | rw [if_pos rfl]
      (refine aw_sub ?_; refine aw_loc (by assumption) rfl rfl ?_; refine aw_int ?_)
      exact ao_item_tup (n := 0) (d := .lst ds) (by decide) (by decide) (by rfl) rfl (fin0 (P := P) (σ := σ) (by simpa using h))
    | false =>
      rw [q2, if_neg (by decide)] at h
      rw [if_neg (by decide), if_neg (by decide)]
      refine aw_listD (al_nil ?_)
      refine ⟨[], rfl, Nat.zero_le _, ?_⟩
      refine fin0 (P := P) (σ := σ) ?_
      simpa using h
noncomputable def figs (w : Str) : Str := if Txt.startswith w "-" then Txt.slice w (some 1) none else w
noncomputable def notFig (c : Nat) : Bool := !!List.isEmpty (Builtin.Str.occurrences ("0123456789" : Str) ⟨#[c]⟩ 0 ("0123456789" : Str).length 1)
noncomputable def isnum (w : Str) : Bool := decide ((0 : Int) < (figs w).length) && (((figs w).cps.toList.filter notFig).length : Int) == 0
theorem c_isnum (fx : Fx G pf) (hk : k.Ok) {w : Str} (hx : w.length ≤ 100000) (room : Room k.A 1) (h : P σ (.d (.bool (isnum w)))) : AC G pf k σ (.ref 225) [.d (.str w)] P F := by
  refine ac_def fx.ok hk (fx.k (a := 225) (i := 11) (by decide)) (n := 0) room (own := σ.mu) (muIn := []) (by simp) ["word"] (fun name doc pm an cdv ct vs hvs => ?_) rfl (by decide +kernel) (by decide +kernel) rfl rfl rfl fun L cd hk' hF' rm => ?_
  · obtain ⟨a, rfl⟩ := len1 hvs; rfl
  have sl := sl_eq
  have hfl : (figs w).length ≤ 100000 := by
    unfold figs; split
    · exact Nat.le_trans (Txt.slice_le w _ _) hx
    · exact hx
  (refine ax_cons ?_; refine ax_asgn ?_)
  refine aw_spec ⟨[("word", .d (.str w))], []⟩ (.d (.str (figs w))) ?_ ?_
  · refine aw_ife (ab_val ?_)
    refine aw_meth fx.ok PySem.F.plainAttrs_str PySem.F.slot_str_startswith (by kernel_rfl) (aw_loc hk' rfl rfl ⟨rfl, ?_⟩)
    (refine al_cons ?_; refine aw_str ?_; refine al_nil ?_)
    refine ac_starts (at_bool ?_)
    unfold figs
    cases q : Txt.startswith w "-" with
    | true =>
      rw [if_pos rfl, if_pos rfl]
      (refine aw_sslice ?_; refine aw_loc (by assumption) rfl rfl ?_; refine aw_psome ?_; refine aw_int ?_; refine aw_pnone ?_)
      exact ⟨w, some 1, none, rfl, rfl, rfl, by exact ar47 hx sl, rfl, rfl⟩
    | false =>
      rw [if_neg (by decide), if_neg (by decide)]
      refine aw_loc (by assumption) rfl rfl ?_
      exact ⟨rfl, rfl⟩
  (refine an_loc (by assumption) rfl ?_; dsimp only; refine ax_cons ?_; refine ax_ret ?_)
  refine aw_and2 ?_
  refine aw_cmp ?_
  refine aw_bl fx hk' (v := .builtin "len") (by decide) (by kernel_rfl) (.blt _) rfl ?_
  (refine al_cons ?_; refine aw_loc (by assumption) rfl rfl ?_; refine al_nil ?_)
  refine ac_lens (by exact Int.ofNat_lt.mpr (Nat.lt_of_le_of_lt hfl (by decide))) ?_
  refine aw_int ?_
  refine ao_gt ⟨_, rfl, ?_⟩
  unfold isnum at h
  cases q : decide ((0 : Int) < (figs w).length) with
  | false =>
    rw [q] at h
    first | refine ite_f ?_ | rw [if_neg (by decide)]
    exact fin0 (P := P) (σ := σ) (by simpa using h)
  | true =>
    rw [q] at h
    first | refine ite_t ?_ | rw [if_pos rfl]
    refine aw_cmp ?_
    refine aw_bl fx hk' (v := .builtin "len") (by decide) (by kernel_rfl) (.blt _) rfl ?_
    refine al_cons (aw_freeze (aw_comp hk' (cl := []) rfl ?_))
    refine aw_loc (by assumption) rfl rfl ?_
    refine ⟨_, src_str hk', ?_, fun C hkC => ?_⟩
    · simp only [signs, List.length_map, Array.length_toList]; show (figs w).length ≤ _; exact ar100 sl hfl
    obtain ⟨tf, htf⟩ := fx.figs
    refine acm_map (fun c => PV.str ⟨#[c]⟩) notFig (fun c => .d (.str ⟨#[c]⟩)) [] (fun c hc loc => ?_) (fun loc => ?_) _
    · refine as_name ?_
      (refine an_loc (by assumption) rfl ?_; dsimp only)
      refine ab_tests_one ?_
      refine ab_cmp ?_
      refine aw_loc (by assumption) rfl rfl ?_
      refine aw_globD fx.ok hkC (d := .str ("0123456789" : Str)) rfl htf (.str _ _) ?_
      refine ao_notins (at_bool ?_)
      refine ⟨rfl, rfl, fun _ => ?_⟩
      refine aw_loc (by assumption) rfl rfl ?_
      exact ⟨rfl, rfl⟩
    refine ⟨[], [], rfl, rfl, fun a => ⟨a, ((figs w).cps.toList.filter notFig).map fun c => PV.str ⟨#[c]⟩, [], rfl, ?_, ?_⟩⟩
    · simp [Function.comp_def]
    refine al_nil ?_
    refine ac_lenl ?_ ?_
    · have := List.length_filter_le notFig (figs w).cps.toList
      simp only [List.length_map, Array.length_toList] at this ⊢
      have hfl' : (figs w).cps.size ≤ 100000 := hfl
      exact ar101 this hfl'
    refine aw_int ?_
    refine ao_eqi (fin0 (P := P) (σ := σ) ?_)
    simpa using h
noncomputable def pint (w : Str) : Int := (PySem.intText? w).getD 0
noncomputable def numsIn (x : Str) : Option (List Int) := if Txt.words x == [("-" : Str)] then some [] else if (Txt.words x).all isnum then some ((Txt.words x).map pint) else none
structure Wds (x : Str) : Prop where
  len : x.length ≤ 100000
  n : (Txt.words x).length ≤ 100000
  w : ∀ w ∈ Txt.words x, Asc w ∧ w.length ≤ 100000
  num : ∀ w ∈ Txt.words x, isnum w = true → PySem.intText? w = some (pint w) ∧ w.length ≤ 640
theorem c_numsIn (fx : Fx G pf) (hk : k.Ok) {x : Str} {wh : Int} (hx : Wds x) (room : Room k.A 5) (h : match numsIn x with | none => F wh | some l => P σ (.d (.tup (l.map PV.int)))) : AC G pf k σ (.ref 230) [.d (.str x), .d (.int wh)] P F := by
  refine ac_def fx.ok hk (fx.k (a := 230) (i := 12) (by decide)) (n := 4) room (own := σ.mu) (muIn := []) (by simp) ["part", "where"] (fun name doc pm an cdv ct vs hvs => ?_) rfl (by decide +kernel) (by decide +kernel) rfl rfl rfl fun L cd hk' hF' rm => ?_
  · obtain ⟨a, b, rfl⟩ := len2 hvs; rfl
  have sl := sl_eq
  have un := rm.2
  have xl := hx.len
  (refine ax_cons ?_; refine ax_asgn ?_)
  refine aw_meth fx.ok PySem.F.plainAttrs_str PySem.F.slot_str_split (by kernel_rfl) (aw_loc hk' rfl rfl ⟨rfl, ?_⟩)
  refine al_nil ?_
  refine ac_split0 (by exact ar102 sl xl) ?_
  (refine an_loc (by assumption) rfl ?_; dsimp only; refine ax_cons ?_; refine ax_if ?_; refine ab_cmp ?_; refine aw_loc (by assumption) rfl rfl ?_)
  refine aw_listD ?_
  (refine al_cons ?_; refine aw_str ?_; refine al_nil ?_)
  refine ⟨[.str "-"], rfl, by show 1 ≤ sizeLine; exact ar41 sl, ?_⟩
  refine ao_eq (n := 1) (m := 1) (.lst (oks_strs fun w hw => (hx.w w hw).1)) (.lst (.cons okd (.nil _))) (rm.less (by exact Nat.zero_le _)) (by show _ < 9900; exact ar104 un) ?_
  refine at_bool ?_
  rw [show PV.lst [PV.str "-"] = PV.lst ([("-" : Str)].map PV.str) from rfl, eqb_strs]
  unfold numsIn at h
  cases q : (Txt.words x == [("-" : Str)]) with
  | true =>
    rw [q] at h
    first | refine ite_t ?_ | rw [if_pos rfl]
    (refine ax_cons ?_; refine ax_ret ?_; refine aw_tuple ?_; refine al_nil ?_)
    exact ⟨[], rfl, Nat.zero_le _, fin0 (P := P) (σ := σ) (by simpa using h)⟩
  | false =>
    rw [q] at h
    rw [if_neg (by decide)] at h
    first | refine ite_f ?_ | rw [if_neg (by decide)]
    refine ax_nil ?_
    refine ax_forget' (σ' := ⟨[("words", .d (.lst ((Txt.words x).map PV.str))), ("where", .d (.int wh))], []⟩) ⟨rfl, rfl, trivial⟩ rfl ?_
    refine ax_cons (ax_for hk' hF' (aw_loc hk' rfl rfl ⟨_, src_list hk', ?_⟩))
    refine af_ind PV.str (fun cs σ' => (∀ c ∈ cs, c ∈ Txt.words x) ∧ (Txt.words x).all isnum = cs.all isnum ∧ σ' = ⟨[("words", .d (.lst ((Txt.words x).map PV.str))), ("where", .d (.int wh))], []⟩) ?_ ?_ _ _ ⟨fun _ h => h, rfl, rfl⟩
    · rintro σ' ⟨_, hall, rfl⟩
      rw [hall] at h
      simp only [List.all_nil, if_true] at h
      have hnum : ∀ w ∈ Txt.words x, isnum w = true := fun w hw => List.all_eq_true.mp (by rw [hall]; rfl) w hw
      (refine ax_cons ?_; refine ax_ret ?_)
      refine aw_bl fx hk' (v := .type "tuple") (by decide) (by kernel_rfl) (.type _) rfl ?_
      refine al_cons (aw_freeze (aw_comp hk' (cl := []) rfl ?_))
      refine aw_loc (by assumption) rfl rfl ?_
      refine ⟨_, src_list hk', ?_, fun C hkC => ?_⟩
      · have := hx.n; simp only [List.length_map]; exact ar100 sl this
      refine acm_map PV.str (fun y => true) (fun y => .d (.int (pint y))) [] (fun c hc loc => ?_) (fun loc => ?_) _
      · refine as_name ?_
        (refine an_loc (by assumption) rfl ?_; dsimp only)
        refine ab_tests_nil ⟨rfl, rfl, fun _ => ?_⟩
        refine aw_bl fx hkC (v := .type "int") (by decide) (by kernel_rfl) (.type _) rfl ?_
        (refine al_cons ?_; refine aw_loc (by assumption) rfl rfl ?_; refine al_nil ?_)
        obtain ⟨h1, h2⟩ := hx.num c hc (hnum c hc)
        exact ac_ints h1 h2 ⟨rfl, rfl⟩
      refine ⟨[], [], rfl, rfl, fun a => ⟨a, ((Txt.words x).map pint).map PV.int, [], rfl, ?_, ?_⟩⟩
      · rw [List.filter_eq_self.mpr (fun _ _ => rfl)]; simp [Function.comp_def]
      refine al_nil ?_
      refine ac_tuple (by have := hx.n; simp; exact ar100 sl this) ?_
      exact fin0 (P := P) (σ := σ) h
    · rintro c cs σ' ⟨hm, hall, rfl⟩
      have hc := hx.w c (hm c (.head _))
      (refine as_name ?_; refine an_loc (by assumption) rfl ?_; dsimp only; refine ax_cons ?_; refine ax_if ?_; refine ab_not ?_)
      refine ab_val ?_
      refine aw_fn fx hk' (a := 225) (i := 11) (by decide) rfl rfl ?_
      (refine al_cons ?_; refine aw_loc (by assumption) rfl rfl ?_; refine al_nil ?_)
      refine c_isnum fx hk' hc.2 (rm.less (by exact Nat.succ_pos _)) (at_bool ?_)
      rw [List.all_cons] at hall
      cases q2 : isnum c with
      | true =>
        rw [q2, Bool.true_and] at hall
        first | refine ite_f ?_ | rw [if_neg (by decide)]
        refine ax_nil (ax_nil_f (σ' := ⟨[("words", .d (.lst ((Txt.words x).map PV.str))), ("where", .d (.int wh))], []⟩) ⟨rfl, rfl, trivial⟩ rfl ?_)
        exact ⟨fun c' h' => hm c' (.tail _ h'), hall, rfl⟩
      | false =>
        rw [q2, Bool.false_and] at hall
        rw [hall] at h
        rw [if_neg (by decide)] at h
        rw [if_pos (by rfl)]
        refine ax_cons (ax_fault fx.ok hk' fx.pfx (rm.less (by exact Nat.le_add_left _ _)) rfl fx.pfn ?_)
        refine aw_joined (aw_fmt (aw_loc hk' rfl rfl (.inr ⟨c, rfl, by exact ar100 sl hc.2, c, rfl, ?_, ?_⟩)))
        · rw [len_app]; show 0 + c.length ≤ sizeLine; exact ar107 sl hc.2
        refine aw_str ⟨" is no number", rfl, ?_, ?_⟩
        · rw [len_app, len_app, sl]; have := hc.2; show 0 + c.length + 13 ≤ _; exact Nat.le_trans (Nat.add_le_add_right (Nat.add_le_add_left hc.2 _) _) (by decide)
        refine ⟨⟨_, rfl⟩, ?_⟩
        refine aw_loc (by assumption) rfl rfl ?_
        exact ⟨wh, rfl, h⟩
noncomputable def nfAtom (w : Str) : PV := if isnum w then .int (pint w) else .str w
noncomputable def nf : List Str → List (List PV) → Option (List (List PV))
  | [], st => some st
  | w :: r, st => if w == ("(" : Str) then nf r ([] :: st)
    else if w == (")" : Str) then (match st with | d :: e :: st' => nf r ((e ++ [.tup d]) :: st') | _ => none)
    else match st with
      | d :: st' => if w == ("-" : Str) then nf r ((d ++ [.none]) :: st') else nf r ((d ++ [nfAtom w]) :: st')
      | [] => none
noncomputable def spread (x : Str) : Str := Txt.replace (Txt.replace x "(" " ( ") ")" " ) "
noncomputable def noteFrom (x : Str) : Option PV := match nf (Txt.words (spread x)) [[]] with | some [[v]] => some v | _ => none
noncomputable def stMu (A : Addr) (st : List (Addr × List PV)) : List (Addr × MO) := (A, .lst (st.reverse.map fun p => .m p.1)) :: st.map fun p => (p.1, .lst (p.2.map Dsc.d))
theorem c_note_from (fx : Fx G pf) (hk : k.Ok) {x : Str} {wh : Int} (hx1 : x.length ≤ 1000000) (hx2 : (Txt.replace x "(" " ( ").length ≤ 1000000) (hx : Wds (spread x)) (room : Room k.A 5) (h : match noteFrom x with | none => F wh | some v => P σ (.d v)) : AC G pf k σ (.ref 237) [.d (.str x), .d (.int wh)] P F := by
  refine (acc_def1 fx.ok hk (fx.k (a := 237) (i := 13) (by decide)) (n := 4) room (own := σ.mu) (muIn := []) (by simp) ["text", "where"] (fun name doc pm an cdv ct vs hvs => ?_) rfl (by decide) (by decide +kernel) (by decide +kernel) rfl rfl rfl fun L cd hk' hF' rm => ?_).ac
  · obtain ⟨a, b, rfl⟩ := len2 hvs; rfl
  have sl := sl_eq
  have un := rm.2
  have xl := hx.len
  have xn := hx.n
  refine ax1_cons (ax1_of (ax_asgn ?_))
  refine aw_list (al_cons (aw_list (al_nil ⟨Nat.zero_le _, fun a => al_nil ⟨by show 1 ≤ sizeLine; exact ar41 sl, fun A => ?_⟩⟩)))
  (refine an_loc (by assumption) rfl ?_; (try dsimp only))
  refine ax1_cons (ax1_for hk' hF' (aw1_split fx.ok (aw1_replace fx.ok (by decide +kernel) (by decide) (aw1_replace fx.ok (by decide +kernel) (by decide) (aw1_of (aw_loc hk' rfl rfl ⟨x, rfl, by exact Nat.le_trans hx1 (by decide), _, rfl, by exact Nat.le_trans hx2 (by decide), _, rfl, ?_, ?_⟩))))))
  · show (spread x).length + 2 ≤ _; exact ar102 sl xl
  refine ⟨_, src_list hk', ?_⟩
  refine af_ind PV.str (fun cs σ' => (∃ (st : List (Addr × List PV)), And7 (nf cs (st.map (·.2)) = nf (Txt.words (spread x)) [[]]) ((∀ c ∈ cs, c ∈ Txt.words (spread x))) (0 < st.length) (st.length + cs.length ≤ 100001) ((∀ p ∈ st, p.2.length + cs.length ≤ 100000)) (AllIn σ'.loc [("stack", .m A), ("where", .d (.int wh))]) (σ'.mu = stMu A st))) ?_ ?_ _ _ ⟨[(a, [])], rfl, fun _ h => h, Nat.one_pos, by show 1 + (Txt.words (spread x)).length ≤ _; exact Nat.le_trans (Nat.add_le_add_left xn _) (by decide), fun p hp => by rw [List.mem_singleton.mp hp]; show 0 + (Txt.words (spread x)).length ≤ _; exact ar111 xn, ⟨rfl, rfl, trivial⟩, rfl⟩
  · rintro ⟨loc, mu⟩ ⟨st, hnf, _, hpos, hl1, hl2, hloc, rfl⟩
    refine ax1_of (ax_forget' (σ' := ⟨[("stack", .m A), ("where", .d (.int wh))], stMu A st⟩) hloc rfl ?_)
    have hnf' : nf (Txt.words (spread x)) [[]] = some (st.map (·.2)) := hnf.symm
    unfold noteFrom at h
    rw [hnf'] at h
    (refine ax_l4 ?_; intro z1a z1b z1c z1d; refine ax_cons ?_; refine ax_if ?_; refine ab_bool ?_; refine ab_or ?_; refine ab_cmp ?_)
    refine aw_bl fx hk' (v := .builtin "len") (by decide) (by kernel_rfl) (.blt _) rfl ?_
    (refine al_cons ?_; refine aw_loc (by assumption) rfl rfl ?_; refine al_nil ?_)
    refine ac_lenm (.head _) (by simp; exact Int.ofNat_lt.mpr (Nat.lt_of_le_of_lt (Nat.le_trans (Nat.le_add_right _ _) hl1) (by decide))) ?_
    refine aw_int ?_
    refine ao_nei (at_bool ?_)
    rcases st with _ | ⟨p, _ | ⟨q, r⟩⟩
    · exact absurd hpos (by decide)
    ·
      rw [show (((List.map (fun p => Dsc.m p.1) [p].reverse).length : Int) != 1) = false from rfl, if_neg (by decide)]
      (refine ab_or ?_; refine ab_cmp ?_)
      refine aw_bl fx hk' (v := .builtin "len") (by decide) (by kernel_rfl) (.blt _) rfl ?_
      (refine al_cons ?_; refine aw_sub ?_; refine aw_loc (by assumption) rfl rfl ?_; refine aw_int ?_)
      refine ao_item_m (D := .m p.1) (.head _) (by decide) (by decide) rfl ?_
      refine al_nil ?_
      refine ac_lenm (.tail _ (.head _)) (by have := hl2 p (.head _); simp; exact Int.ofNat_lt.mpr (Nat.lt_of_le_of_lt (Nat.le_trans (Nat.le_add_right _ _) this) (by decide))) ?_
      refine aw_int ?_
      refine ao_nei (at_bool ?_)
      obtain ⟨pa, pv⟩ := p
      rw [List.length_map]
      rcases pv with _ | ⟨v, _ | ⟨v', r⟩⟩
      rotate_left
      ·
        rw [show ((([v] : List PV).length : Int) != 1) = false from rfl, if_neg (by decide)]
        refine ab_or_nil ?_
        first | refine ite_f ?_ | rw [if_neg (by decide)]
        refine ax_nil ?_
        (refine ax_cons ?_; refine ax_ret ?_; refine aw_sub ?_; refine aw_sub ?_; refine aw_loc (by assumption) rfl rfl ?_; refine aw_int ?_)
        refine ao_item_m (D := .m pa) (.head _) (by decide) (by decide) rfl ?_
        refine aw_int ?_
        refine ao_item_m (D := .d v) (.tail _ (.head _)) (by decide) (by decide) rfl ?_
        exact fin0 (P := P) (σ := σ) h
      rotate_left
      ·
        rw [show ((([] : List PV).length : Int) != 1) = true from rfl, if_pos rfl, if_pos rfl]
        refine ax_cons (ax_fault fx.ok hk' fx.pfx (rm.less (by exact Nat.le_add_left _ _)) rfl fx.pfn (aw_str ⟨⟨_, rfl⟩, ?_⟩))
        refine aw_loc (by assumption) rfl rfl ?_
        exact ⟨wh, rfl, h⟩
      ·
        rw [show (((v :: v' :: r : List PV).length : Int) != 1) = true by simp; exact ar114, if_pos rfl, if_pos rfl]
        refine ax_cons (ax_fault fx.ok hk' fx.pfx (rm.less (by exact Nat.le_add_left _ _)) rfl fx.pfn (aw_str ⟨⟨_, rfl⟩, ?_⟩))
        refine aw_loc (by assumption) rfl rfl ?_
        exact ⟨wh, rfl, h⟩
    ·
      rw [show (((List.map (fun p => Dsc.m p.1) (p :: q :: r).reverse).length : Int) != 1) = true by simp; exact ar115, if_pos rfl, if_pos rfl]
      refine ax_cons (ax_fault fx.ok hk' fx.pfx (rm.less (by exact Nat.le_add_left _ _)) rfl fx.pfn (aw_str ⟨⟨_, rfl⟩, ?_⟩))
      refine aw_loc (by assumption) rfl rfl ?_
      rcases p with ⟨pa, _ | ⟨v, _ | ⟨v', pv⟩⟩⟩ <;> exact ⟨wh, rfl, h⟩
  · rintro c cs ⟨loc, mu⟩ ⟨st, hnf, hm, hpos, hl1, hl2, hloc, rfl⟩
    obtain ⟨hs, hwh, _⟩ := hloc
    have xw := hx.w c (hm c (.head _))
    simp only [List.length_cons] at hl1 hl2
    rw [show nf (c :: cs) (st.map (·.2)) = if c == ("(" : Str) then nf cs ([] :: st.map (·.2))
      else if c == (")" : Str) then (match st.map (·.2) with | d :: e :: st' => nf cs ((e ++ [.tup d]) :: st') | _ => none)
      else match st.map (·.2) with
        | d :: st' => if c == ("-" : Str) then nf cs ((d ++ [.none]) :: st') else nf cs ((d ++ [nfAtom c]) :: st')
        | [] => none from rfl] at hnf
    refine as_name (an_loc hk' rfl ?_)
    dsimp only
    refine ax_forget' (σ' := ⟨[("word", .d (.str c)), ("stack", .m A), ("where", .d (.int wh))], stMu A st⟩) ⟨rfl, hs, hwh, trivial⟩ rfl ?_
    (refine ax_cons ?_; refine ax_if ?_; refine ab_cmp ?_; refine aw_loc (by assumption) rfl rfl ?_; refine aw_str ?_)
    refine ao_eqs (at_bool ?_)
    cases q1 : (c == ("(" : Str)) with
    | true =>
      rw [q1, if_pos rfl] at hnf
      first | refine ite_t ?_ | rw [if_pos rfl]
      refine ax_cons (ax_expr (aw_meth fx.ok PySem.F.plainAttrs_list PySem.F.slot_list_append (by kernel_rfl) (aw_loc hk' rfl rfl ⟨⟨rfl, _, .head _⟩, ?_⟩)))
      refine al_cons (aw_list (al_nil ⟨Nat.zero_le _, fun a => ?_⟩))
      refine al_nil ?_
      refine ac_append (mu' := (a, .lst []) :: (A, .lst ((st.reverse.map fun p => Dsc.m p.1) ++ [.m a])) :: st.map fun p => (p.1, .lst (p.2.map Dsc.d))) (.tail .head) (by simp; exact ar116 sl hl1) ?_
      refine ax_nil (ax_nil_p (σ' := ⟨[("stack", .m A), ("where", .d (.int wh))], stMu A ((a, []) :: st)⟩) (mu₁ := stMu A ((a, []) :: st)) ⟨rfl, rfl, trivial⟩ ?_ (List.Sublist.refl _) ?_)
      · unfold stMu
        simp only [List.reverse_cons, List.map_append, List.map_cons, List.map_nil]
        exact List.Perm.swap _ _ _
      exact ⟨(a, []) :: st, hnf, fun c' h' => hm c' (.tail _ h'), Nat.succ_pos _, by simp; exact Nat.le_trans (Nat.le_of_eq (Nat.add_right_comm _ _ _)) hl1, fun p hp => by
        rcases List.mem_cons.mp hp with rfl | hp
        · show 0 + cs.length ≤ _; exact ar118 hl1
        · have := hl2 p hp; exact Nat.le_of_lt this, ⟨rfl, rfl, trivial⟩, rfl⟩
    | false =>
      rw [q1, if_neg (by decide)] at hnf
      first | refine ite_f ?_ | rw [if_neg (by decide)]
      (refine ax_cons ?_; refine ax_if ?_; refine ab_cmp ?_; refine aw_loc (by assumption) rfl rfl ?_; refine aw_str ?_)
      refine ao_eqs (at_bool ?_)
      cases q2 : (c == (")" : Str)) with
      | true =>
        rw [q2, if_pos rfl] at hnf
        first | refine ite_t ?_ | rw [if_pos rfl]
        (refine ax_cons ?_; refine ax_if ?_; refine ab_cmp ?_)
        refine aw_bl fx hk' (v := .builtin "len") (by decide) (by kernel_rfl) (.blt _) rfl ?_
        (refine al_cons ?_; refine aw_loc (by assumption) rfl rfl ?_; refine al_nil ?_)
        refine ac_lenm (.head _) (by simp; exact Int.ofNat_lt.mpr (Nat.lt_of_le_of_lt (Nat.le_trans (Nat.le_add_right _ _) hl1) (by decide))) ?_
        refine aw_int ?_
        refine ao_lt (at_bool ?_)
        rcases st with _ | ⟨p, _ | ⟨q, r⟩⟩
        · exact absurd hpos (by decide)
        · rw [show decide (((List.map (fun p => Dsc.m p.1) [p].reverse).length : Int) < 2) = true from rfl, if_pos rfl]
          have hn : noteFrom x = none := by unfold noteFrom; rw [← hnf]; rfl
          rw [hn] at h
          refine ax_cons (ax_fault fx.ok hk' fx.pfx (rm.less (by exact Nat.le_add_left _ _)) rfl fx.pfn (aw_str ⟨⟨_, rfl⟩, ?_⟩))
          refine aw_loc (by assumption) rfl rfl ?_
          exact ⟨wh, rfl, h⟩
        · rw [show decide (((List.map (fun p => Dsc.m p.1) (p :: q :: r).reverse).length : Int) < 2) = false by simp; exact ar121, if_neg (by decide)]
          obtain ⟨pa, pv⟩ := p
          obtain ⟨qa, qv⟩ := q
          have e1 : (List.map (fun p : Addr × List PV => Dsc.m p.1) ((pa, pv) :: (qa, qv) :: r).reverse) = (List.map (fun p : Addr × List PV => Dsc.m p.1) ((qa, qv) :: r).reverse) ++ [.m pa] := by simp
          have e2 : (List.map (fun p : Addr × List PV => Dsc.m p.1) ((qa, qv) :: r).reverse) = (List.map (fun p : Addr × List PV => Dsc.m p.1) r.reverse) ++ [.m qa] := by simp
          simp only [List.map_cons] at hnf
          unfold stMu
          rw [e1]
          refine ax_nil ?_
          (refine ax_l4 ?_; intro z16a z16b z16c z16d; refine ax_cons ?_; refine ax_asgn ?_)
          refine aw_bl fx hk' (v := .type "tuple") (by decide) (by kernel_rfl) (.type _) rfl ?_
          refine al_cons (aw_meth fx.ok PySem.F.plainAttrs_list PySem.F.slot_list_pop (by kernel_rfl) (aw_loc hk' rfl rfl ⟨⟨rfl, _, .head _⟩, ?_⟩))
          refine al_nil ?_
          refine ac_pop .head (by simp at hl1 ⊢; exact ar122 sl hl1) ?_
          refine al_nil ?_
          refine ac_tuple_m (xs := pv) (.tail _ (.head _)) rfl (by have := hl2 (pa, pv) (.head _); dsimp only at this; exact ar123 sl this) ?_
          (refine an_loc (by assumption) rfl ?_; (try dsimp only))
          rw [e2]
          refine ax_l1 ?_; intro z18a; refine ax_cons (ax_expr (aw_meth fx.ok PySem.F.plainAttrs_list PySem.F.slot_list_append (by kernel_rfl) ?_))
          (refine aw_sub ?_; refine aw_loc (by assumption) rfl rfl ?_; refine aw_m1 ?_)
          refine ao_last_m (Ds := List.map (fun p : Addr × List PV => Dsc.m p.1) r.reverse) (D := .m qa) (.head _) (by simp at hl1 ⊢; exact ar124 sl hl1) ?_
          refine ⟨⟨rfl, _, .tail _ (.tail _ (.head _))⟩, ?_⟩
          (refine al_cons ?_; refine aw_loc (by assumption) rfl rfl ?_; refine al_nil ?_)
          refine ac_append (.tail (.tail .head)) (by have := hl2 (qa, qv) (.tail _ (.head _)); simp at this ⊢; exact ar123 sl this) ?_
          refine ax_nil (ax_nil (ax_nil_p (σ' := ⟨[("stack", .m A), ("where", .d (.int wh))], stMu A ((qa, qv ++ [.tup pv]) :: r)⟩) (mu₁ := (pa, .lst (pv.map Dsc.d)) :: stMu A ((qa, qv ++ [.tup pv]) :: r)) ⟨rfl, rfl, trivial⟩ ?_ (.cons _ (List.Sublist.refl _)) ?_))
          · unfold stMu
            rw [← e2]
            simp only [List.map_cons, List.map_append, List.map_nil, List.reverse_cons]
            exact List.Perm.swap _ _ _
          exact ⟨(qa, qv ++ [.tup pv]) :: r, by simpa only [List.map_cons] using hnf, fun c' h' => hm c' (.tail _ h'), Nat.succ_pos _, by simp at hl1 ⊢; exact ar125 hl1, fun p hp => by
            rcases List.mem_cons.mp hp with rfl | hp
            · have := hl2 (qa, qv) (.tail _ (.head _)); simp at this ⊢; exact Nat.le_trans (Nat.le_of_eq (Nat.add_right_comm _ _ _)) this
            · have := hl2 p (.tail _ (.tail _ hp)); exact Nat.le_of_lt this, ⟨rfl, rfl, trivial⟩, rfl⟩
      | false =>
        rw [q2, if_neg (by decide)] at hnf
        first | refine ite_f ?_ | rw [if_neg (by decide)]
        (refine ax_cons ?_; refine ax_if ?_; refine ab_cmp ?_; refine aw_loc (by assumption) rfl rfl ?_; refine aw_str ?_)
        refine ao_eqs (at_bool ?_)
        rcases st with _ | ⟨⟨pa, pv⟩, r⟩
        · exact absurd hpos (by decide)
        have e1 : (List.map (fun p : Addr × List PV => Dsc.m p.1) ((pa, pv) :: r).reverse) = (List.map (fun p : Addr × List PV => Dsc.m p.1) r.reverse) ++ [.m pa] := by simp
        have hpl := hl2 (pa, pv) (.head _)
        dsimp only at hpl
        unfold stMu
        rw [e1]
        simp only [List.map_cons] at hnf
        have fin : ∀ d, nf cs ((pv ++ [d]) :: r.map (·.2)) = nf (Txt.words (spread x)) [[]] → (∃ (st : List (Addr × List PV)), And7 (nf cs (st.map (·.2)) = nf (Txt.words (spread x)) [[]]) ((∀ c ∈ cs, c ∈ Txt.words (spread x))) (0 < st.length) (st.length + cs.length ≤ 100001) ((∀ p ∈ st, p.2.length + cs.length ≤ 100000)) (AllIn [("stack", .m A), ("where", .d (.int wh))] [("stack", .m A), ("where", .d (.int wh))]) (stMu A ((pa, pv ++ [d]) :: r) = stMu A st)) := fun d hd =>
          ⟨(pa, pv ++ [d]) :: r, hd, fun c' h' => hm c' (.tail _ h'), Nat.succ_pos _, by simp at hl1 ⊢; exact Nat.le_of_lt hl1, fun p hp => by
            rcases List.mem_cons.mp hp with rfl | hp
            · simp; exact Nat.le_trans (Nat.le_of_eq (Nat.add_right_comm _ _ _)) hpl
            · have := hl2 p (.tail _ hp); exact Nat.le_of_lt this, ⟨rfl, rfl, trivial⟩, rfl⟩
        cases q3 : (c == ("-" : Str)) with
        | true =>
          rw [q3, if_pos rfl] at hnf
          first | refine ite_t ?_ | rw [if_pos rfl]
          refine ax_l4 ?_; intro z21a z21b z21c z21d; refine ax_cons (ax_expr (aw_meth fx.ok PySem.F.plainAttrs_list PySem.F.slot_list_append (by kernel_rfl) ?_))
          (refine aw_sub ?_; refine aw_loc (by assumption) rfl rfl ?_; refine aw_m1 ?_)
          refine ao_last_m (Ds := List.map (fun p : Addr × List PV => Dsc.m p.1) r.reverse) (D := .m pa) (.head _) (by simp at hl1 ⊢; exact ar128 sl hl1) ?_
          refine ⟨⟨rfl, _, .tail _ (.head _)⟩, ?_⟩
          (refine al_cons ?_; refine aw_none ?_; refine al_nil ?_)
          refine ac_append (.tail .head) (by simp; exact ar123 sl hpl) ?_
          refine ax_nil (ax_nil (ax_nil (ax_nil_p (σ' := ⟨[("stack", .m A), ("where", .d (.int wh))], stMu A ((pa, pv ++ [.none]) :: r)⟩) (mu₁ := stMu A ((pa, pv ++ [.none]) :: r)) ⟨rfl, rfl, trivial⟩ ?_ (List.Sublist.refl _) (fin _ hnf))))
          unfold stMu
          simp
        | false =>
          rw [q3, if_neg (by decide)] at hnf
          first | refine ite_f ?_ | rw [if_neg (by decide)]
          refine ax_l4 ?_; intro z22a z22b z22c z22d; refine ax_cons (ax_expr (aw_meth fx.ok PySem.F.plainAttrs_list PySem.F.slot_list_append (by kernel_rfl) ?_))
          (refine aw_sub ?_; refine aw_loc (by assumption) rfl rfl ?_; refine aw_m1 ?_)
          refine ao_last_m (Ds := List.map (fun p : Addr × List PV => Dsc.m p.1) r.reverse) (D := .m pa) (.head _) (by simp at hl1 ⊢; exact ar128 sl hl1) ?_
          refine ⟨⟨rfl, _, .tail _ (.head _)⟩, ?_⟩
          refine al_cons (aw_same (.d (nfAtom c)) ?_ ?_)
          · refine aw_ife (ab_val ?_)
            refine aw_fn fx hk' (a := 225) (i := 11) (by decide) rfl rfl ?_
            (refine al_cons ?_; refine aw_loc (by assumption) rfl rfl ?_; refine al_nil ?_)
            refine c_isnum fx hk' xw.2 (rm.less (by exact Nat.succ_pos _)) (at_bool ?_)
            unfold nfAtom
            cases q4 : isnum c with
            | true =>
              rw [if_pos rfl, if_pos rfl]
              refine aw_bl fx hk' (v := .type "int") (by decide) (by kernel_rfl) (.type _) rfl ?_
              (refine al_cons ?_; refine aw_loc (by assumption) rfl rfl ?_; refine al_nil ?_)
              obtain ⟨h1, h2⟩ := hx.num c (hm c (.head _)) q4
              exact ac_ints h1 h2 ⟨rfl, rfl⟩
            | false =>
              rw [if_neg (by decide), if_neg (by decide)]
              refine aw_loc (by assumption) rfl rfl ?_
              exact ⟨rfl, rfl⟩
          refine al_nil ?_
          refine ac_append (.tail .head) (by simp; exact ar123 sl hpl) ?_
          refine ax_nil (ax_nil (ax_nil (ax_nil_p (σ' := ⟨[("stack", .m A), ("where", .d (.int wh))], stMu A ((pa, pv ++ [nfAtom c]) :: r)⟩) (mu₁ := stMu A ((pa, pv ++ [nfAtom c]) :: r)) ⟨rfl, rfl, trivial⟩ ?_ (List.Sublist.refl _) (fin _ hnf))))
          unfold stMu
          simp
noncomputable def absI (a : Int) : Int := if a < 0 then -a else a
noncomputable def tidyF (l : List Int) : List Nat → Bool
  | [] => true
  | i :: r => if l.getD i 0 == 0 then false else if 0 < i && absI (l.getD (i - 1) 0) ≥ absI (l.getD i 0) then false else tidyF l r
noncomputable def tidy (l : List Int) : Bool := tidyF l (List.range l.length)
theorem c_tidy (fx : Fx G pf) (hk : k.Ok) {l : List Int} (hl : l.length ≤ 100000) (room : Room k.A 1) (h : P σ (.d (.bool (tidy l)))) : AC G pf k σ (.ref 86) [.d (.tup (l.map PV.int))] P F := by
  refine ac_def fx.ok hk (fx.k (a := 86) (i := 7) (by decide)) (n := 0) room (own := σ.mu) (muIn := []) (by simp) ["clause"] (fun name doc pm an cdv ct vs hvs => ?_) rfl (by decide +kernel) (by decide +kernel) rfl rfl rfl fun L cd hk' hF' rm => ?_
  · obtain ⟨a, rfl⟩ := len1 hvs; rfl
  have sl := sl_eq
  refine ax_l4 ?_; intro z1a z1b z1c z1d; refine ax_cons (ax_for hk' hF' ?_)
  refine aw_bl fx hk' (v := .type "range") (by decide) (by kernel_rfl) (.type _) rfl ?_
  refine al_cons (aw_bl fx hk' (v := .builtin "len") (by decide) (by kernel_rfl) (.blt _) rfl ?_)
  (refine al_cons ?_; refine aw_loc (by assumption) rfl rfl ?_; refine al_nil ?_)
  refine ac_lent (by simp; exact Int.ofNat_lt.mpr (Nat.lt_of_le_of_lt hl (by decide))) ?_
  refine al_nil ?_
  refine ac_range fun o ho => ⟨_, src_range hk' ho (by simp only [List.length_map]; exact Int.ofNat_lt.mpr (Nat.lt_of_le_of_lt hl (by decide))) (by simp only [List.length_map]; exact ar130), ?_⟩
  have e : rngs ((l.map PV.int).length : Int) = (List.range l.length).map fun (i : Nat) => PV.int (i : Int) := by unfold rngs; simp
  rw [e]
  refine af_ind (fun (i : Nat) => PV.int (i : Int)) (fun cs σ' => (∀ i ∈ cs, i < l.length) ∧ tidyF l cs = tidy l ∧ σ' = ⟨[("clause", .d (.tup (l.map PV.int)))], []⟩) ?_ ?_ _ _ ⟨fun i hi => List.mem_range.mp hi, rfl, rfl⟩
  · rintro σ' ⟨_, ht, rfl⟩
    (refine ax_cons ?_; refine ax_ret ?_; refine aw_bool ?_)
    rw [← ht] at h
    exact fin0 (P := P) (σ := σ) h
  · rintro i cs σ' ⟨hm, ht, rfl⟩
    have hi := hm i (.head _)
    have at1 : ∀ j : Nat, j < l.length → (l.map PV.int)[j]? = some (.int (l.getD j 0)) := fun j hj => by simp [hj]
    have sq : ∀ j : Nat, j < l.length → seqIndex? (j : Int) (l.map PV.int).length = some j := fun j hj => by
      unfold seqIndex?
      simp
      lia
    rw [tidyF] at ht
    (refine as_name ?_; refine an_loc (by assumption) rfl ?_; (try dsimp only); refine ax_l4 ?_; intro z4a z4b z4c z4d; refine ax_cons ?_; refine ax_if ?_; refine ab_cmp ?_; refine aw_sub ?_; refine aw_loc (by assumption) rfl rfl ?_; refine aw_loc (by assumption) rfl rfl ?_)
    refine ao_item_tup (by exact ar131) (by exact ar132 hl hi) (sq i hi) (at1 i hi) ?_
    refine aw_int ?_
    refine ao_eqi (at_bool ?_)
    cases q : (l.getD i 0 == 0) with
    | true =>
      rw [q, if_pos rfl] at ht
      first | refine ite_t ?_ | rw [if_pos rfl]
      (refine ax_cons ?_; refine ax_ret ?_; refine aw_bool ?_)
      rw [← ht] at h
      exact fin0 (P := P) (σ := σ) h
    | false =>
      rw [q, if_neg (by decide)] at ht
      first | refine ite_f ?_ | rw [if_neg (by decide)]
      refine ax_nil ?_
      (refine ax_cons ?_; refine ax_if ?_; refine ab_bool ?_; refine ab_and ?_; refine ab_cmp ?_; refine aw_loc (by assumption) rfl rfl ?_; refine aw_int ?_)
      refine ao_gt (at_bool ?_)
      by_cases hpos : 0 < i
      · rw [decide_eq_true (show (0 : Int) < (i : Int) by exact ar51 hpos), if_pos rfl]
        rw [decide_eq_true hpos, Bool.true_and] at ht
        (refine ab_and ?_; refine ab_cmp ?_)
        refine aw_bl fx hk' (v := .builtin "abs") (by decide) (by kernel_rfl) (.blt _) rfl ?_
        (refine al_cons ?_; refine aw_sub ?_; refine aw_loc (by assumption) rfl rfl ?_; refine aw_bin ?_; refine aw_loc (by assumption) rfl rfl ?_; refine aw_int ?_)
        refine ao_sub ?_
        rw [show ((i : Int) - 1) = ((i - 1 : Nat) : Int) by exact (Int.ofNat_sub hpos).symm]
        refine ao_item_tup (by exact ar134) (by exact ar135 hl hi) (sq (i - 1) (by exact Nat.lt_of_le_of_lt (Nat.sub_le _ _) hi)) (at1 (i - 1) (by exact Nat.lt_of_le_of_lt (Nat.sub_le _ _) hi)) ?_
        refine al_nil ?_
        refine ac_abs ?_
        refine aw_bl fx hk' (v := .builtin "abs") (by decide) (by kernel_rfl) (.blt _) rfl ?_
        (refine al_cons ?_; refine aw_sub ?_; refine aw_loc (by assumption) rfl rfl ?_; refine aw_loc (by assumption) rfl rfl ?_)
        refine ao_item_tup (by exact ar131) (by exact ar132 hl hi) (sq i hi) (at1 i hi) ?_
        refine al_nil ?_
        refine ac_abs ?_
        refine ao_ge (at_bool ?_)
        show if decide (absI (l.getD i 0) ≤ absI (l.getD (i - 1) 0)) = true then _ else _
        cases q2 : decide (absI (l.getD i 0) ≤ absI (l.getD (i - 1) 0)) with
        | true =>
          rw [if_pos (by simpa using q2)] at ht
          first | refine ite_t ?_ | rw [if_pos rfl]
          refine ab_and_nil ?_
          first | refine ite_t ?_ | rw [if_pos rfl]
          (refine ax_cons ?_; refine ax_ret ?_; refine aw_bool ?_)
          rw [← ht] at h
          exact fin0 (P := P) (σ := σ) h
        | false =>
          rw [if_neg (by simpa using q2)] at ht
          rw [if_neg (by decide), if_neg (by decide)]
          refine ax_nil (ax_nil_f (σ' := ⟨[("clause", .d (.tup (l.map PV.int)))], []⟩) ⟨rfl, trivial⟩ rfl ?_)
          exact ⟨fun j hj => hm j (.tail _ hj), ht, rfl⟩
      · rw [decide_eq_false (show ¬ (0 : Int) < (i : Int) by exact ar71 hpos), if_neg (by decide)]
        rw [decide_eq_false hpos, Bool.false_and, if_neg (by decide)] at ht
        first | refine ite_f ?_ | rw [if_neg (by decide)]
        refine ax_nil (ax_nil_f (σ' := ⟨[("clause", .d (.tup (l.map PV.int)))], []⟩) ⟨rfl, trivial⟩ rfl ?_)
        exact ⟨fun j hj => hm j (.tail _ hj), ht, rfl⟩
section
variable {keep : PH} {hid : Addr → Prop} {s s' : Shared} {g : PH} {own muIn : List (Addr × MO)}
theorem call_backE (hK : Kp G k keep hid) {loc : List (Str × Dsc)} (S : Site G k keep hid ⟨loc, own ++ muIn⟩ s g) {k' : Kx} (hfr : ∀ b, b < s.heap.objs.size → (b ∈ k'.fr ↔ b ∈ k.fr)) {keep' : PH} {hid' : Addr → Prop} (C : CallS G k keep hid s g own muIn keep' hid')
    (hin : ∀ b o, keep' b = none → s.heap.get? b = some o → b ∈ muIn.map (·.1))
    {σ' : St} {ext muOut : List (Addr × MO)} {g' : PH} (l : Le g g') (S' : Site G k' keep' hid' σ' s' g') (hmu : σ'.mu = ext ++ muOut) (ha : muOut.map (·.1) = muIn.map (·.1)) :
    Site G k keep hid ⟨loc, ext ++ (own ++ muOut)⟩ s' g' := by
  have B := call_back hK S hfr C l S' hmu ha
  have nd := S'.nodup
  rw [hmu, List.map_append] at nd
  have new : ∀ p ∈ ext, s.heap.get? p.1 = none := fun p hp => by
    cases q : s.heap.get? p.1 with
    | none => rfl
    | some o =>
      exfalso
      have := hin p.1 o (S'.mus p (hmu ▸ List.mem_append.mpr (.inl hp))).2.1 q
      rw [← ha] at this
      exact (List.nodup_append.mp nd).2.2 _ (List.mem_map_of_mem hp) _ this rfl
  refine ⟨B.base, B.gh, B.kept, B.ghid, B.gL, B.locs, fun p hp => ?_, ?_, B.gens, B.os⟩
  · rcases List.mem_append.mp hp with hp | hp
    · obtain ⟨a1, a2, a3, o, a4, a5⟩ := S'.mus p (hmu ▸ List.mem_append.mpr (.inl hp))
      obtain ⟨_, n2, n3, _⟩ := S.newAt hK (new p hp)
      exact ⟨a1, n2, n3, o, a4, a5⟩
    · exact B.mus p hp
  · rw [List.map_append]
    refine List.nodup_append.mpr ⟨(List.nodup_append.mp nd).1, B.nodup, fun a ha1 b hb e => ?_⟩
    subst e
    obtain ⟨p, hp, rfl⟩ := List.mem_map.mp ha1
    rw [List.map_append] at hb
    rcases List.mem_append.mp hb with hb | hb
    · obtain ⟨p', hp', e⟩ := List.mem_map.mp hb
      obtain ⟨_, _, _, o, h4, _⟩ := S.mus p' (List.mem_append.mpr (.inl hp'))
      rw [e, new p hp] at h4; exact no_ns h4
    · rw [ha] at hb
      obtain ⟨p', hp', e⟩ := List.mem_map.mp hb
      obtain ⟨_, _, _, o, h4, _⟩ := S.mus p' (List.mem_append.mpr (.inr hp'))
      rw [e, new p hp] at h4; exact no_ns h4
end
theorem acc_defE (hG : G.Ok) (hk : k.Ok) {f : Addr} {q : Str} {ps : Arguments} {body : List Stmt} {sc : Scope} (hf : FnK G f q ps body sc) {n : Nat} (room : Room k.A (n + 1)) {own muIn : List (Addr × MO)} (hmu : σ.mu = own ++ muIn) {Ds : List Dsc} (names : List Str)
    (hb : ∀ name doc pm an cdv ct vs, vs.length = Ds.length → bindArgs (fnOf name q ps body sc .none .none doc pm an cdv ct) ⟨vs, []⟩ = pure (names.zip vs)) (hlen : names.length = Ds.length)
    (hloc : (names.all fun x => decide (sc.names.lookup x = some .local)) = true) (hcell : (sc.names.all fun x => decide (x.2 ≠ .cell)) = true) (hco : sc.isCoroutine = false) (hgen : sc.isGenerator = false) (hs : sc.kind = .function)
    (hbody : ∀ L cd, (k.call q sc L f cd []).Ok → (k.call q sc L f cd []).Fun → Room (k.call q sc L f cd []).A n →
      AX G pf (k.call q sc L f cd []) ⟨(names.zip Ds).reverse, muIn⟩ (execs body (k.call q sc L f cd []).env)
        (fun σ' => (Ex2 fun ext muOut => And3 (σ'.mu = ext ++ muOut) (muOut.map (·.1) = muIn.map (·.1)) (P ⟨σ.loc, ext ++ (own ++ muOut)⟩ (.d .none))))
        (fun σ' D => (Ex2 fun ext muOut => And3 (σ'.mu = ext ++ muOut) (muOut.map (·.1) = muIn.map (·.1)) (P ⟨σ.loc, ext ++ (own ++ muOut)⟩ D))) F) : ACc G pf k σ (.ref f) Ds P F := by
  intro keep hid s g Rr vs hK S hv ok er
  obtain ⟨loc, mu⟩ := σ
  dsimp only at hmu; subst hmu
  obtain ⟨name, doc, pm, an, cdv, ct, oc, od, osl, hlk, hcd⟩ := hf
  have hst := S.stays
  have hX := hG.X.keeps hst
  have C := calls_of hK S
  have hvl := hv.length
  refine (codeAny_call_def (fd := fnOf name q ps body sc .none .none doc pm an cdv ct) (body := body) (binds := names.zip vs) room.depth (hX _ _ hlk) rfl (hG.T.nolimit.keeps hst) (codeRec_of hX hcd) rfl
    (BindsTo.of_eq (hb _ _ _ _ _ _ _ hvl)) (fun x hx => of_decide_eq_true (List.all_eq_true.mp hcell x hx)) (fun x hx => of_decide_eq_true (List.all_eq_true.mp hloc x.1 (List.of_mem_zip hx).1)) (fun h₀ hns hkp => ?_) hco hgen hs)
  have hK' := call_kp hK S (q := q) (f := f) (cd := cdv) (cl := []) hs C (fun a h => h)
  -- the callee's start
  have hLh : h₀.get? s.heap.objs.size ≠ none := fun z => by obtain ⟨o, es, ep, h1, _⟩ := hns; rw [h1] at z; exact no_sn z
  have S₀ : Site G (k.call q sc s.heap.objs.size f cdv []) (PH.without (muIn.map (·.1)) s.heap) (fun a => hid a ∨ a = k.env.locals ∨ a ∈ own.map (·.1)) ⟨(names.zip Ds).reverse, muIn⟩ { s with heap := h₀, toks := s.toks + (names.zip vs).length } g := by
    refine ⟨S.base, fun b o e => hkp b o (S.gh b o e), fun b o e => ?_, fun a ha => ?_, S.gfresh, ⟨_, hns, fun x D e => ?_⟩, fun p hp => ?_, ?_, S.gens, S.os⟩
    · have h1 := hkp b o (C.sub b o e)
      by_cases hb : b ∈ (k.call q sc s.heap.objs.size f cdv []).fr
      · exact .inr ⟨hb, o.slots, h1⟩
      · exact .inl ⟨hb, h1⟩
    · rcases ha with h | rfl | h
      · exact S.ghid a h
      · exact S.gL
      · obtain ⟨p, hp, rfl⟩ := List.mem_map.mp h; exact (S.mus p (List.mem_append.mpr (.inl hp))).1
    · exact all2_lookup (all2_zip (names := names) hv).rev x D e
    · obtain ⟨h1, h2, h3, o, h4, h5⟩ := S.mus p (List.mem_append.mpr (.inr hp))
      exact ⟨h1, C.inn p hp, Nat.ne_of_lt (Heap.lt_size h4), o, hkp _ _ h4, h5⟩
    · have := S.nodup
      simp only [List.map_append] at this
      exact (List.nodup_append.mp this).2.1
  have hkF : (k.call q sc s.heap.objs.size f cdv []).Ok := hk.call hs
  refine hbody s.heap.objs.size cdv hkF Kx.call_fun room.call _ _ _ g _ _ hK' S₀ (fun σ' s' g' p l S' => ?_) (fun σ' D v s' g' p l S' i => ?_) fun n' e s' hn x => ?_
  · obtain ⟨ext, muOut, h1, h2, h3⟩ := p
    exact ok _ _ _ s' g' h3 l (call_backE hK S fr_call C (fun b o h1 h2 => by
      unfold PH.without at h1
      by_cases hb : b ∈ muIn.map (·.1)
      · exact hb
      · rw [if_neg hb, h2] at h1; exact no_sn h1) l S' h1 h2) .none
  · obtain ⟨ext, muOut, h1, h2, h3⟩ := p
    exact ok _ D v s' g' h3 l (call_backE hK S fr_call C (fun b o h1 h2 => by
      unfold PH.without at h1
      by_cases hb : b ∈ muIn.map (·.1)
      · exact hb
      · rw [if_neg hb, h2] at h1; exact no_sn h1) l S' h1 h2) i
  · refine fault_leave hk hK S hs C hK' (fun b o h1 h2 => ?_) x fun s'' y => er n' e s'' hn y
    unfold PH.without at h1
    by_cases hb : b ∈ muIn.map (·.1)
    · exact hb
    · rw [if_neg hb, h2] at h1; exact no_sn h1
theorem ACc.perm {f : Value} {Ds : List Dsc} {mu : List (Addr × MO)} (hp : σ.mu.Perm mu) (h : ACc G pf k ⟨σ.loc, mu⟩ f Ds P F) : ACc G pf k σ f Ds P F :=
  fun keep hid s g Rr vs hK S hv ok er => h keep hid s g Rr vs hK (S.perm hp) hv ok er
theorem ACc.post {f : Value} {Ds : List Dsc} (h : ACc G pf k σ f Ds (fun σ' D => ∃ mu, σ'.mu.Perm mu ∧ P ⟨σ'.loc, mu⟩ D) F) : ACc G pf k σ f Ds P F :=
  fun keep hid s g Rr vs hK S hv ok er => h keep hid s g Rr vs hK S hv (fun σ' D v s' g' ⟨mu, hp, p⟩ l S' i => ok _ D v s' g' p l (S'.perm hp) i) er
theorem AC.post {f : Value} {Ds : List Dsc} (h : AC G pf k σ f Ds (fun σ' D => ∃ mu, σ'.mu.Perm mu ∧ P ⟨σ'.loc, mu⟩ D) F) : AC G pf k σ f Ds P F :=
  fun keep hid s g Q E vs hK S hv ok er => h keep hid s g Q E vs hK S hv (fun σ' D v s' g' ⟨mu, hp, p⟩ l S' i => ok _ D v s' g' p l (S'.perm hp) i) er
theorem AC.perm {f : Value} {Ds : List Dsc} {mu : List (Addr × MO)} (hp : σ.mu.Perm mu) (h : AC G pf k ⟨σ.loc, mu⟩ f Ds P F) : AC G pf k σ f Ds P F :=
  fun keep hid s g Q E vs hK S hv ok er => h keep hid s g Q E vs hK (S.perm hp) hv ok er
structure PrS where
  steps : List PV
  named : List Int
  empty : Int
noncomputable def prMu (dx a₁ a₂ : Addr) (p : PrS) : List (Addr × MO) := [(dx, .dct [("steps", .m a₁), ("named", .m a₂), ("empty", .d (.int p.empty))]), (a₁, .lst (p.steps.map Dsc.d)), (a₂, .lst (p.named.map fun i => .d (.int i)))]
noncomputable abbrev prD (dx : Addr) : Dsc := .obj (instObj 213 dx)
theorem Fx.m (fx : Fx G pf) {a : Addr} {i : Nat} (hm : (a, i) ∈ metTab) : FnK G a (("Steps." : Str) ++ fnN (clsB 8) i) (fnA (clsB 8) i) (fnB (clsB 8) i) (fnS (clsB 8) i) := fx.met (a, i) hm
theorem perm3 {α : Type} (x y z : α) (l : List α) : ([x, y] ++ (l ++ [z])).Perm ([z, y, x] ++ l) := by
  refine (List.Perm.append_left [x, y] (List.perm_append_singleton z l)).trans ?_
  show ([x, y] ++ [z] ++ l).Perm _
  exact List.Perm.append_right l ((List.Perm.swap _ _ _).trans ((List.Perm.cons y (List.Perm.swap _ _ _)).trans ((List.Perm.swap _ _ _).trans (List.Perm.refl _))))
theorem c_init (fx : Fx G pf) (hk : k.Ok) {dx : Addr} {own : List (Addr × MO)} (hmu : σ.mu = (dx, .dct []) :: own) (room : Room k.A 1) (h : ∀ a₁ a₂, P ⟨σ.loc, prMu dx a₁ a₂ ⟨[], [0], -1⟩ ++ own⟩ (.d .none)) : ACc G pf k σ (.ref 100) [prD dx] P F := by
  refine ACc.perm (mu := own ++ [(dx, .dct [])]) (by rw [hmu]; exact (List.perm_append_singleton _ _).symm) ?_
  refine ACc.post (acc_defE fx.ok hk (fx.m (a := 100) (i := 0) (by decide)) (n := 0) room (own := own) (muIn := [(dx, .dct [])]) rfl ["self"] (fun name doc pm an cdv ct vs hvs => ?_) rfl (by decide +kernel) (by decide +kernel) rfl rfl rfl fun L cd hk' hF' rm => ?_)
  · obtain ⟨a, rfl⟩ := len1 hvs; rfl
  have sl := sl_eq
  have g1 := fx.get "steps" (by decide)
  have g2 := fx.get "named" (by decide)
  have g3 := fx.get "empty" (by decide)
  (refine ax_l4 ?_; intro z1a z1b z1c z1d; refine ax_cons ?_; refine ax_setattr (Fx.ok (by assumption)) ?_)
  refine aw_list (al_nil ⟨Nat.zero_le _, fun a₁ => ?_⟩)
  refine aw_loc (by assumption) rfl rfl ?_
  refine ⟨213, dx, [], _, rfl, g1.2, .tail .head, by decide, ?_⟩
  (refine ax_l1 ?_; intro z3a; refine ax_cons ?_; refine ax_setattr (Fx.ok (by assumption)) ?_)
  refine aw_list (al_cons (aw_int (al_nil ⟨by show 1 ≤ sizeLine; exact ar41 sl, fun a₂ => ?_⟩)))
  refine aw_loc (by assumption) rfl rfl ?_
  refine ⟨213, dx, _, _, rfl, g2.2, .tail (.tail .head), by show 1 < 1000; decide, ?_⟩
  (refine ax_l1 ?_; intro z5a; refine ax_cons ?_; refine ax_setattr (Fx.ok (by assumption)) ?_; refine aw_m1 ?_; refine aw_loc (by assumption) rfl rfl ?_)
  refine ⟨213, dx, _, _, rfl, g3.2, .tail (.tail .head), by show 2 < 1000; decide, ?_⟩
  refine ax_nil ?_
  refine ⟨[(a₂, .lst [.d (.int 0)]), (a₁, .lst [])], [(dx, .dct _)], rfl, rfl, _, perm3 _ _ _ _, h a₁ a₂⟩
theorem int_text (i : Int) (h : Nat.log2 (Int.natAbs i) < 1920) : (Str.ofString (toString i)).length ≤ 1921 := PyProof.Rows.int_text_len_1921 h
theorem c_name (fx : Fx G pf) (hk : k.Ok) {dx a₁ a₂ : Addr} {p : PrS} {own : List (Addr × MO)} {var term : Int} (hmu : σ.mu = prMu dx a₁ a₂ p ++ own) (hvar : Nat.log2 (Int.natAbs var) < 1920) (hn : p.named.length ≤ 100000) (room : Room k.A 4)
    (h : if var = p.named.length then P ⟨σ.loc, prMu dx a₁ a₂ { p with named := p.named ++ [term] } ++ own⟩ (.d .none) else F (-1)) : AC G pf k σ (.ref 107) [prD dx, .d (.int var), .d (.int term)] P F := by
  refine AC.perm (mu := own ++ prMu dx a₁ a₂ p) (by rw [hmu]; exact List.perm_append_comm) ?_
  refine AC.post (ac_def fx.ok hk (fx.m (a := 107) (i := 1) (by decide)) (n := 3) room (own := own) (muIn := prMu dx a₁ a₂ p) rfl ["self", "var", "term"] (fun name doc pm an cdv ct vs hvs => ?_) rfl (by decide +kernel) (by decide +kernel) rfl rfl rfl fun L cd hk' hF' rm => ?_)
  · obtain ⟨a, b, c, rfl⟩ := len3 hvs; rfl
  have sl := sl_eq
  have g2 := fx.get "named" (by decide)
  (refine ax_cons ?_; refine ax_if ?_; refine ab_cmp ?_; refine aw_loc (by assumption) rfl rfl ?_)
  refine aw_bl fx hk' (v := .builtin "len") (by decide) (by kernel_rfl) (.blt _) rfl ?_
  refine al_cons (aw_attr ?_)
  refine aw_loc (by assumption) rfl rfl ?_
  refine ao_attr fx.ok g2.1 (.head _) (D := .m a₂) rfl trivial ?_
  refine al_nil ?_
  refine ac_lenm (.tail _ (.tail _ (.head _))) (by simp; exact Int.ofNat_lt.mpr (Nat.lt_of_le_of_lt hn (by decide))) ?_
  refine ao_nei (at_bool ?_)
  rw [List.length_map]
  by_cases hv : var = p.named.length
  · rw [if_pos hv] at h
    rw [show (var != (p.named.length : Int)) = false by simp [hv], if_neg (by decide)]
    refine ax_nil ?_
    refine ax_cons (ax_expr (aw_meth fx.ok PySem.F.plainAttrs_list PySem.F.slot_list_append (by kernel_rfl) (aw_attr ?_)))
    refine aw_loc (by assumption) rfl rfl ?_
    refine ao_attr fx.ok g2.1 (.head _) (D := .m a₂) rfl trivial ?_
    refine ⟨⟨rfl, _, .tail _ (.tail _ (.head _))⟩, ?_⟩
    (refine al_cons ?_; refine aw_loc (by assumption) rfl rfl ?_; refine al_nil ?_)
    refine ac_append (.tail (.tail .head)) (by simp; exact ar47 hn sl) ?_
    refine ax_nil ?_
    refine ⟨[], prMu dx a₁ a₂ { p with named := p.named ++ [term] }, ?_, rfl, _, List.perm_append_comm, h⟩
    simp [prMu]
  · rw [if_neg hv] at h
    rw [show (var != (p.named.length : Int)) = true by simp [hv], if_pos rfl]
    refine ax_cons (ax_fault fx.ok hk' fx.pfx (rm.less (by exact Nat.le_refl _)) rfl fx.pfn ?_)
    have il := int_text var hvar
    refine aw_joined (aw_str ⟨"variable ", rfl, by rw [sl]; decide, aw_fmt (aw_loc hk' rfl rfl (.inl ⟨var, rfl, hvar, _, rfl, ?_, aw_str ⟨_, rfl, ?_, ⟨_, rfl⟩, ?_⟩⟩))⟩)
    · rw [len_app, len_app, sl]; show 0 + 9 + _ ≤ _; exact Nat.le_trans (Nat.add_le_add_left il _) (by decide)
    · rw [len_app, len_app, len_app, sl]; show 0 + 9 + _ + 21 ≤ _; exact Nat.le_trans (Nat.add_le_add_right (Nat.add_le_add_left il _) _) (by decide)
    refine aw_m1 ?_
    exact ⟨-1, rfl, h⟩
theorem c_size (fx : Fx G pf) (hk : k.Ok) {dx a₁ a₂ : Addr} {p : PrS} {own : List (Addr × MO)} (hmu : σ.mu = prMu dx a₁ a₂ p ++ own) (hn : p.steps.length ≤ 100000) (room : Room k.A 1)
    (h : P σ (.d (.int p.steps.length))) : AC G pf k σ (.ref 128) [prD dx] P F := by
  refine AC.perm (mu := own ++ prMu dx a₁ a₂ p) (by rw [hmu]; exact List.perm_append_comm) ?_
  refine AC.post (ac_def fx.ok hk (fx.m (a := 128) (i := 4) (by decide)) (n := 0) room (own := own) (muIn := prMu dx a₁ a₂ p) rfl ["self"] (fun name doc pm an cdv ct vs hvs => ?_) rfl (by decide +kernel) (by decide +kernel) rfl rfl rfl fun L cd hk' hF' rm => ?_)
  · obtain ⟨a, rfl⟩ := len1 hvs; rfl
  have g1 := fx.get "steps" (by decide)
  (refine ax_l4 ?_; intro z1a z1b z1c z1d; refine ax_cons ?_; refine ax_ret ?_)
  refine aw_bl fx hk' (v := .builtin "len") (by decide) (by kernel_rfl) (.blt _) rfl ?_
  refine al_cons (aw_attr ?_)
  refine aw_loc (by assumption) rfl rfl ?_
  refine ao_attr fx.ok g1.1 (.head _) (D := .m a₁) rfl trivial ?_
  refine al_nil ?_
  refine ac_lenm (.tail _ (.head _)) (by simp; exact Int.ofNat_lt.mpr (Nat.lt_of_le_of_lt hn (by decide))) ?_
  rw [List.length_map]
  exact ⟨[], prMu dx a₁ a₂ p, rfl, rfl, _, List.perm_append_comm, by rw [← hmu]; exact h⟩
theorem rulesL_asc : ∀ y ∈ rulesL, Asc y := by unfold Asc rulesL; decide +kernel
theorem any_strs (l : List Str) (x : Str) : ((l.map PV.str).any fun y => eqb y (.str x)) = l.contains x := by
  induction l with
  | nil => rfl
  | cons a r ih =>
    simp only [List.map_cons, List.any_cons, ih, List.contains_cons, eqb_str]
    rw [Bool.beq_comm]
noncomputable def addOk (p : PrS) (rule : Str) (cl pr : List Int) : Bool := rulesL.contains rule && tidy cl && pr.all fun o => decide (0 ≤ o) && decide (o < p.steps.length)
noncomputable def addTo (p : PrS) (rule : Str) (cl pr : List Int) (note : PV) : PrS := { p with steps := p.steps ++ [.tup [.str rule, .tup (cl.map PV.int), .tup (pr.map PV.int), note]], empty := if cl.length = 0 ∧ p.empty < 0 then p.steps.length else p.empty }
theorem c_add (fx : Fx G pf) (hk : k.Ok) {dx a₁ a₂ : Addr} {p : PrS} {own : List (Addr × MO)} {rule : Str} {cl pr : List Int} {note : PV} (hmu : σ.mu = prMu dx a₁ a₂ p ++ own) (hr : Asc rule ∧ rule.length ≤ 100000) (hcl : cl.length ≤ 100000) (hpl : pr.length ≤ 100000) (hpr : ∀ o ∈ pr, Nat.log2 (Int.natAbs o) < 1920) (hn : p.steps.length ≤ 100000) (room : Room k.A 5)
    (h : if addOk p rule cl pr then P ⟨σ.loc, prMu dx a₁ a₂ (addTo p rule cl pr note) ++ own⟩ (.d (.int p.steps.length)) else F p.steps.length) : AC G pf k σ (.ref 149) [prD dx, .d (.str rule), .d (.tup (cl.map PV.int)), .d (.tup (pr.map PV.int)), .d note] P F := by
  refine AC.perm (mu := own ++ prMu dx a₁ a₂ p) (by rw [hmu]; exact List.perm_append_comm) ?_
  refine AC.post (ac_def fx.ok hk (fx.m (a := 149) (i := 7) (by decide)) (n := 4) room (own := own) (muIn := prMu dx a₁ a₂ p) rfl ["self", "rule", "clause", "premises", "note"] (fun name doc pm an cdv ct vs hvs => ?_) rfl (by decide +kernel) (by decide +kernel) rfl rfl rfl fun L cd hk' hF' rm => ?_)
  · obtain ⟨a, b, c, d, e, rfl⟩ := len5 hvs; rfl
  have sl := sl_eq
  have un := rm.2
  have g1 := fx.get "steps" (by decide)
  have g3 := fx.get "empty" (by decide)
  (refine ax_l4 ?_; intro z3a z3b z3c z3d; refine ax_cons ?_; refine ax_asgn ?_)
  refine aw_bl fx hk' (v := .builtin "len") (by decide) (by kernel_rfl) (.blt _) rfl ?_
  refine al_cons (aw_attr ?_)
  refine aw_loc (by assumption) rfl rfl ?_
  refine ao_attr fx.ok g1.1 (.head _) (D := .m a₁) rfl trivial ?_
  refine al_nil ?_
  refine ac_lenm (.tail _ (.head _)) (by simp; exact Int.ofNat_lt.mpr (Nat.lt_of_le_of_lt hn (by decide))) ?_
  rw [List.length_map]
  (refine an_loc (by assumption) rfl ?_; (try dsimp only); refine ax_cons ?_; refine ax_if ?_; refine ab_cmp ?_; refine aw_loc (by assumption) rfl rfl ?_)
  obtain ⟨rv, hrv, hrd⟩ := fx.rules
  refine aw_globD fx.ok hk' rfl hrv hrd ?_
  refine ao_notin_tup (n := 0) (m := 0) hr.1.ok (oks_strs rulesL_asc) (by show _ < 9900; exact ar140 un) (at_bool ?_)
  rw [any_strs]
  unfold addOk at h
  cases q1 : rulesL.contains rule with
  | false =>
    rw [q1] at h
    rw [if_neg (by simp)] at h
    rw [if_pos (by rfl)]
    refine ax_l1 ?_; intro z7a; refine ax_cons (ax_fault fx.ok hk' fx.pfx (rm.less (by exact Nat.le_add_left _ _)) rfl fx.pfn ?_)
    refine aw_joined (aw_str ⟨"there is no rule ", rfl, by rw [sl]; decide, aw_fmt (aw_loc hk' rfl rfl (.inr ⟨rule, rfl, by exact ar47 hr.2 sl, _, rfl, ?_, ⟨_, rfl⟩, ?_⟩))⟩)
    · rw [len_app, len_app, sl]; show 0 + 17 + _ ≤ _; exact Nat.le_trans (Nat.add_le_add_left hr.2 _) (by decide)
    refine aw_loc (by assumption) rfl rfl ?_
    exact ⟨_, rfl, h⟩
  | true =>
    rw [q1, Bool.true_and] at h
    first | refine ite_f ?_ | rw [if_neg (by decide)]
    refine ax_nil ?_
    (refine ax_cons ?_; refine ax_if ?_; refine ab_not ?_)
    refine ab_val ?_
    refine aw_fn fx hk' (a := 86) (i := 7) (by decide) rfl rfl ?_
    (refine al_cons ?_; refine aw_loc (by assumption) rfl rfl ?_; refine al_nil ?_)
    refine c_tidy fx hk' hcl (rm.less (by exact Nat.succ_pos _)) (at_bool ?_)
    cases q2 : tidy cl with
    | false =>
      rw [q2] at h
      rw [if_neg (by simp)] at h
      rw [if_pos (by rfl)]
      refine ax_cons (ax_fault fx.ok hk' fx.pfx (rm.less (by exact Nat.le_add_left _ _)) rfl fx.pfn ?_)
      refine aw_joined (aw_fmt (aw_loc hk' rfl rfl (.inr ⟨rule, rfl, by exact ar47 hr.2 sl, _, rfl, ?_, aw_str ⟨_, rfl, ?_, ⟨_, rfl⟩, ?_⟩⟩)))
      · rw [len_app, sl]; show 0 + _ ≤ _; exact Nat.le_trans (Nat.add_le_add_left hr.2 _) (by decide)
      · rw [len_app, len_app, sl]; show 0 + _ + 28 ≤ _; exact Nat.le_trans (Nat.add_le_add_right (Nat.add_le_add_left hr.2 _) _) (by decide)
      refine aw_loc (by assumption) rfl rfl ?_
      exact ⟨_, rfl, h⟩
    | true =>
      rw [q2, Bool.true_and] at h
      first | refine ite_f ?_ | rw [if_neg (by decide)]
      refine ax_nil ?_
      refine ax_forget' (σ' := ⟨[("number", .d (.int p.steps.length)), ("self", prD dx), ("rule", .d (.str rule)), ("clause", .d (.tup (cl.map PV.int))), ("premises", .d (.tup (pr.map PV.int))), ("note", .d note)], prMu dx a₁ a₂ p⟩) ⟨rfl, rfl, rfl, rfl, rfl, rfl, trivial⟩ rfl ?_
      refine ax_cons (ax_for hk' hF' (aw_loc hk' rfl rfl ⟨_, src_tup hk', ?_⟩))
      refine af_ind PV.int (fun cs σ' => (∀ c ∈ cs, c ∈ pr) ∧ (pr.all fun o => decide (0 ≤ o) && decide (o < p.steps.length)) = (cs.all fun o => decide (0 ≤ o) && decide (o < p.steps.length)) ∧
        σ' = ⟨[("number", .d (.int p.steps.length)), ("self", prD dx), ("rule", .d (.str rule)), ("clause", .d (.tup (cl.map PV.int))), ("premises", .d (.tup (pr.map PV.int))), ("note", .d note)], prMu dx a₁ a₂ p⟩) ?_ ?_ _ _ ⟨fun _ z => z, rfl, rfl⟩
      · rintro σ' ⟨_, hall, rfl⟩
        rw [hall] at h
        simp only [List.all_nil, if_true] at h
        refine ax_cons (ax_expr (aw_meth fx.ok PySem.F.plainAttrs_list PySem.F.slot_list_append (by kernel_rfl) (aw_attr ?_)))
        refine aw_loc (by assumption) rfl rfl ?_
        refine ao_attr fx.ok g1.1 (.head _) (D := .m a₁) rfl trivial ?_
        refine ⟨⟨rfl, _, .tail _ (.head _)⟩, ?_⟩
        (refine al_cons ?_; refine aw_tuple ?_; refine al_cons ?_; refine aw_loc (by assumption) rfl rfl ?_; refine al_cons ?_)
        refine aw_bl fx hk' (v := .type "tuple") (by decide) (by kernel_rfl) (.type _) rfl ?_
        (refine al_cons ?_; refine aw_loc (by assumption) rfl rfl ?_; refine al_nil ?_)
        refine ac_tuple_t ?_
        refine al_cons (aw_bl fx hk' (v := .type "tuple") (by decide) (by kernel_rfl) (.type _) rfl ?_)
        (refine al_cons ?_; refine aw_loc (by assumption) rfl rfl ?_; refine al_nil ?_)
        refine ac_tuple_t ?_
        (refine al_cons ?_; refine aw_loc (by assumption) rfl rfl ?_; refine al_nil ?_)
        refine ⟨[.str rule, .tup (cl.map PV.int), .tup (pr.map PV.int), note], rfl, by show 4 ≤ sizeLine; exact ar144 sl, ?_⟩
        refine al_nil ?_
        refine ac_append (.tail .head) (by simp; exact ar47 hn sl) ?_
        (refine ax_cons ?_; refine ax_if ?_; refine ab_bool ?_; refine ab_and ?_; refine ab_cmp ?_)
        refine aw_bl fx hk' (v := .builtin "len") (by decide) (by kernel_rfl) (.blt _) rfl ?_
        (refine al_cons ?_; refine aw_loc (by assumption) rfl rfl ?_; refine al_nil ?_)
        refine ac_lent (by simp; exact Int.ofNat_lt.mpr (Nat.lt_of_le_of_lt hcl (by decide))) ?_
        refine aw_int ?_
        refine ao_eqi (at_bool ?_)
        rw [List.length_map]
        have e0 : ∀ c : List Int, ((c.length : Int) == 0) = decide (c.length = 0) := fun c => by
          rw [Bool.eq_iff_iff]; simp
        rw [e0]
        have e1 : addTo p rule cl pr note = { p with steps := p.steps ++ [.tup [.str rule, .tup (cl.map PV.int), .tup (pr.map PV.int), note]], empty := if cl.length = 0 ∧ p.empty < 0 then p.steps.length else p.empty } := rfl
        by_cases hc0 : cl.length = 0
        · rw [decide_eq_true hc0, if_pos rfl]
          refine ab_and (ab_cmp (aw_attr ?_))
          refine aw_loc (by assumption) rfl rfl ?_
          refine ao_attr fx.ok g3.1 (.head _) (D := .d (.int p.empty)) rfl trivial ?_
          refine aw_int ?_
          refine ao_lt (at_bool ?_)
          by_cases he : p.empty < 0
          · rw [if_pos ⟨hc0, he⟩] at e1
            rw [decide_eq_true he, if_pos rfl]
            refine ab_and_nil ?_
            first | refine ite_t ?_ | rw [if_pos rfl]
            (refine ax_cons ?_; refine ax_setattr (Fx.ok (by assumption)) ?_; refine aw_loc (by assumption) rfl rfl ?_; refine aw_loc (by assumption) rfl rfl ?_)
            refine ⟨213, dx, _, _, rfl, g3.2, .head, by show 3 < 1000; decide, ?_⟩
            refine ax_nil ?_
            (refine ax_cons ?_; refine ax_ret ?_; refine aw_loc (by assumption) rfl rfl ?_)
            refine ⟨[], prMu dx a₁ a₂ (addTo p rule cl pr note), ?_, rfl, _, List.perm_append_comm, h⟩
            rw [e1]; simp [prMu]; rfl
          · rw [if_neg (fun z => he z.2)] at e1
            rw [decide_eq_false he, if_neg (by decide), if_neg (by decide)]
            refine ax_nil ?_
            (refine ax_cons ?_; refine ax_ret ?_; refine aw_loc (by assumption) rfl rfl ?_)
            refine ⟨[], prMu dx a₁ a₂ (addTo p rule cl pr note), ?_, rfl, _, List.perm_append_comm, h⟩
            rw [e1]; simp [prMu]
        · rw [if_neg (fun z => hc0 z.1)] at e1
          rw [decide_eq_false hc0, if_neg (by decide), if_neg (by decide)]
          refine ax_nil ?_
          (refine ax_cons ?_; refine ax_ret ?_; refine aw_loc (by assumption) rfl rfl ?_)
          refine ⟨[], prMu dx a₁ a₂ (addTo p rule cl pr note), ?_, rfl, _, List.perm_append_comm, h⟩
          rw [e1]; simp [prMu]
      · rintro o cs σ' ⟨hm, hall, rfl⟩
        have ho := hpr o (hm o (.head _))
        rw [List.all_cons] at hall
        (refine as_name ?_; refine an_loc (by assumption) rfl ?_; (try dsimp only); refine ax_cons ?_; refine ax_if ?_; refine ab_not ?_; refine ab_chain ?_; refine aw_int ?_; refine aw_loc (by assumption) rfl rfl ?_)
        refine ao_le (at_bool ?_)
        have fault : (decide (0 ≤ o) && decide (o < p.steps.length)) = false → F p.steps.length := fun z => by
          rw [hall, z, Bool.false_and] at h
          rwa [if_neg (by decide)] at h
        have bad : ∀ R' PX', F p.steps.length → AX G pf (k.call (("Steps." : Str) ++ fnN (clsB 8) 7) (fnS (clsB 8) 7) L 149 cd [])
            ⟨put "one" (.d (.int o)) [("number", .d (.int p.steps.length)), ("self", prD dx), ("rule", .d (.str rule)), ("clause", .d (.tup (cl.map PV.int))), ("premises", .d (.tup (pr.map PV.int))), ("note", .d note)], prMu dx a₁ a₂ p⟩
            (execs (match (fnB (clsB 8) 7)[3]? with | some (Stmt.For _ _ [Stmt.If _ b _ _] _ _) => b | _ => []) (k.call (("Steps." : Str) ++ fnN (clsB 8) 7) (fnS (clsB 8) 7) L 149 cd []).env) R' PX' F := fun R' PX' hF => by
          have il := int_text o ho
          refine ax_cons (ax_fault fx.ok hk' fx.pfx (rm.less (by exact Nat.le_add_left _ _)) rfl fx.pfn ?_)
          refine aw_joined (aw_fmt (aw_loc hk' rfl rfl (.inr ⟨rule, rfl, by exact ar47 hr.2 sl, _, rfl, ?_, aw_str ⟨_, rfl, ?_, aw_fmt (aw_loc hk' rfl rfl (.inl ⟨o, rfl, ho, _, rfl, ?_, aw_str ⟨_, rfl, ?_, ⟨_, rfl⟩, ?_⟩⟩))⟩⟩)))
          · rw [len_app, sl]; show 0 + _ ≤ _; exact Nat.le_trans (Nat.add_le_add_left hr.2 _) (by decide)
          · rw [len_app, len_app, sl]; show 0 + _ + 14 ≤ _; exact Nat.le_trans (Nat.add_le_add_right (Nat.add_le_add_left hr.2 _) _) (by decide)
          · rw [len_app, len_app, len_app, sl]; show 0 + _ + 14 + _ ≤ _; exact Nat.le_trans (Nat.add_le_add (Nat.add_le_add_right (Nat.add_le_add_left hr.2 _) _) il) (by decide)
          · rw [len_app, len_app, len_app, len_app, sl]; show 0 + _ + 14 + _ + 21 ≤ _; exact ar147 hr.2 il
          refine aw_loc (by assumption) rfl rfl ?_
          exact ⟨_, rfl, hF⟩
        cases q5 : decide ((0 : Int) ≤ o) with
        | false =>
          rw [if_neg (by decide), if_pos (by rfl)]
          exact bad _ _ (fault (by rw [q5]; rfl))
        | true =>
          first | refine ite_t ?_ | rw [if_pos rfl]
          refine aw_loc (by assumption) rfl rfl ?_
          refine ao_lt (at_bool ?_)
          cases q6 : decide (o < (p.steps.length : Int)) with
          | false =>
            rw [if_pos (by rfl)]
            exact bad _ _ (fault (by rw [q5, q6]; rfl))
          | true =>
            first | refine ite_f ?_ | rw [if_neg (by decide)]
            rw [q5, q6, Bool.true_and, Bool.true_and] at hall
            refine ax_nil (ax_nil_f (σ' := ⟨[("number", .d (.int p.steps.length)), ("self", prD dx), ("rule", .d (.str rule)), ("clause", .d (.tup (cl.map PV.int))), ("premises", .d (.tup (pr.map PV.int))), ("note", .d note)], _⟩) ⟨rfl, rfl, rfl, rfl, rfl, rfl, trivial⟩ rfl ?_)
            exact ⟨fun c z => hm c (.tail _ z), hall, rfl⟩
structure Ro (row : Str) : Prop where
  len : row.length ≤ 100000
  n : (Txt.split row "|").length ≤ 100000
  ne : Txt.split row "|" ≠ []
  part : ∀ q ∈ Txt.split row "|", Wds q ∧ Wds (spread q) ∧ (Txt.replace q "(" " ( ").length ≤ 1000000 ∧ (∀ w ∈ Txt.words q, isnum w = true → Nat.log2 (Int.natAbs (pint w)) < 1920)
inductive StepR where
  | bad (n : Int)
  | ok (p : PrS)
theorem no_sr {n : Int} {p : PrS} {P : Prop} (h : StepR.bad n = StepR.ok p) : P := nomatch h
noncomputable def strI (n : Nat) : Str := Str.ofString (toString (n : Int))
noncomputable def stepR (p : PrS) (row : Str) (wh : Int) : StepR :=
  match Txt.split row "|" with
  | [q0, q1, q2, q3] => (match Txt.words q0 with
    | [_, b, c] => if b == strI p.steps.length then (match numsIn q1 with
        | none => .bad wh
        | some cl => match numsIn q2 with
          | none => .bad wh
          | some pr => match noteFrom q3 with
            | none => .bad wh
            | some note => if addOk p c cl pr then .ok (addTo p c cl pr note) else .bad p.steps.length) else .bad wh
    | _ => .bad wh)
  | _ => .bad wh
theorem numsIn_some {x : Str} {l : List Int} (h : numsIn x = some l) : l.length ≤ (Txt.words x).length ∧ ∀ o ∈ l, ∃ w ∈ Txt.words x, isnum w = true ∧ o = pint w := by
  unfold numsIn at h
  split at h
  · obtain rfl := Option.some.inj h; exact ⟨Nat.zero_le _, fun o ho => nomatch ho⟩
  · split at h
    · rename_i ha
      obtain rfl := Option.some.inj h
      refine ⟨by simp, fun o ho => ?_⟩
      obtain ⟨w, hw, rfl⟩ := List.mem_map.mp ho
      exact ⟨w, hw, List.all_eq_true.mp ha w hw, rfl⟩
    · exact no_ns h
theorem log2_small {n : Nat} (h : n ≤ 100000) : Nat.log2 (Int.natAbs (n : Int)) < 1920 := by
  rw [Int.natAbs_natCast]
  rcases Nat.eq_zero_or_pos n with rfl | hp
  · decide
  · exact Nat.lt_of_lt_of_le ((Nat.log2_lt (k := 17) (Nat.pos_iff_ne_zero.mp hp)).mpr (Nat.lt_of_le_of_lt h (by decide))) (by decide)
theorem c_read_step (fx : Fx G pf) (hk : k.Ok) {dx a₁ a₂ : Addr} {p : PrS} {own : List (Addr × MO)} {row : Str} {wh : Int} (hmu : σ.mu = prMu dx a₁ a₂ p ++ own) (hr : Ro row) (hn : p.steps.length ≤ 100000) (room : Room k.A 7)
    (h : match stepR p row wh with | .bad n => F n | .ok p' => P ⟨σ.loc, prMu dx a₁ a₂ p' ++ own⟩ (.d .none)) : AC G pf k σ (.ref 244) [prD dx, .d (.str row), .d (.int wh)] P F := by
  refine AC.perm (mu := own ++ prMu dx a₁ a₂ p) (by rw [hmu]; exact List.perm_append_comm) ?_
  refine AC.post (ac_def fx.ok hk (fx.k (a := 244) (i := 14) (by decide)) (n := 6) room (own := own) (muIn := prMu dx a₁ a₂ p) rfl ["proof", "row", "where"] (fun name doc pm an cdv ct vs hvs => ?_) rfl (by decide +kernel) (by decide +kernel) rfl rfl rfl fun L cd hk' hF' rm => ?_)
  · obtain ⟨a, b, c, rfl⟩ := len3 hvs; rfl
  have sl := sl_eq
  have rl := hr.len
  have rn := hr.n
  (refine ax_cons ?_; refine ax_asgn ?_)
  refine aw_meth fx.ok PySem.F.plainAttrs_str PySem.F.slot_str_split (by kernel_rfl) (aw_loc hk' rfl rfl ⟨rfl, ?_⟩)
  (refine al_cons ?_; refine aw_str ?_; refine al_nil ?_)
  refine ac_split1 (by decide) (by exact ar102 sl rl) ?_
  (refine an_loc (by assumption) rfl ?_; dsimp only; refine ax_cons ?_; refine ax_asgn ?_)
  unfold stepR at h
  have hpart := hr.part
  have hne := hr.ne
  generalize Txt.split row "|" = parts at h hpart hne rn ⊢
  obtain ⟨q0, rest, rfl⟩ : ∃ q0 rest, parts = q0 :: rest := by
    cases parts with
    | nil => exact absurd rfl hne
    | cons a b => exact ⟨a, b, rfl⟩
  have h0 := hpart q0 (.head _)
  refine aw_meth fx.ok PySem.F.plainAttrs_str PySem.F.slot_str_split (by kernel_rfl) (aw_sub ?_)
  (refine aw_loc (by assumption) rfl rfl ?_; refine aw_int ?_)
  refine ao_item_list (d := .str q0) (by decide) (by decide) rfl ?_
  refine ⟨rfl, ?_⟩
  refine al_nil ?_
  refine ac_split0 (by have := h0.1.len; exact ar102 sl this) ?_
  (refine an_loc (by assumption) rfl ?_; dsimp only; refine ax_cons ?_; refine ax_if ?_; refine ab_bool ?_; refine ab_or ?_; refine ab_cmp ?_)
  refine aw_bl fx hk' (v := .builtin "len") (by decide) (by kernel_rfl) (.blt _) rfl ?_
  (refine al_cons ?_; refine aw_loc (by assumption) rfl rfl ?_; refine al_nil ?_)
  refine ac_lenl (by simp only [List.length_map]; exact Int.ofNat_lt.mpr (Nat.lt_of_le_of_lt rn (by decide))) ?_
  refine aw_int ?_
  refine ao_nei (at_bool ?_)
  have bad : ∀ R' PX' mu, F wh → AX G pf (k.call (fnN topB 14) (fnS topB 14) L 244 cd []) ⟨put "head" (.d (.lst ((Txt.words q0).map PV.str))) (put "parts" (.d (.lst ((q0 :: rest).map PV.str))) ((["proof", "row", "where"] : List Str).zip [prD dx, .d (.str row), .d (.int wh)]).reverse), mu⟩
      (execs (match (fnB topB 14)[2]? with | some (Stmt.If _ b _ _) => b | _ => []) (k.call (fnN topB 14) (fnS topB 14) L 244 cd []).env) R' PX' F := fun R' PX' mu hF => by
    refine ax_cons (ax_fault fx.ok hk' fx.pfx (rm.less (by exact Nat.le_add_left _ _)) rfl fx.pfn (aw_str ⟨⟨_, rfl⟩, ?_⟩))
    refine aw_loc (by assumption) rfl rfl ?_
    exact ⟨wh, rfl, hF⟩
  have lenN : ∀ l : List Str, ((((q0 :: l).map PV.str).length : Int) != 4) = decide (l.length ≠ 3) := fun l => by
    rw [Bool.eq_iff_iff]; simp; exact ar150
  rw [lenN]
  rcases rest with _ | ⟨q1, _ | ⟨q2, _ | ⟨q3, _ | ⟨q4, r⟩⟩⟩⟩
  · rw [if_pos (by rfl), if_pos rfl]; exact bad _ _ _ h
  · rw [if_pos (by rfl), if_pos rfl]; exact bad _ _ _ h
  · rw [if_pos (by rfl), if_pos rfl]; exact bad _ _ _ h
  · rw [if_neg (by simp)]
    have h1 := hpart q1 (.tail _ (.head _))
    have h2 := hpart q2 (.tail _ (.tail _ (.head _)))
    have h3 := hpart q3 (.tail _ (.tail _ (.tail _ (.head _))))
    (refine ab_or ?_; refine ab_cmp ?_)
    refine aw_bl fx hk' (v := .builtin "len") (by decide) (by kernel_rfl) (.blt _) rfl ?_
    (refine al_cons ?_; refine aw_loc (by assumption) rfl rfl ?_; refine al_nil ?_)
    refine ac_lenl (by have := h0.1.n; simp only [List.length_map]; exact Int.ofNat_lt.mpr (Nat.lt_of_le_of_lt this (by decide))) ?_
    refine aw_int ?_
    refine ao_nei (at_bool ?_)
    have hw0 := h0.1.w
    have hw0n := h0.1.n
    dsimp only at h
    generalize Txt.words q0 = hd at h bad hw0 hw0n ⊢
    have lenH : (((hd.map PV.str).length : Int) != 3) = decide (hd.length ≠ 3) := by
      rw [Bool.eq_iff_iff]; simp; exact ar151
    rw [lenH]
    rcases hd with _ | ⟨b0, _ | ⟨b1, _ | ⟨b2, _ | ⟨b3, r⟩⟩⟩⟩
    · rw [if_pos (by simp), if_pos rfl]; exact bad _ _ _ h
    · rw [if_pos (by simp), if_pos rfl]; exact bad _ _ _ h
    · rw [if_pos (by simp), if_pos rfl]; exact bad _ _ _ h
    · rw [if_neg (by simp)]
      dsimp only at h
      (refine ab_or ?_; refine ab_cmp ?_; refine aw_sub ?_; refine aw_loc (by assumption) rfl rfl ?_; refine aw_int ?_)
      refine ao_item_list (d := .str b1) (by decide) (by decide) rfl ?_
      refine aw_bl fx hk' (v := .type "str") (by decide) (by kernel_rfl) (.type _) rfl ?_
      refine al_cons (aw_imeth fx.ok ?_)
      refine aw_loc (by assumption) rfl rfl ?_
      refine ⟨213, dx, _, 128, rfl, .head _, fx.msize, rfl, ?_⟩
      refine al_nil (c_size fx hk' (p := p) (a₁ := a₁) (a₂ := a₂) (own := []) (by simp) hn (rm.less (by exact Nat.succ_pos _)) ?_)
      refine al_nil ?_
      refine ac_stri ?_ ?_
      · exact log2_small (by exact hn)
      refine ao_nes (at_bool ?_)
      show if (b1 != strI p.steps.length) = true then _ else _
      cases qb : (b1 == strI p.steps.length) with
      | false =>
        rw [qb, if_neg (by decide)] at h
        rw [if_pos (by simp [bne, qb])]
        refine ax_cons (ax_fault fx.ok hk' fx.pfx (rm.less (by exact Nat.le_add_left _ _)) rfl fx.pfn (aw_str ⟨⟨_, rfl⟩, ?_⟩))
        refine aw_loc (by assumption) rfl rfl ?_
        exact ⟨wh, rfl, h⟩
      | true =>
        rw [qb, if_pos rfl] at h
        rw [if_neg (by simp [bne, qb])]
        refine ab_or_nil ?_
        first | refine ite_f ?_ | rw [if_neg (by decide)]
        refine ax_nil ?_
        refine ax_cons (ax_expr (aw_imeth fx.ok ?_))
        refine aw_loc (by assumption) rfl rfl ?_
        refine ⟨213, dx, _, 149, rfl, .head _, fx.madd, rfl, ?_⟩
        (refine al_cons ?_; refine aw_sub ?_; refine aw_loc (by assumption) rfl rfl ?_; refine aw_int ?_)
        refine ao_item_list (d := .str b2) (by decide) (by decide) rfl ?_
        refine al_cons (aw_fn fx hk' (a := 230) (i := 12) (by decide) rfl rfl ?_)
        (refine al_cons ?_; refine aw_sub ?_; refine aw_loc (by assumption) rfl rfl ?_; refine aw_int ?_)
        refine ao_item_list (d := .str q1) (by decide) (by decide) rfl ?_
        (refine al_cons ?_; refine aw_loc (by assumption) rfl rfl ?_; refine al_nil ?_)
        refine c_numsIn fx hk' h1.1 (rm.less (by exact Nat.le_add_left _ _)) ?_
        cases e1 : numsIn q1 with
        | none => rw [e1] at h; exact h
        | some cl =>
          rw [e1] at h
          dsimp only at h ⊢
          refine al_cons (aw_fn fx hk' (a := 230) (i := 12) (by decide) rfl rfl ?_)
          (refine al_cons ?_; refine aw_sub ?_; refine aw_loc (by assumption) rfl rfl ?_; refine aw_int ?_)
          refine ao_item_list (d := .str q2) (by decide) (by decide) rfl ?_
          (refine al_cons ?_; refine aw_loc (by assumption) rfl rfl ?_; refine al_nil ?_)
          refine c_numsIn fx hk' h2.1 (rm.less (by exact Nat.le_add_left _ _)) ?_
          cases e2 : numsIn q2 with
          | none => rw [e2] at h; exact h
          | some pr =>
            rw [e2] at h
            dsimp only at h ⊢
            refine al_cons (aw_fn fx hk' (a := 237) (i := 13) (by decide) rfl rfl ?_)
            (refine al_cons ?_; refine aw_sub ?_; refine aw_loc (by assumption) rfl rfl ?_; refine aw_int ?_)
            refine ao_item_list (d := .str q3) (by decide) (by decide) rfl ?_
            (refine al_cons ?_; refine aw_loc (by assumption) rfl rfl ?_; refine al_nil ?_)
            refine c_note_from fx hk' (by have := h3.1.len; exact Nat.le_trans this (by decide)) h3.2.2.1 h3.2.1 (rm.less (by exact Nat.le_add_left _ _)) ?_
            cases e3 : noteFrom q3 with
            | none => rw [e3] at h; exact h
            | some note =>
              rw [e3] at h
              dsimp only at h ⊢
              refine al_nil ?_
              refine c_add fx hk' (p := p) (a₁ := a₁) (a₂ := a₂) (own := []) (by simp) (hw0 b2 (.tail _ (.tail _ (.head _)))) ?_ ?_ ?_ hn (rm.less (by exact Nat.le_add_left _ _)) ?_
              · exact Nat.le_trans (numsIn_some e1).1 h1.1.n
              · exact Nat.le_trans (numsIn_some e2).1 h2.1.n
              · intro o ho
                obtain ⟨w, hw, hi, rfl⟩ := (numsIn_some e2).2 o ho
                exact h2.2.2.2 w hw hi
              cases e4 : addOk p b2 cl pr with
              | false =>
                rw [e4, if_neg (by decide)] at h
                first | refine ite_f ?_ | rw [if_neg (by decide)]
                exact h
              | true =>
                rw [e4, if_pos rfl] at h
                first | refine ite_t ?_ | rw [if_pos rfl]
                refine ax_nil ?_
                exact ⟨[], prMu dx a₁ a₂ (addTo p b2 cl pr note), by simp, rfl, _, List.perm_append_comm, h⟩
    · rw [if_pos (by simp), if_pos rfl]; exact bad _ _ _ h
  · rw [if_pos (by simp), if_pos rfl]; exact bad _ _ _ h
noncomputable def rowOf (r : Str) : Str := (Txt.split r ";").headD Str.empty
noncomputable def rowR (p : PrS) (r : Str) (wh : Int) : StepR :=
  let row := rowOf r
  match Txt.words row with
  | [] => .ok p
  | w0 :: ws => if ((w0 :: ws).length : Int) == 3 && w0 == ("name" : Str) then
      (if isnum (ws.getD 0 Str.empty) && isnum (ws.getD 1 Str.empty) then (if pint (ws.getD 0 Str.empty) = p.named.length then .ok { p with named := p.named ++ [pint (ws.getD 1 Str.empty)] } else .bad (-1)) else .bad wh)
    else if w0 == ("step" : Str) then stepR p row wh else .bad wh
noncomputable def rowsR : List Str → Int → PrS → StepR
  | [], _, p => .ok p
  | r :: rs, wh, p => match rowR p r wh with | .bad n => .bad n | .ok p' => rowsR rs (wh + 1) p'
noncomputable def rowsOf (x : Str) : List Str := if x != Str.empty then Txt.split x "\n" else []
noncomputable def readR (x : Str) : StepR := rowsR (rowsOf x) 0 ⟨[], [0], -1⟩
structure Tx (x : Str) : Prop where
  len : x.length ≤ 100000
  n : (rowsOf x).length ≤ 50000
  row : ∀ r ∈ rowsOf x, Txt.split r ";" ≠ [] ∧ (Txt.split r ";").length ≤ 100000 ∧ r.length ≤ 100000 ∧ Ro (rowOf r) ∧ Wds (rowOf r) ∧ (∀ w ∈ Txt.words (rowOf r), isnum w = true → Nat.log2 (Int.natAbs (pint w)) < 1920)
theorem stepR_ok {p p' : PrS} {row : Str} {wh : Int} (h : stepR p row wh = .ok p') : p'.steps.length ≤ p.steps.length + 1 ∧ p'.named.length = p.named.length := by
  unfold stepR at h
  repeat' (split at h <;> try (cases h; done))
  cases h
  simp [addTo]
theorem c_read_proof (fx : Fx G pf) (hk : k.Ok) {x : Str} (hx : Tx x) (room : Room k.A 9)
    (h : match readR x with | .bad n => F n | .ok p' => ∀ dx a₁ a₂, P ⟨σ.loc, prMu dx a₁ a₂ p' ++ σ.mu⟩ (prD dx)) : AC G pf k σ (.ref 251) [.d (.str x)] P F := by
  refine AC.post (acc_defE fx.ok hk (fx.k (a := 251) (i := 15) (by decide)) (n := 8) room (own := σ.mu) (muIn := []) (by simp) ["text"] (fun name doc pm an cdv ct vs hvs => ?_) rfl (by decide +kernel) (by decide +kernel) rfl rfl rfl fun L cd hk' hF' rm => ?_).ac
  · obtain ⟨a, rfl⟩ := len1 hvs; rfl
  have sl := sl_eq
  have xl := hx.len
  have xn := hx.n
  obtain ⟨m1, m2, m3, m4, m5⟩ := fx.make
  refine ax_cons (ax_asgn ?_)
  refine aw_call fx.ok (aw_glob fx.ok hk' rfl m5 ⟨_, rfl, .own m4, al_nil ?_⟩)
  refine ACc.ac (acc_make fx.ok m1 m2 m3 fun dx vs hvs => ?_)
  refine c_init (k := (k.call (fnN topB 15) (fnS topB 15) L 251 cd []).init 213 vs) fx hk'.init rfl (rm.less (by exact Nat.le_add_left _ _) : Room _ 2).init fun a₁ a₂ => ⟨rfl, ?_⟩
  (refine an_loc (by assumption) rfl ?_; dsimp only)
  refine ax_cons (ax_asgn (aw_same (.d (.lst ((rowsOf x).map PV.str))) ?_ ?_))
  · refine aw_ife ?_
    (refine ab_cmp ?_; refine aw_loc (by assumption) rfl rfl ?_; refine aw_str ?_)
    refine ao_nes (at_bool ?_)
    unfold rowsOf
    rw [show ("" : Str) = Str.empty from rfl]
    cases q : (x != Str.empty) with
    | true =>
      rw [if_pos rfl, if_pos rfl]
      refine aw_meth fx.ok PySem.F.plainAttrs_str PySem.F.slot_str_split (by kernel_rfl) (aw_loc hk' rfl rfl ⟨rfl, ?_⟩)
      (refine al_cons ?_; refine aw_str ?_; refine al_nil ?_)
      exact ac_split1 (by decide +kernel) (by exact ar102 sl xl) ⟨rfl, rfl⟩
    | false =>
      rw [if_neg (by decide), if_neg (by decide)]
      exact aw_listD (al_nil ⟨[], rfl, Nat.zero_le _, rfl, rfl⟩)
  (refine an_loc (by assumption) rfl ?_; dsimp only)
  refine ax_cons (ax_for hk' hF' ?_)
  refine aw_bl fx hk' (v := .type "range") (by decide) (by kernel_rfl) (.type _) rfl ?_
  refine al_cons (aw_bl fx hk' (v := .builtin "len") (by decide) (by kernel_rfl) (.blt _) rfl ?_)
  (refine al_cons ?_; refine aw_loc (by assumption) rfl rfl ?_; refine al_nil ?_)
  refine ac_lenl (by simp only [List.length_map]; exact Int.ofNat_lt.mpr (Nat.lt_of_le_of_lt xn (by decide))) ?_
  refine al_nil ?_
  refine ac_range fun o ho => ⟨_, src_range hk' ho (by simp only [List.length_map]; exact Int.ofNat_lt.mpr (Nat.lt_of_le_of_lt xn (by decide))) (by simp only [List.length_map]; exact ar130), ?_⟩
  have e : rngs (((rowsOf x).map PV.str).length : Int) = (List.range (rowsOf x).length).map fun (i : Nat) => PV.int (i : Int) := by unfold rngs; simp
  rw [e]
  refine af_ind (fun (i : Nat) => PV.int (i : Int)) (fun cs σ' => (Ex2 fun (n : Nat) (p : PrS) => And6 (cs = List.range' n ((rowsOf x).length - n)) (n ≤ (rowsOf x).length) (rowsR ((rowsOf x).drop n) n p = readR x) (p.steps.length ≤ n) (p.named.length ≤ n + 1) (σ' = ⟨[("rows", .d (.lst ((rowsOf x).map PV.str))), ("proof", prD dx), ("text", .d (.str x))], prMu dx a₁ a₂ p⟩))) ?_ ?_ _ _ ⟨0, ⟨[], [0], -1⟩, by rw [List.range_eq_range']; simp, Nat.zero_le _, rfl, Nat.le_refl _, Nat.le_refl _, rfl⟩
  · rintro σ' ⟨n, p, hcs, hn, hrd, hp1, hp2, rfl⟩
    have hn0 : (rowsOf x).length - n = 0 := by
      have := congrArg List.length hcs
      simpa using this.symm
    rw [List.drop_eq_nil_of_le (by exact ar159 hn0)] at hrd
    rw [← hrd] at h
    (refine ax_cons ?_; refine ax_ret ?_; refine aw_loc (by assumption) rfl rfl ?_)
    refine ⟨prMu dx a₁ a₂ p, [], by simp, rfl, _, List.Perm.append_left _ (by simp), h dx a₁ a₂⟩
  · rintro i cs σ' ⟨n, p, hcs, hn, hrd, hp1, hp2, rfl⟩
    have hlt : n < (rowsOf x).length := by
      rcases Nat.lt_or_ge n (rowsOf x).length with z | z
      · exact z
      · rw [show (rowsOf x).length - n = 0 by exact ar160 z] at hcs; cases hcs
    obtain ⟨hi, hcs'⟩ : i = n ∧ cs = List.range' (n + 1) ((rowsOf x).length - (n + 1)) := by
      rw [show (rowsOf x).length - n = ((rowsOf x).length - (n + 1)) + 1 by exact ar161 hlt, List.range'_succ] at hcs
      exact ⟨(List.cons.inj hcs).1, (List.cons.inj hcs).2⟩
    subst hi
    obtain ⟨r, hr⟩ : ∃ r, (rowsOf x)[i]? = some r := ⟨(rowsOf x)[i], by simp [hlt]⟩
    have hrm := hx.row r (List.mem_of_getElem? hr)
    have hd : (rowsOf x).drop i = r :: (rowsOf x).drop (i + 1) := by
      rw [List.drop_eq_getElem_cons hlt]
      rw [List.getElem?_eq_getElem hlt] at hr
      obtain rfl := Option.some.inj hr; rfl
    rw [hd, rowsR] at hrd
    (refine as_name ?_; refine an_loc (by assumption) rfl ?_; dsimp only; refine ax_cons ?_; refine ax_asgn ?_; refine aw_sub ?_)
    refine aw_meth fx.ok PySem.F.plainAttrs_str PySem.F.slot_str_split (by kernel_rfl) (aw_sub ?_)
    (refine aw_loc (by assumption) rfl rfl ?_; refine aw_loc (by assumption) rfl rfl ?_)
    refine ao_item_list (d := .str r) (by exact ar68) (by exact Int.ofNat_lt.mpr (Nat.lt_of_le_of_lt hn (Nat.lt_of_le_of_lt xn (by decide)))) (by simpa using hr) ⟨rfl, ?_⟩
    (refine al_cons ?_; refine aw_str ?_; refine al_nil ?_)
    refine ac_split1 (by decide +kernel) (by have := hrm.2.2.1; exact ar102 sl hrm.2.2.1) ?_
    refine aw_int ?_
    refine ao_item_list (d := .str (rowOf r)) (by decide) (by decide) ?_ ?_
    · unfold rowOf
      cases q : Txt.split r ";" with
      | nil => exact absurd q hrm.1
      | cons a b => rfl
    (refine an_loc (by assumption) rfl ?_; dsimp only; refine ax_cons ?_; refine ax_asgn ?_)
    refine aw_meth fx.ok PySem.F.plainAttrs_str PySem.F.slot_str_split (by kernel_rfl) (aw_loc hk' rfl rfl ⟨rfl, ?_⟩)
    refine al_nil ?_
    refine ac_split0 (by have := hrm.2.2.2.2.1.len; exact ar102 sl this) ?_
    (refine an_loc (by assumption) rfl ?_; dsimp only; refine ax_cons ?_; refine ax_if ?_; refine ab_bool ?_; refine ab_and ?_; refine ab_cmp ?_)
    have W := hrm.2.2.2.2.1
    have hw := W.w
    have hwn := W.n
    have hwnum := W.num
    have hwlog := hrm.2.2.2.2.2
    refine aw_bl fx hk' (v := .builtin "len") (by decide) (by kernel_rfl) (.blt _) rfl ?_
    (refine al_cons ?_; refine aw_loc (by assumption) rfl rfl ?_; refine al_nil ?_)
    refine ac_lenl (by simp only [List.length_map]; exact Int.ofNat_lt.mpr (Nat.lt_of_le_of_lt hwn (by decide))) ?_
    refine aw_int ?_
    refine ao_eqi (at_bool ?_)
    rw [List.length_map]
    have rowEq : rowR p r i = match Txt.words (rowOf r) with
      | [] => .ok p
      | w0 :: ws => if ((w0 :: ws).length : Int) == 3 && w0 == ("name" : Str) then
          (if isnum (ws.getD 0 Str.empty) && isnum (ws.getD 1 Str.empty) then (if pint (ws.getD 0 Str.empty) = p.named.length then .ok { p with named := p.named ++ [pint (ws.getD 1 Str.empty)] } else .bad (-1)) else .bad i)
        else if w0 == ("step" : Str) then stepR p (rowOf r) i else .bad i := rfl
    rw [rowEq] at hrd
    clear rowEq
    generalize Txt.words (rowOf r) = wds at hw hwn hwnum hwlog hrd ⊢
    rcases wds with _ | ⟨w0, ws⟩
    · -- an empty row
      dsimp only at hrd
      rw [show ((([] : List Str).length : Int) == 3) = false from rfl, if_neg (by decide), if_neg (by decide)]
      (refine ax_cons ?_; refine ax_if ?_; refine ab_bool ?_; refine ab_and ?_; refine ab_cmp ?_)
      refine aw_bl fx hk' (v := .builtin "len") (by decide) (by kernel_rfl) (.blt _) rfl ?_
      (refine al_cons ?_; refine aw_loc (by assumption) rfl rfl ?_; refine al_nil ?_)
      refine ac_lenl (by simp) ?_
      refine aw_int ?_
      refine ao_gt (at_bool ?_)
      rw [show decide ((0 : Int) < ((([] : List Str).map PV.str).length : Int)) = false from rfl, if_neg (by decide), if_neg (by decide)]
      (refine ax_cons ?_; refine ax_if ?_; refine ab_cmp ?_)
      refine aw_bl fx hk' (v := .builtin "len") (by decide) (by kernel_rfl) (.blt _) rfl ?_
      (refine al_cons ?_; refine aw_loc (by assumption) rfl rfl ?_; refine al_nil ?_)
      refine ac_lenl (by simp) ?_
      refine aw_int ?_
      refine ao_gt (at_bool ?_)
      rw [show decide ((0 : Int) < ((([] : List Str).map PV.str).length : Int)) = false from rfl, if_neg (by decide)]
      refine ax_nil (ax_nil (ax_nil (ax_nil_f (σ' := ⟨[("rows", .d (.lst ((rowsOf x).map PV.str))), ("proof", prD dx), ("text", .d (.str x))], prMu dx a₁ a₂ p⟩) ⟨rfl, rfl, rfl, trivial⟩ rfl ?_)))
      exact ⟨i + 1, p, hcs', by exact hlt, hrd, by exact Nat.le_succ_of_le hp1, by exact Nat.le_succ_of_le hp2, rfl⟩
    -- a row with words
    have fin : ∀ p', (match (StepR.ok p') with | .bad n => StepR.bad n | .ok p' => rowsR ((rowsOf x).drop (i + 1)) ((i : Int) + 1) p') = readR x → p'.steps.length ≤ i + 1 → p'.named.length ≤ i + 2 →
        (Ex2 fun (n : Nat) (p : PrS) => And6 (cs = List.range' n ((rowsOf x).length - n)) (n ≤ (rowsOf x).length) (rowsR ((rowsOf x).drop n) n p = readR x) (p.steps.length ≤ n) (p.named.length ≤ n + 1) ((⟨[("rows", .d (.lst ((rowsOf x).map PV.str))), ("proof", prD dx), ("text", .d (.str x))], prMu dx a₁ a₂ p'⟩ : St) = ⟨[("rows", .d (.lst ((rowsOf x).map PV.str))), ("proof", prD dx), ("text", .d (.str x))], prMu dx a₁ a₂ p⟩)) :=
      fun p' z1 z2 z3 => ⟨i + 1, p', hcs', by exact hlt, z1, by exact z2, by exact z3, rfl⟩
    have bad : ∀ n, (match (StepR.bad n) with | .bad n => StepR.bad n | .ok p' => rowsR ((rowsOf x).drop (i + 1)) ((i : Int) + 1) p') = readR x → F n := fun n z => by
      rw [← z] at h; exact h
    have pos : ∀ l : List PV, decide ((0 : Int) < ((PV.str w0 :: l).length : Int)) = true := fun l => by simp
    dsimp only at hrd
    rw [show (((w0 :: ws).length : Int) == 3) = decide (ws.length = 2) by rw [Bool.eq_iff_iff]; simp; exact ar166] at hrd ⊢
    have rest : ∀ PX' R', (match (if w0 == ("step" : Str) then stepR p (rowOf r) i else .bad i) with | .bad n => StepR.bad n | .ok p' => rowsR ((rowsOf x).drop (i + 1)) ((i : Int) + 1) p') = readR x →
        (∀ p' : PrS, rowsR ((rowsOf x).drop (i + 1)) ((i : Int) + 1) p' = readR x → p'.steps.length ≤ i + 1 → p'.named.length ≤ i + 2 → ∀ loc, AllIn loc [("rows", .d (.lst ((rowsOf x).map PV.str))), ("proof", prD dx), ("text", .d (.str x))] → PX' ⟨loc, prMu dx a₁ a₂ p'⟩) →
        AX G pf (k.call (fnN topB 15) (fnS topB 15) L 251 cd []) ⟨put "words" (.d (.lst ((w0 :: ws).map PV.str))) (put "row" (.d (.str (rowOf r))) (put "where" (.d (.int i)) [("rows", .d (.lst ((rowsOf x).map PV.str))), ("proof", prD dx), ("text", .d (.str x))])), prMu dx a₁ a₂ p⟩
          (execs (match (fnB topB 15)[2]? with | some (Stmt.For _ _ [_, _, Stmt.If _ _ o _] _ _) => o | _ => []) (k.call (fnN topB 15) (fnS topB 15) L 251 cd []).env) PX' R' F := fun PX' R' hrd' fin => by
      refine ax_cons (ax_if ?_)
      (refine ab_bool ?_; refine ab_and ?_; refine ab_cmp ?_)
      refine aw_bl fx hk' (v := .builtin "len") (by decide) (by kernel_rfl) (.blt _) rfl ?_
      (refine al_cons ?_; refine aw_loc (by assumption) rfl rfl ?_; refine al_nil ?_)
      refine ac_lenl (by simp only [List.length_map]; exact Int.ofNat_lt.mpr (Nat.lt_of_le_of_lt hwn (by decide))) ?_
      refine aw_int ?_
      refine ao_gt (at_bool ?_)
      rw [List.map_cons, pos, if_pos rfl]
      (refine ab_and ?_; refine ab_cmp ?_; refine aw_sub ?_; refine aw_loc (by assumption) rfl rfl ?_; refine aw_int ?_)
      refine ao_item_list (d := .str w0) (by decide) (by decide) rfl ?_
      refine aw_str ?_
      refine ao_eqs (at_bool ?_)
      have ax_end : ∀ (σ₁ : St) PX₁ R₁, (∃ p' : PrS, σ₁.mu = prMu dx a₁ a₂ p' ∧ AllIn σ₁.loc [("rows", .d (.lst ((rowsOf x).map PV.str))), ("proof", prD dx), ("text", .d (.str x))] ∧ PX₁ ⟨σ₁.loc, prMu dx a₁ a₂ p'⟩) → AX G pf (k.call (fnN topB 15) (fnS topB 15) L 251 cd []) σ₁ (execs [] (k.call (fnN topB 15) (fnS topB 15) L 251 cd []).env) PX₁ R₁ F := fun σ₁ PX₁ R₁ ⟨p', z1, _, z2⟩ => by
        obtain ⟨l1, m1⟩ := σ₁
        dsimp only at z1 z2; subst z1
        exact ax_nil z2
      cases qs : (w0 == ("step" : Str)) with
      | true =>
        rw [qs, if_pos rfl] at hrd'
        first | refine ite_t ?_ | rw [if_pos rfl]
        refine ab_and_nil ?_
        first | refine ite_t ?_ | rw [if_pos rfl]
        refine ax_cons (ax_expr (aw_fn fx hk' (a := 244) (i := 14) (by decide) rfl rfl ?_))
        (refine al_cons ?_; refine aw_loc (by assumption) rfl rfl ?_; refine al_cons ?_; refine aw_loc (by assumption) rfl rfl ?_; refine al_cons ?_; refine aw_loc (by assumption) rfl rfl ?_; refine al_nil ?_)
        refine c_read_step fx hk' (p := p) (a₁ := a₁) (a₂ := a₂) (own := []) (by simp) hrm.2.2.2.1 (by exact Nat.le_trans hp1 (Nat.le_trans hn (Nat.le_trans xn (by decide)))) (rm.less (by exact Nat.le_add_left _ _)) ?_
        cases es : stepR p (rowOf r) i with
        | bad n => rw [es] at hrd'; exact bad n hrd'
        | ok p' =>
          rw [es] at hrd'
          dsimp only at hrd' ⊢
          have z := stepR_ok es
          refine ax_nil (ax_nil ?_)
          rw [List.append_nil]
          exact fin p' hrd' (by exact ar169 hp1 z.1) (by exact ar170 hp2 z.2) _ ⟨rfl, rfl, rfl, trivial⟩
      | false =>
        rw [qs, if_neg (by decide)] at hrd'
        rw [if_neg (by decide), if_neg (by decide)]
        refine ax_cons (ax_if ?_)
        refine ab_cmp ?_
        refine aw_bl fx hk' (v := .builtin "len") (by decide) (by kernel_rfl) (.blt _) rfl ?_
        (refine al_cons ?_; refine aw_loc (by assumption) rfl rfl ?_; refine al_nil ?_)
        refine ac_lenl (by simp only [List.length_map, List.length_cons] at hwn ⊢; exact Int.ofNat_lt.mpr (Nat.lt_of_le_of_lt hwn (by decide))) ?_
        refine aw_int ?_
        refine ao_gt (at_bool ?_)
        rw [pos, if_pos rfl]
        refine ax_cons (ax_fault fx.ok hk' fx.pfx (rm.less (by exact Nat.le_add_left _ _)) rfl fx.pfn (aw_str ⟨⟨_, rfl⟩, ?_⟩))
        refine aw_loc (by assumption) rfl rfl ?_
        exact ⟨i, rfl, bad _ hrd'⟩
    have fin2 : ∀ p' : PrS, rowsR ((rowsOf x).drop (i + 1)) ((i : Int) + 1) p' = readR x → p'.steps.length ≤ i + 1 → p'.named.length ≤ i + 2 → ∀ loc, AllIn loc [("rows", .d (.lst ((rowsOf x).map PV.str))), ("proof", prD dx), ("text", .d (.str x))] →
        AX G pf (k.call (fnN topB 15) (fnS topB 15) L 251 cd []) ⟨loc, prMu dx a₁ a₂ p'⟩ (execs [] (k.call (fnN topB 15) (fnS topB 15) L 251 cd []).env) (fun σ' => (Ex2 fun (n : Nat) (p : PrS) => And6 (cs = List.range' n ((rowsOf x).length - n)) (n ≤ (rowsOf x).length) (rowsR ((rowsOf x).drop n) n p = readR x) (p.steps.length ≤ n) (p.named.length ≤ n + 1) (σ' = ⟨[("rows", .d (.lst ((rowsOf x).map PV.str))), ("proof", prD dx), ("text", .d (.str x))], prMu dx a₁ a₂ p⟩)))
          (fun σ' D => (Ex2 fun ext muOut => And3 (σ'.mu = ext ++ muOut) (List.map (fun x => x.fst) muOut = List.map (fun x => x.fst) ([] : List (Addr × MO))) (∃ mu, List.Perm (ext ++ (σ.mu ++ muOut)) mu ∧ P ⟨σ.loc, mu⟩ D))) F := fun p' z1 z2 z3 loc z4 =>
      ax_nil_f (σ' := ⟨[("rows", .d (.lst ((rowsOf x).map PV.str))), ("proof", prD dx), ("text", .d (.str x))], prMu dx a₁ a₂ p'⟩) z4 rfl ⟨i + 1, p', hcs', by exact hlt, z1, by exact z2, by exact z3, rfl⟩
    by_cases hl : ws.length = 2
    · obtain ⟨w1, w2, rfl⟩ := len2 hl
      rw [decide_eq_true hl, Bool.true_and] at hrd
      rw [decide_eq_true hl, if_pos rfl]
      (refine ab_and ?_; refine ab_cmp ?_; refine aw_sub ?_; refine aw_loc (by assumption) rfl rfl ?_; refine aw_int ?_)
      refine ao_item_list (d := .str w0) (by decide) (by decide) rfl ?_
      refine aw_str ?_
      refine ao_eqs (at_bool ?_)
      cases qn : (w0 == ("name" : Str)) with
      | false =>
        rw [qn, if_neg (by decide)] at hrd
        rw [if_neg (by decide), if_neg (by decide)]
        exact rest _ _ hrd fin2
      | true =>
        rw [qn, if_pos rfl] at hrd
        first | refine ite_t ?_ | rw [if_pos rfl]
        refine ab_and_nil ?_
        first | refine ite_t ?_ | rw [if_pos rfl]
        have hrd : (match (if isnum w1 && isnum w2 then (if pint w1 = p.named.length then StepR.ok { p with named := p.named ++ [pint w2] } else .bad (-1)) else .bad i) with | .bad n => StepR.bad n | .ok p' => rowsR ((rowsOf x).drop (i + 1)) ((i : Int) + 1) p') = readR x := hrd
        have nm : ∀ σ₁ PX₁ R₁, F i → AX G pf (k.call (fnN topB 15) (fnS topB 15) L 251 cd []) σ₁ (execs [] (k.call (fnN topB 15) (fnS topB 15) L 251 cd []).env) PX₁ R₁ F → True := fun _ _ _ _ _ => trivial
        have badI : (isnum w1 && isnum w2) = false → F i := fun z => by
          rw [z, if_neg (by decide)] at hrd
          exact bad _ hrd
        (refine ax_cons ?_; refine ax_if ?_; refine ab_bool ?_; refine ab_or ?_; refine ab_not ?_)
        refine ab_val ?_
        refine aw_fn fx hk' (a := 225) (i := 11) (by decide) rfl rfl ?_
        (refine al_cons ?_; refine aw_sub ?_; refine aw_loc (by assumption) rfl rfl ?_; refine aw_int ?_)
        refine ao_item_list (d := .str w1) (by decide) (by decide) rfl ?_
        refine al_nil ?_
        refine c_isnum fx hk' (hw w1 (.tail _ (.head _))).2 (rm.less (by exact Nat.succ_pos _)) (at_bool ?_)
        cases q1 : isnum w1 with
        | false =>
          rw [if_pos (by rfl), if_pos rfl]
          refine ax_cons (ax_fault fx.ok hk' fx.pfx (rm.less (by exact Nat.le_add_left _ _)) rfl fx.pfn (aw_str ⟨⟨_, rfl⟩, ?_⟩))
          refine aw_loc (by assumption) rfl rfl ?_
          exact ⟨i, rfl, badI (by rw [q1]; rfl)⟩
        | true =>
          first | refine ite_f ?_ | rw [if_neg (by decide)]
          (refine ab_or ?_; refine ab_not ?_)
          refine ab_val ?_
          refine aw_fn fx hk' (a := 225) (i := 11) (by decide) rfl rfl ?_
          (refine al_cons ?_; refine aw_sub ?_; refine aw_loc (by assumption) rfl rfl ?_; refine aw_int ?_)
          refine ao_item_list (d := .str w2) (by decide) (by decide) rfl ?_
          refine al_nil ?_
          refine c_isnum fx hk' (hw w2 (.tail _ (.tail _ (.head _)))).2 (rm.less (by exact Nat.succ_pos _)) (at_bool ?_)
          cases q2 : isnum w2 with
          | false =>
            rw [if_pos (by rfl), if_pos rfl]
            refine ax_cons (ax_fault fx.ok hk' fx.pfx (rm.less (by exact Nat.le_add_left _ _)) rfl fx.pfn (aw_str ⟨⟨_, rfl⟩, ?_⟩))
            refine aw_loc (by assumption) rfl rfl ?_
            exact ⟨i, rfl, badI (by rw [q2]; simp)⟩
          | true =>
            rw [q1, q2, Bool.true_and, if_pos rfl] at hrd
            first | refine ite_f ?_ | rw [if_neg (by decide)]
            refine ab_or_nil ?_
            first | refine ite_f ?_ | rw [if_neg (by decide)]
            refine ax_nil ?_
            have n1 := hwnum w1 (.tail _ (.head _)) q1
            have n2 := hwnum w2 (.tail _ (.tail _ (.head _))) q2
            refine ax_cons (ax_expr (aw_imeth fx.ok ?_))
            refine aw_loc (by assumption) rfl rfl ?_
            refine ⟨213, dx, _, 107, rfl, .head _, fx.mname, rfl, ?_⟩
            refine al_cons (aw_bl fx hk' (v := .type "int") (by decide) (by kernel_rfl) (.type _) rfl ?_)
            (refine al_cons ?_; refine aw_sub ?_; refine aw_loc (by assumption) rfl rfl ?_; refine aw_int ?_)
            refine ao_item_list (d := .str w1) (by decide) (by decide) rfl ?_
            refine al_nil ?_
            refine ac_ints n1.1 n1.2 ?_
            refine al_cons (aw_bl fx hk' (v := .type "int") (by decide) (by kernel_rfl) (.type _) rfl ?_)
            (refine al_cons ?_; refine aw_sub ?_; refine aw_loc (by assumption) rfl rfl ?_; refine aw_int ?_)
            refine ao_item_list (d := .str w2) (by decide) (by decide) rfl ?_
            refine al_nil ?_
            refine ac_ints n2.1 n2.2 ?_
            refine al_nil ?_
            refine c_name fx hk' (p := p) (a₁ := a₁) (a₂ := a₂) (own := []) (by simp) (hwlog w1 (.tail _ (.head _)) q1) (by exact ar174 xn hn hp2) (rm.less (by exact Nat.le_add_left _ _)) ?_
            by_cases hv : pint w1 = p.named.length
            · rw [if_pos hv] at hrd ⊢
              refine ax_nil ?_
              rw [List.append_nil]
              exact fin2 { p with named := p.named ++ [pint w2] } hrd (by simpa using by exact Nat.le_succ_of_le hp1) (by simpa using by exact hp2) _ ⟨rfl, rfl, rfl, trivial⟩
            · rw [if_neg hv] at hrd ⊢
              exact bad _ hrd
    · rw [decide_eq_false hl, if_neg (by decide), if_neg (by decide)]
      rw [decide_eq_false hl, Bool.false_and, if_neg (by decide)] at hrd
      exact rest _ _ hrd fin2
theorem lslice_any {prog : Program} {w : World} {A : Around} {E : Value → Shared → Prop} {s : Shared} {env : Env} {value : Expr} {lower upper : Option Expr} {p pos : Pos} {Q : Value → Shared → Prop}
    (h : wpAny (model prog w) A (eval value env) (fun o s₁ => wpAny (model prog w) A (evalPart lower env) (fun vl s₂ => wpAny (model prog w) A (evalPart upper env) (fun vu s₃ =>
      (Ex4 fun l items lo hi => And6 (o = .ref l) (s₃.heap.IsList l items) (items.size ≤ sizeLine) (IsPart vl lo) (IsPart vu hi) (Q (.ref (s₃.heap.objs.size + 1)) { s₃ with heap := (s₃.heap.push { cls := .type "slice", data := .fields #[vl, vu, .none] }).push { cls := .type "list", data := .seq (slicePick items lo hi none) } }))) E s₂) E s₁) E s) :
    wpAny (model prog w) A (eval (.Subscript value (.Slice lower upper none p) pos) env) Q E s := by
  refine Subscript_ (wpAny_mono h (fun o s₁ h₁ => wpAny_Slice (wpAny_mono h₁ (fun vl s₂ h₂ => wpAny_mono h₂ (fun vu s₃ h₃ => ?_) fun _ _ e => e) fun _ _ e => e)) fun _ _ e => e)
  obtain ⟨l, items, lo, hi, rfl, hl, hsz, pl, pu, hQ⟩ := h₃
  rw [evalPart_none]
  refine wpAny_pure (kba_turn (value' := .Name ("_" : Str) pos) (fun _ => rfl) ?_)
  have ty : Shared.TypeIs { s₃ with heap := s₃.heap.push { cls := .type "slice", data := .fields #[vl, vu, .none] } } (.ref l) "list" := (hl.push { cls := .type "slice", data := .fields #[vl, vu, .none] }).typeIs
  unfold subscriptTail
  refine wpAny_bind ?_
  rw [getitemInPython_of_ne ty.not_modules]
  refine wpAny_bind (wpAny_specialOf ty list_getitem_lookup (wpAny_pure (wpAny_bind ?_)))
  refine wpAny_operating (wpAny_getItem_list_slice (hl.push _) (Heap.IsSliceOf.new ..) pl pu .none (by simp) (wpAny_bind (wpAny_of_eq rfl (wpAny_pure ?_))) hsz)
  rw [Heap.size_push]
  exact hQ
theorem aw_lsliceA {e : Expr} {lo up : Option Expr} {p pos : Pos}
    (h : AW G pf k σ (eval e k.env) (fun σ₁ D₁ => AW G pf k σ₁ (evalPart lo k.env) (fun σ₂ D₂ => AW G pf k σ₂ (evalPart up k.env) (fun σ₃ D₃ => (Ex4 fun xs l u ys => And6 ((D₁ = .d (.lst xs) ∨ (Ex2 fun a Ds => And3 (D₁ = .m a) ((a, .lst Ds) ∈ σ₃.mu) (Ds = xs.map Dsc.d)))) (PartD D₂ l) (PartD D₃ u) (xs.length ≤ sizeLine) (pickL xs l u = some ys) (P σ₃ (.d (.lst ys))))) F) F) F) :
    AW G pf k σ (eval (.Subscript e (.Slice lo up none p) pos) k.env) P F := by
  intro keep hid s g Q E hK S ok er
  refine lslice_any (h keep hid s g _ E hK S (fun σ₁ D₁ v₁ s₁ g₁ h₁ l₁ S₁ i₁ => h₁ keep hid s₁ g₁ _ E hK S₁ (fun σ₂ D₂ v₂ s₂ g₂ h₂ l₂ S₂ i₂ => h₂ keep hid s₂ g₂ _ E hK S₂ (fun σ₃ D₃ v₃ s₃ g₃ h₃ l₃ S₃ i₃ => ?_)
    fun n e s' f x => er n e s' f (x.le (l₁.trans l₂))) fun n e s' f x => er n e s' f (x.le l₁)) er)
  obtain ⟨xs, l, u, ys, hD, hl, hu, hx, hpk, hp⟩ := h₃
  have i₁' := i₁.le (l₂.trans l₃)
  have : (Ex3 fun a o vs => And4 (v₁ = .ref a) (s₃.heap.get? a = some o) (SeqO "list" o vs) (DatAll g₃ vs xs)) := by
    rcases hD with rfl | ⟨a, Ds, rfl, hm, rfl⟩
    · cases i₁' with | @lst a o vs _ ha ho r => exact ⟨a, o, vs, rfl, S₃.gh _ _ ha, ho, r⟩
    · obtain ⟨_, _, _, o, ho, vs, hso, hall⟩ := S₃.mus _ hm
      exact ⟨a, o, vs, i₁, ho, hso, dat_all2 hall⟩
  obtain ⟨a, o, vs, rfl, ha, ho, r⟩ := this
  obtain ⟨ws, hw, rw'⟩ := pick_vals r hpk
  obtain ⟨g', le, S', hd⟩ := lslice_go (v₂ := v₂) (v₃ := v₃) hK S₃ hw rw'
  exact ⟨a, vs.toArray, l, u, rfl, ⟨_, ha, ho.cls, ho.data⟩, by rw [List.size_toArray, r.length]; exact hx, hl.part (i₂.le l₃), hu.part i₃, ok _ _ _ _ g' hp (l₁.trans (l₂.trans (l₃.trans le))) S' hd⟩
noncomputable def heardD (x : Str) : PV := match readR x with
  | .bad n => .int n
  | .ok p => .tup [.lst ((p.named.drop 1).map PV.int), .lst p.steps, .int p.empty]
theorem rowR_len {p p' : PrS} {r : Str} {wh : Int} (h : rowR p r wh = .ok p') : p'.steps.length ≤ p.steps.length + 1 ∧ p'.named.length ≤ p.named.length + 1 := by
  unfold rowR at h
  dsimp only at h
  repeat' (split at h <;> try (cases h; done))
  all_goals first | (cases h; simp; done) | (have := stepR_ok h; exact ar176 this.1 this.2)
theorem rowsR_len : ∀ {rs : List Str} {wh : Int} {p p' : PrS}, rowsR rs wh p = .ok p' → p'.steps.length ≤ p.steps.length + rs.length ∧ p'.named.length ≤ p.named.length + rs.length
  | [], wh, p, p', h => by cases h; simp
  | r :: rs, wh, p, p', h => by
    unfold rowsR at h
    split at h
    · exact no_sr h
    · rename_i p₁ e
      have a := rowR_len e
      have b := rowsR_len h
      simp only [List.length_cons]
      exact ar177 a.1 a.2 b.1 b.2
theorem c_heard (fx : Fx G pf) (hk : k.Ok) {x : Str} (hx : Tx x) (room : Room k.A 10) (h : P σ (.d (heardD x))) : AC G pf k σ (.ref 347) [.d (.str x)] P F := by
  refine ac_def fx.ok hk (fx.k (a := 347) (i := 34) (by decide)) (n := 9) room (own := σ.mu) (muIn := []) (by simp) ["text"] (fun name doc pm an cdv ct vs hvs => ?_) rfl (by decide +kernel) (by decide +kernel) rfl rfl rfl fun L cd hk' hF' rm => ?_
  · obtain ⟨a, rfl⟩ := len1 hvs; rfl
  have sl := sl_eq
  have xn := hx.n
  have g1 := fx.get "steps" (by decide)
  have g2 := fx.get "named" (by decide)
  have g3 := fx.get "empty" (by decide)
  refine ax_l4 ?_; intro z1a z1b z1c z1d; refine ax_cons (ax_try fx.ok hk' hF' fx.pfx rfl fx.pfn rfl (F' := fun n => readR x = .bad n) ?_ ?_)
  rotate_left
  · intro i hi
    unfold heardD at h
    rw [hi] at h
    exact ⟨[], [], rfl, rfl, by simpa using h⟩
  refine ax_l4 ?_; intro z2a z2b z2c z2d; refine ax_cons (ax_asgn (aw_fn fx hk' (a := 251) (i := 15) (by decide) rfl rfl ?_))
  (refine al_cons ?_; refine aw_loc (by assumption) rfl rfl ?_; refine al_nil ?_)
  refine c_read_proof fx hk' hx rm ?_
  cases e : readR x with
  | bad n => exact rfl
  | ok p =>
    dsimp only
    intro dx a₁ a₂
    unfold heardD at h
    rw [e] at h
    dsimp only at h
    have pl := rowsR_len (show rowsR (rowsOf x) 0 ⟨[], [0], -1⟩ = .ok p from e)
    simp only [List.length_nil, List.length_cons] at pl
    refine an_loc hk' rfl ?_
    refine ax_nil ?_
    refine ax_cons (ax_ret (aw_tuple ?_))
    refine al_cons (aw_lsliceA (aw_attr ?_))
    refine aw_loc (by assumption) rfl rfl ?_
    refine ao_attr fx.ok g2.1 (.head _) (D := .m a₂) rfl trivial ?_
    (refine aw_psome ?_; refine aw_int ?_; refine aw_pnone ?_)
    refine ⟨p.named.map PV.int, some 1, none, (p.named.drop 1).map PV.int, .inr ⟨a₂, _, rfl, .tail _ (.tail _ (.head _)), by simp⟩, rfl, rfl, by simp; exact ar178 sl xn pl.2, by rw [List.map_drop]; rfl, ?_⟩
    refine al_cons (aw_freeze (aw_attr ?_))
    refine aw_loc (by assumption) rfl rfl ?_
    refine ao_attr fx.ok g1.1 (.head _) (D := .m a₁) rfl trivial ?_
    refine ⟨a₁, p.steps, _, rfl, List.Perm.swap _ _ _, ?_⟩
    refine al_cons (aw_attr ?_)
    refine aw_loc (by assumption) rfl rfl ?_
    refine ao_attr fx.ok g3.1 (.head _) (D := .d (.int p.empty)) rfl trivial ?_
    refine al_nil ?_
    refine ⟨[.lst ((p.named.drop 1).map PV.int), .lst p.steps, .int p.empty], rfl, by show 3 ≤ sizeLine; exact ar179 sl, ?_⟩
    exact fin0 h
mutual
noncomputable def noteT : PV → Str
  | .none => "-"
  | .tup ds => ("(" : Str) ++ Txt.join " " (noteTs ds) ++ (")" : Str)
  | .int i => Str.ofString (toString i)
  | .str x => x
  | _ => Str.empty
noncomputable def noteTs : List PV → List Str
  | [] => []
  | d :: ds => noteT d :: noteTs ds
end
theorem noteTs_map : ∀ ds, noteTs ds = ds.map noteT
  | [] => rfl
  | d :: ds => by rw [noteTs, noteTs_map ds]; rfl
inductive NoteP : Nat → PV → Prop
  | none (n) : NoteP n .none
  | int (n i) : (i : Int).natAbs ≤ 9 → NoteP n (.int i)
  | str (n x) : x ∈ ([("a" : Str), "x!1", "le", "b-"]) → NoteP n (.str x)
  | tup {n ds} : (∀ d ∈ ds, NoteP n d) → ds.length ≤ 3 → NoteP (n + 1) (.tup ds)
theorem log2_le9 {i : Int} (h : i.natAbs ≤ 9) : Nat.log2 i.natAbs < 1920 := Nat.lt_of_le_of_lt (Nat.log2_le_self _) (by exact Nat.lt_of_le_of_lt h (by decide))
theorem len_of_toList {x : Str} : x.length = x.cps.toList.length := by simp [Str.length]
theorem small_text {i : Int} (h : i.natAbs ≤ 9) : (Str.ofString (toString i)).length ≤ 2 := by
  have : ∀ n : Nat, n ≤ 9 → (Str.ofString (toString (n : Int))).length ≤ 2 ∧ (Str.ofString (toString (-(n : Int)))).length ≤ 2 := by decide +kernel
  have h1 := this i.natAbs h
  rcases Int.natAbs_eq i with e | e
  · rw [e]; simpa using h1.1
  · rw [e]; simpa using h1.2
theorem join_le (sep : Str) (ts : List Str) : (Txt.join sep ts).length ≤ (ts.map (·.length)).sum + ts.length * sep.length := by
  show (Builtin.Str.glued sep ts).length ≤ _
  rw [StrLaws.glued_eq_join]
  exact StrLaws.join_length_le sep ts
theorem noteT_len : ∀ {n : Nat} {d : PV}, NoteP n d → 2 * (noteT d).length + 5 ≤ 11 * 3 ^ n
  | n, _, .none _ => by
    have : 1 ≤ 3 ^ n := Nat.one_le_pow _ _ (by decide)
    show 2 * 1 + 5 ≤ _; exact ar181 this
  | n, _, .int _ i h => by
    have : 1 ≤ 3 ^ n := Nat.one_le_pow _ _ (by decide)
    have := small_text h
    show 2 * (Str.ofString (toString i)).length + 5 ≤ _; lia
  | n, _, .str _ x h => by
    have : 1 ≤ 3 ^ n := Nat.one_le_pow _ _ (by decide)
    have : ∀ x ∈ ([("a" : Str), "x!1", "le", "b-"]), x.length ≤ 3 := by decide +kernel
    have := this x h
    show 2 * x.length + 5 ≤ _; lia
  | n + 1, .tup ds, .tup h hl => by
    rw [noteT, noteTs_map, len_app, len_app]
    have a := join_le " " (ds.map noteT)
    have b := sum_le (l := ds.map noteT) (n := (11 * 3 ^ n - 5) / 2) (fun y hy => by
      obtain ⟨d, hd, rfl⟩ := List.mem_map.mp hy
      have := noteT_len (h d hd); exact ar182 this)
    have one : 1 ≤ 3 ^ n := Nat.one_le_pow _ _ (by decide)
    have e1 : (" " : Str).length = 1 := rfl
    have e2 : ("(" : Str).length = 1 := rfl
    have e3 : (")" : Str).length = 1 := rfl
    rw [List.length_map] at a b
    rw [e1] at a
    rw [e2, e3, Nat.pow_succ]
    have c : ((11 * 3 ^ n - 5) / 2) * ds.length ≤ ((11 * 3 ^ n - 5) / 2) * 3 := Nat.mul_le_mul_left _ hl
    exact ar183 hl a b one c
theorem noteT_len4 {n : Nat} {d : PV} (h : NoteP n d) (hn : n ≤ 4) : (noteT d).length ≤ 450 := by
  have a := noteT_len h
  have : 3 ^ n ≤ 3 ^ 4 := Nat.pow_le_pow_right (by decide) hn
  exact ar184 a this
theorem acm_mapD {elt t : Expr} {ifs : List Expr} {fin : St → List Dsc → Prop} (b : PV → Bool) (g : PV → Dsc) (mu₀ : List (Addr × MO)) {all : List PV}
    (hturn : ∀ c ∈ all, ∀ loc, AS G k ⟨loc, mu₀⟩ t (.d c) fun σ' => AB G pf k σ' (tests ifs k.env) (fun σ'' b' => b' = b c ∧ σ''.mu = mu₀ ∧ (b c = true → AW G pf k σ'' (eval elt k.env) (fun σ₃ D => σ₃.mu = mu₀ ∧ D = g c) (fun _ => False))) (fun _ => False))
    (hfin : ∀ loc, fin ⟨loc, mu₀⟩ ((all.filter b).map g)) : ∀ loc, ACm G pf k elt t ifs fin all ⟨loc, mu₀⟩ [] := by
  intro loc
  have := acm_map (α := PV) (fun c => c) b g mu₀ hturn hfin loc
  simpa using this
set_option maxHeartbeats 2000000 in
theorem c_note_text (fx : Fx G pf) : ∀ (n : Nat) {k : Kx} {σ : St} {P : St → Dsc → Prop} {F : Int → Prop} {d : PV}, k.Ok → n ≤ 4 → NoteP n d → Room k.A (n + 1) → P σ (.d (.str (noteT d))) → AC G pf k σ (.ref 220) [.d d] P F := by
  intro n
  induction n using Nat.strongRecOn with
  | ind n ih =>
    intro k σ P F d hk hn hd room h
    refine ac_def fx.ok hk (fx.k (a := 220) (i := 10) (by decide)) (n := n) room (own := σ.mu) (muIn := []) (by simp) ["note"] (fun name doc pm an cdv ct vs hvs => ?_) rfl (by decide +kernel) (by decide +kernel) rfl rfl rfl fun L cd hk' hF' rm => ?_
    · obtain ⟨a, rfl⟩ := len1 hvs; rfl
    have sl := sl_eq
    (refine ax_l4 ?_; intro z1a z1b z1c z1d; refine ax_cons ?_; refine ax_if ?_; refine ab_cmp ?_; refine aw_loc (by assumption) rfl rfl ?_; refine aw_none ?_)
    refine ao_is_none (at_bool ?_)
    cases hd with
    | none =>
      first | refine ite_t ?_ | rw [if_pos rfl]
      (refine ax_cons ?_; refine ax_ret ?_; refine aw_str ?_)
      exact fin0 h
    | int _ i hi =>
      rw [if_neg (by simp)]
      (refine ax_nil ?_; refine ax_cons ?_; refine ax_if ?_)
      refine ab_val (aw_bl fx hk' (v := .builtin "isinstance") (by decide) (by kernel_rfl) (.blt _) rfl ?_)
      (refine al_cons ?_; refine aw_loc (by assumption) rfl rfl ?_; refine al_cons ?_)
      refine aw_blt (v := .type "tuple") fx.ok hk' rfl (fx.blt "tuple" (by decide)) (by kernel_rfl) ?_
      refine al_nil ?_
      refine ac_isi_tuple (at_bool ?_)
      rw [if_neg (by simp)]
      (refine ax_nil ?_; refine ax_cons ?_; refine ax_ret ?_)
      refine aw_bl fx hk' (v := .type "str") (by decide) (by kernel_rfl) (.type _) rfl ?_
      (refine al_cons ?_; refine aw_loc (by assumption) rfl rfl ?_; refine al_nil ?_)
      exact ac_stri (log2_le9 hi) (fin0 h)
    | str _ x hx =>
      rw [if_neg (by simp)]
      (refine ax_nil ?_; refine ax_cons ?_; refine ax_if ?_)
      refine ab_val (aw_bl fx hk' (v := .builtin "isinstance") (by decide) (by kernel_rfl) (.blt _) rfl ?_)
      (refine al_cons ?_; refine aw_loc (by assumption) rfl rfl ?_; refine al_cons ?_)
      refine aw_blt (v := .type "tuple") fx.ok hk' rfl (fx.blt "tuple" (by decide)) (by kernel_rfl) ?_
      refine al_nil ?_
      refine ac_isi_tuple (at_bool ?_)
      rw [if_neg (by simp)]
      (refine ax_nil ?_; refine ax_cons ?_; refine ax_ret ?_)
      refine aw_bl fx hk' (v := .type "str") (by decide) (by kernel_rfl) (.type _) rfl ?_
      (refine al_cons ?_; refine aw_loc (by assumption) rfl rfl ?_; refine al_nil ?_)
      exact ac_strs (fin0 h)
    | @tup m ds hds hl =>
      rw [if_neg (by simp)]
      (refine ax_nil ?_; refine ax_cons ?_; refine ax_if ?_)
      refine ab_val (aw_bl fx hk' (v := .builtin "isinstance") (by decide) (by kernel_rfl) (.blt _) rfl ?_)
      (refine al_cons ?_; refine aw_loc (by assumption) rfl rfl ?_; refine al_cons ?_)
      refine aw_blt (v := .type "tuple") fx.ok hk' rfl (fx.blt "tuple" (by decide)) (by kernel_rfl) ?_
      refine al_nil ?_
      refine ac_isi_tuple (at_bool ?_)
      first | refine ite_t ?_ | rw [if_pos rfl]
      (refine ax_cons ?_; refine ax_ret ?_; refine aw_bin ?_; refine aw_bin ?_; refine aw_str ?_)
      refine aw_meth fx.ok PySem.F.plainAttrs_str PySem.F.slot_str_join (by kernel_rfl) (aw_str ⟨rfl, ?_⟩)
      refine al_cons (aw_freeze (aw_comp hk' (cl := []) rfl ?_))
      refine aw_loc (by assumption) rfl rfl ?_
      refine ⟨_, src_tup hk', by exact ar185 sl hl, fun C hkC => ?_⟩
      refine acm_mapD (fun y => true) (fun d => .d (.str (noteT d))) [] (fun c hc loc => ?_) (fun loc => ?_) _
      · refine as_name ?_
        (refine an_loc (by assumption) rfl ?_; (try dsimp only))
        refine ab_tests_nil ⟨rfl, rfl, fun _ => ?_⟩
        refine aw_fn fx hkC (a := 220) (i := 10) (by decide) rfl rfl ?_
        (refine al_cons ?_; refine aw_loc (by assumption) rfl rfl ?_; refine al_nil ?_)
        exact ih m (Nat.lt_succ_self m) hkC (by exact Nat.le_of_lt hn) (hds c hc) rm ⟨rfl, rfl⟩
      refine ⟨[], [], rfl, rfl, fun a => ⟨a, (ds.map noteT).map PV.str, [], rfl, ?_, ?_⟩⟩
      · rw [List.filter_eq_self.mpr (fun _ _ => rfl)]
        simp [Function.comp_def]
      have hj := noteT_len4 (.tup hds hl) hn
      rw [noteT, noteTs_map, len_app, len_app] at hj
      have sm := sum_le (l := ds.map noteT) (n := 450) (fun y hy => by
        obtain ⟨d, hd, rfl⟩ := List.mem_map.mp hy
        exact noteT_len4 (hds d hd) (by exact Nat.le_of_lt hn))
      rw [List.length_map] at sm
      refine al_nil ?_
      refine ac_join (by decide) (by rw [List.length_map]; exact ar187 hl sm) ?_
      refine ao_adds (by rw [sl]; exact ar188 hj) ?_
      refine aw_str ?_
      refine ao_adds (by rw [sl, len_app]; exact Nat.le_trans hj (by decide)) ?_
      refine fin0 ?_
      rw [noteT, noteTs_map] at h
      exact h
set_option maxHeartbeats 2000000 in
theorem c_lnote_text (fx : Fx G pf) : ∀ (n : Nat) {k : Kx} {σ : St} {P : St → Dsc → Prop} {F : Int → Prop} {d : PV}, k.Ok → n ≤ 4 → NoteP n d → Room k.A (n + 1) → P σ (.d (.str (noteT d))) → AC G pf k σ (.ref 270) [.d d] P F := by
  intro n
  induction n using Nat.strongRecOn with
  | ind n ih =>
    intro k σ P F d hk hn hd room h
    refine ac_def fx.ok hk (fx.k (a := 270) (i := 21) (by decide)) (n := n) room (own := σ.mu) (muIn := []) (by simp) ["note"] (fun name doc pm an cdv ct vs hvs => ?_) rfl (by decide +kernel) (by decide +kernel) rfl rfl rfl fun L cd hk' hF' rm => ?_
    · obtain ⟨a, rfl⟩ := len1 hvs; rfl
    have sl := sl_eq
    (refine ax_l4 ?_; intro z1a z1b z1c z1d; refine ax_cons ?_; refine ax_if ?_)
    refine ab_val (aw_bl fx hk' (v := .builtin "isinstance") (by decide) (by kernel_rfl) (.blt _) rfl ?_)
    (refine al_cons ?_; refine aw_loc (by assumption) rfl rfl ?_; refine al_cons ?_)
    refine aw_blt (v := .type "tuple") fx.ok hk' rfl (fx.blt "tuple" (by decide)) (by kernel_rfl) ?_
    refine al_nil ?_
    refine ac_isi_tuple (at_bool ?_)
    cases hd with
    | none =>
      rw [if_neg (by simp)]
      (refine ax_nil ?_; refine ax_cons ?_; refine ax_ret ?_; refine aw_ife ?_; refine ab_cmp ?_; refine aw_loc (by assumption) rfl rfl ?_; refine aw_none ?_)
      refine ao_is_none (at_bool ?_)
      first | refine ite_t ?_ | rw [if_pos rfl]
      refine aw_str ?_
      exact fin0 h
    | int _ i hi =>
      rw [if_neg (by simp)]
      (refine ax_nil ?_; refine ax_cons ?_; refine ax_ret ?_; refine aw_ife ?_; refine ab_cmp ?_; refine aw_loc (by assumption) rfl rfl ?_; refine aw_none ?_)
      refine ao_is_none (at_bool ?_)
      rw [if_neg (by simp)]
      refine aw_bl fx hk' (v := .type "str") (by decide) (by kernel_rfl) (.type _) rfl ?_
      (refine al_cons ?_; refine aw_loc (by assumption) rfl rfl ?_; refine al_nil ?_)
      exact ac_stri (log2_le9 hi) (fin0 h)
    | str _ x hx =>
      rw [if_neg (by simp)]
      (refine ax_nil ?_; refine ax_cons ?_; refine ax_ret ?_; refine aw_ife ?_; refine ab_cmp ?_; refine aw_loc (by assumption) rfl rfl ?_; refine aw_none ?_)
      refine ao_is_none (at_bool ?_)
      rw [if_neg (by simp)]
      refine aw_bl fx hk' (v := .type "str") (by decide) (by kernel_rfl) (.type _) rfl ?_
      (refine al_cons ?_; refine aw_loc (by assumption) rfl rfl ?_; refine al_nil ?_)
      exact ac_strs (fin0 h)
    | @tup m ds hds hl =>
      first | refine ite_t ?_ | rw [if_pos rfl]
      (refine ax_cons ?_; refine ax_ret ?_; refine aw_bin ?_; refine aw_bin ?_; refine aw_str ?_)
      refine aw_meth fx.ok PySem.F.plainAttrs_str PySem.F.slot_str_join (by kernel_rfl) (aw_str ⟨rfl, ?_⟩)
      refine al_cons (aw_freeze (aw_comp hk' (cl := []) rfl ?_))
      refine aw_loc (by assumption) rfl rfl ?_
      refine ⟨_, src_tup hk', by exact ar185 sl hl, fun C hkC => ?_⟩
      refine acm_mapD (fun y => true) (fun d => .d (.str (noteT d))) [] (fun c hc loc => ?_) (fun loc => ?_) _
      · refine as_name ?_
        (refine an_loc (by assumption) rfl ?_; (try dsimp only))
        refine ab_tests_nil ⟨rfl, rfl, fun _ => ?_⟩
        refine aw_fn fx hkC (a := 270) (i := 21) (by decide) rfl rfl ?_
        (refine al_cons ?_; refine aw_loc (by assumption) rfl rfl ?_; refine al_nil ?_)
        exact ih m (Nat.lt_succ_self m) hkC (by exact Nat.le_of_lt hn) (hds c hc) rm ⟨rfl, rfl⟩
      refine ⟨[], [], rfl, rfl, fun a => ⟨a, (ds.map noteT).map PV.str, [], rfl, ?_, ?_⟩⟩
      · rw [List.filter_eq_self.mpr (fun _ _ => rfl)]
        simp [Function.comp_def]
      have hj := noteT_len4 (.tup hds hl) hn
      rw [noteT, noteTs_map, len_app, len_app] at hj
      have sm := sum_le (l := ds.map noteT) (n := 450) (fun y hy => by
        obtain ⟨d, hd, rfl⟩ := List.mem_map.mp hy
        exact noteT_len4 (hds d hd) (by exact Nat.le_of_lt hn))
      rw [List.length_map] at sm
      refine al_nil ?_
      refine ac_join (by decide) (by rw [List.length_map]; exact ar187 hl sm) ?_
      refine ao_adds (by rw [sl]; exact ar188 hj) ?_
      refine aw_str ?_
      refine ao_adds (by rw [sl, len_app]; exact Nat.le_trans hj (by decide)) ?_
      refine fin0 ?_
      rw [noteT, noteTs_map] at h
      exact h
noncomputable def srcM (cs : List Int) (at_ : Nat) : MO := .map [(("cells" : Str), .d (.lst (cs.map PV.int))), (("at" : Str), .d (.int at_))]
theorem bits1000 : ∀ n : Nat, n ≤ 1000 → Builtin.Int.intBits (n : Int) ≤ 64 := by decide +kernel
theorem c_draw (fx : Fx G pf) (hk : k.Ok) {s : Addr} {cs : List Int} {at_ : Nat} {many : Int} {own : List (Addr × MO)} (hmu : σ.mu.Perm ((s, srcM cs at_) :: own)) (hcs : cs.length ≤ 1000) (hat : at_ ≤ 1000) (hm : 0 < many) (room : Room k.A 1)
    (h : ∀ v : Int, 0 ≤ v → v < many → P ⟨σ.loc, (s, srcM cs (at_ + 1)) :: own⟩ (.d (.int v))) : AC G pf k σ (.ref 260) [.m s, .d (.int many)] P F := by
  refine AC.perm (mu := own ++ [(s, srcM cs at_)]) (hmu.trans (List.perm_append_comm (l₁ := [_]))) ?_
  refine AC.post (ac_def fx.ok hk (fx.k (a := 260) (i := 19) (by decide)) (n := 0) room (own := own) (muIn := [(s, srcM cs at_)]) rfl ["src", "many"] (fun name doc pm an cdv ct vs hvs => ?_) rfl (by decide +kernel) (by decide +kernel) rfl rfl rfl fun L cd hk' hF' rm => ?_)
  · obtain ⟨a, b, rfl⟩ := len2 hvs; rfl
  have sl := sl_eq
  (refine ax_l4 ?_; intro z1a z1b z1c z1d; refine ax_cons ?_; refine ax_asgn ?_; refine aw_sub ?_; refine aw_loc (by assumption) rfl rfl ?_; refine aw_str ?_)
  refine ao_item_map (.head _) rfl ?_
  (refine an_loc (by assumption) rfl ?_; (try dsimp only); refine ax_cons ?_; refine ax_setitem ?_; refine aw_bin ?_; refine aw_loc (by assumption) rfl rfl ?_; refine aw_int ?_)
  refine ao_add ?_
  (refine aw_loc (by assumption) rfl rfl ?_; refine aw_str ?_)
  refine ai_map (mu' := [(s, srcM cs (at_ + 1))]) .head rfl (by show 2 ≤ sizeLine; exact ar48 sl) ?_
  (refine ax_l1 ?_; intro z5a; refine ax_cons ?_; refine ax_ret ?_; refine aw_bin ?_; refine aw_ife ?_; refine ab_cmp ?_; refine aw_loc (by assumption) rfl rfl ?_)
  refine aw_bl fx hk' (v := .builtin "len") (by decide) (by kernel_rfl) (.blt _) rfl ?_
  (refine al_cons ?_; refine aw_sub ?_; refine aw_loc (by assumption) rfl rfl ?_; refine aw_str ?_)
  refine ao_item_map (.head _) rfl ?_
  refine al_nil ?_
  refine ac_lenl (by rw [List.length_map]; exact Int.ofNat_lt.mpr (Nat.lt_of_le_of_lt hcs (by decide))) ?_
  refine ao_lt (at_bool ?_)
  have fin : ∀ v : Int, AO2 G pf (k.call (fnN topB 19) (fnS topB 19) L 260 cd []) ⟨put "at" (.d (.int at_)) ((["src", "many"] : List Str).zip [.m s, .d (.int many)]).reverse, [(s, srcM cs (at_ + 1))]⟩ (binaryOp .Mod) (.d (.int v)) (.d (.int many))
      (fun σ' D => (Ex2 fun ext muOut => And3 (σ'.mu = ext ++ muOut) (List.map (fun x => x.fst) muOut = List.map (fun x => x.fst) [(s, srcM cs at_)]) (∃ mu, List.Perm (own ++ muOut) mu ∧ P ⟨σ.loc, mu⟩ D))) F := fun v =>
    ao_mod (by exact ar191 hm) ⟨[], [(s, srcM cs (at_ + 1))], rfl, rfl, _, List.perm_append_comm, h _ (Int.fmod_nonneg_of_pos v hm) (Int.fmod_lt_of_pos v hm)⟩
  by_cases q : (at_ : Int) < ((cs.map PV.int).length : Int)
  · rw [decide_eq_true q, if_pos rfl]
    rw [List.length_map] at q
    (refine aw_sub ?_; refine aw_sub ?_; refine aw_loc (by assumption) rfl rfl ?_; refine aw_str ?_)
    refine ao_item_map (.head _) rfl ?_
    refine aw_loc (by assumption) rfl rfl ?_
    refine ao_item_list (d := .int (cs.getD at_ 0)) (by exact ar68) (by exact Int.ofNat_lt.mpr (Nat.lt_of_le_of_lt hat (by decide))) ?_ ?_
    · have : at_ < cs.length := by exact ar192 q
      simp [List.getD, List.getElem?_eq_getElem this]
    refine aw_loc (by assumption) rfl rfl ?_
    exact fin _
  · rw [decide_eq_false q, if_neg (by decide)]
    (refine aw_bin ?_; refine aw_bin ?_; refine aw_bin ?_; refine aw_bin ?_; refine aw_int ?_; refine aw_loc (by assumption) rfl rfl ?_)
    refine ao_mul (IntMulOk.of_left (by decide)) ?_
    refine aw_loc (by assumption) rfl rfl ?_
    refine ao_mul (IntMulOk.of_right (bits1000 _ hat)) ?_
    (refine aw_bin ?_; refine aw_int ?_; refine aw_loc (by assumption) rfl rfl ?_)
    refine ao_mul (IntMulOk.of_left (by decide)) ?_
    refine ao_add ?_
    refine aw_int ?_
    refine ao_add ?_
    refine aw_loc (by assumption) rfl rfl ?_
    exact fin _
theorem AX.post {t : Sem Flow} (h : AX G pf k σ t (fun σ' => ∃ mu, σ'.mu.Perm mu ∧ PX ⟨σ'.loc, mu⟩) (fun σ' D => ∃ mu, σ'.mu.Perm mu ∧ R ⟨σ'.loc, mu⟩ D) F) : AX G pf k σ t PX R F :=
  fun keep hid s g Q E hK S ok rt er => h keep hid s g Q E hK S (fun σ' s' g' ⟨mu, hp, p⟩ l S' => ok _ s' g' p l (S'.perm hp)) (fun σ' D v s' g' ⟨mu, hp, p⟩ l S' i => rt _ D v s' g' p l (S'.perm hp) i) er
noncomputable def dr : Nat → Nat
  | 0 => 2
  | n + 1 => 2 + 3 * dr n
theorem c_note (fx : Fx G pf) : ∀ (n : Nat) {k : Kx} {σ : St} {P : St → Dsc → Prop} {F : Int → Prop} {s : Addr} {cs : List Int} {at_ : Nat} {own : List (Addr × MO)}, k.Ok → σ.mu.Perm ((s, srcM cs at_) :: own) → cs.length ≤ 1000 → at_ + dr n ≤ 1000 → Room k.A (n + 2) →
    (∀ at' d, NoteP n d → at' ≤ at_ + dr n → P ⟨σ.loc, (s, srcM cs at') :: own⟩ (.d d)) → AC G pf k σ (.ref 265) [.m s, .d (.int n)] P F := by
  intro n
  induction n using Nat.strongRecOn with
  | ind n ih =>
    intro k σ P F s cs at_ own hk hmu hcs hat room h
    refine AC.perm (mu := own ++ [(s, srcM cs at_)]) (hmu.trans (List.perm_append_comm (l₁ := [_]))) ?_
    refine AC.post (acc_defC fx.ok hk (fx.k (a := 265) (i := 20) (by decide)) (n := n + 1) room (own := own) (muIn := [(s, srcM cs at_)]) rfl (Ds := [.m s, .d (.int n)]) ["src", "deep"] (fun name doc pm an cdv ct vs hvs => ?_) [] (fun L => [(L + 1, .cell (.m s)), (L + 2, .cell (.d (.int n)))]) (fun L x hx => ?_) (fun g vs _ x D e => ?_) (fun L g vs hv p hp => ?_) (fun L => ?_) rfl rfl rfl fun L cd hk' hF' rm hlt => ?_).ac
    · obtain ⟨a, b, rfl⟩ := len2 hvs; rfl
    · refine .inr ?_
      simp only [List.mem_cons, List.mem_nil_iff, or_false] at hx
      rcases hx with rfl | rfl
      · exact ⟨rfl, rfl⟩
      · exact ⟨rfl, rfl⟩
    · simp at e
    · obtain ⟨a, b, rfl⟩ := len2 (show vs.length = 2 from hv.length)
      cases hv with | cons i1 r => cases r with | cons i2 _ =>
      simp only [List.mem_cons, List.mem_nil_iff, or_false] at hp
      rcases hp with rfl | rfl
      · exact ⟨"src", (by show (("src" : Str), L + 1) ∈ [(("deep" : Str), L + 2), ("src", L + 1)]; simp), rfl, a, rfl, i1⟩
      · exact ⟨"deep", (by show (("deep" : Str), L + 2) ∈ [(("deep" : Str), L + 2), ("src", L + 1)]; simp), rfl, b, rfl, i2⟩
    · simp
    have sl := sl_eq
    refine AX.post ?_
    have fin : ∀ (σ' : St) D at' rest, σ'.mu.Perm (rest ++ [(s, srcM cs at')]) → P ⟨σ.loc, (s, srcM cs at') :: own⟩ D → ∃ mu, σ'.mu.Perm mu ∧ (Ex2 fun ext muOut => And3 (mu = ext ++ muOut) (muOut.map (·.1) = [(s, srcM cs at_)].map (·.1)) (∃ mu', List.Perm (own ++ muOut) mu' ∧ P ⟨σ.loc, mu'⟩ D)) :=
      fun σ' D at' rest hp p => ⟨_, hp, rest, [(s, srcM cs at')], rfl, rfl, _, List.perm_append_comm, p⟩
    have dn : 2 ≤ dr n := by cases n <;> simp [dr]
    refine ax_l4 ?_; intro z1a z1b z1c z1d; refine ax_cons (ax_asgn (aw_fn fx hk' (a := 260) (i := 19) (by decide) rfl rfl ?_))
    refine al_cons (aw_cell hk' rfl rfl (.head _) ?_)
    refine al_cons (aw_same (.d (.int (if 0 < n then 6 else 3))) ?_ ?_)
    · refine aw_ife (ab_cmp (aw_cell hk' rfl rfl (.tail _ (.head _)) ?_))
      refine aw_int ?_
      refine ao_gt (at_bool ?_)
      by_cases q : 0 < n
      · rw [decide_eq_true (by exact ar51 q), if_pos rfl, if_pos q]
        exact aw_int ⟨rfl, rfl⟩
      · rw [decide_eq_false (by exact ar71 q), if_neg (by decide), if_neg q]
        exact aw_int ⟨rfl, rfl⟩
    refine al_nil ?_
    refine c_draw fx hk' (own := [(L + 1, .cell (.m s)), (L + 2, .cell (.d (.int n)))]) (List.perm_append_comm (l₂ := [_])) hcs (by exact Nat.le_trans (Nat.le_add_right _ _) hat) (by split <;> first | exact ar194 | exact ar195) (rm.less (by exact Nat.succ_pos _)) fun v v0 v1 => ?_
    (refine an_loc (by assumption) rfl ?_; (try dsimp only); refine ax_l1 ?_; intro z2a; refine ax_cons ?_; refine ax_if ?_; refine ab_cmp ?_; refine aw_loc (by assumption) rfl rfl ?_; refine aw_int ?_)
    refine ao_eqi (at_bool ?_)
    by_cases e0 : v = 0
    · rw [beq_iff_eq.mpr e0, if_pos rfl]
      (refine ax_cons ?_; refine ax_ret ?_; refine aw_none ?_)
      exact fin _ _ (at_ + 1) _ (List.perm_append_comm (l₁ := [_])) (h _ _ (.none _) (by exact ar197 dn))
    rw [beq_eq_false_iff_ne.mpr e0, if_neg (by decide)]
    (refine ax_nil ?_; refine ax_cons ?_; refine ax_if ?_; refine ab_cmp ?_; refine aw_loc (by assumption) rfl rfl ?_; refine aw_int ?_)
    refine ao_eqi (at_bool ?_)
    by_cases e1 : v = 1
    · rw [beq_iff_eq.mpr e1, if_pos rfl]
      (refine ax_cons ?_; refine ax_ret ?_; refine aw_bin ?_)
      refine aw_fn fx hk' (a := 260) (i := 19) (by decide) rfl rfl ?_
      refine al_cons (aw_cell hk' rfl rfl (.tail _ (.head _)) ?_)
      (refine al_cons ?_; refine aw_int ?_; refine al_nil ?_)
      refine c_draw fx hk' (own := [(L + 1, .cell (.m s)), (L + 2, .cell (.d (.int n)))]) (List.Perm.refl _) hcs (by exact ar198 hat dn) (by decide) (rm.less (by exact Nat.succ_pos _)) fun v' v0' v1' => ?_
      refine aw_int ?_
      refine ao_sub ?_
      exact fin _ _ (at_ + 1 + 1) _ (List.perm_append_comm (l₁ := [_])) (h _ _ (.int _ _ (by exact ar199 v0' v1')) (by exact ar200 dn))
    rw [beq_eq_false_iff_ne.mpr e1, if_neg (by decide)]
    (refine ax_nil ?_; refine ax_cons ?_; refine ax_if ?_; refine ab_cmp ?_; refine aw_loc (by assumption) rfl rfl ?_; refine aw_int ?_)
    refine ao_eqi (at_bool ?_)
    by_cases e2 : v = 2
    · rw [beq_iff_eq.mpr e2, if_pos rfl]
      (refine ax_cons ?_; refine ax_ret ?_; refine aw_sub ?_; refine aw_tuple ?_; refine al_cons ?_; refine aw_str ?_; refine al_cons ?_; refine aw_str ?_; refine al_cons ?_; refine aw_str ?_; refine al_cons ?_; refine aw_str ?_; refine al_nil ?_)
      refine ⟨[.str "a", .str "x!1", .str "le", .str "b-"], rfl, by show 4 ≤ sizeLine; exact ar144 sl, ?_⟩
      refine aw_fn fx hk' (a := 260) (i := 19) (by decide) rfl rfl ?_
      refine al_cons (aw_cell hk' rfl rfl (.tail _ (.head _)) ?_)
      (refine al_cons ?_; refine aw_int ?_; refine al_nil ?_)
      refine c_draw fx hk' (own := [(L + 1, .cell (.m s)), (L + 2, .cell (.d (.int n)))]) (List.Perm.refl _) hcs (by exact ar198 hat dn) (by decide) (rm.less (by exact Nat.succ_pos _)) fun v' v0' v1' => ?_
      have hv : v' = 0 ∨ v' = 1 ∨ v' = 2 ∨ v' = 3 := by exact ar201 v0' v1'
      rcases hv with rfl | rfl | rfl | rfl
      · exact ao_item_tup (n := 0) (d := .str "a") (by decide) (by decide) (by rfl) rfl (fin _ _ (at_ + 1 + 1) _ (List.perm_append_comm (l₁ := [_])) (h _ _ (.str _ _ (by decide +kernel)) (by exact ar200 dn)))
      · exact ao_item_tup (n := 1) (d := .str "x!1") (by decide) (by decide) (by rfl) rfl (fin _ _ (at_ + 1 + 1) _ (List.perm_append_comm (l₁ := [_])) (h _ _ (.str _ _ (by decide +kernel)) (by exact ar200 dn)))
      · exact ao_item_tup (n := 2) (d := .str "le") (by decide) (by decide) (by rfl) rfl (fin _ _ (at_ + 1 + 1) _ (List.perm_append_comm (l₁ := [_])) (h _ _ (.str _ _ (by decide +kernel)) (by exact ar200 dn)))
      · exact ao_item_tup (n := 3) (d := .str "b-") (by decide) (by decide) (by rfl) rfl (fin _ _ (at_ + 1 + 1) _ (List.perm_append_comm (l₁ := [_])) (h _ _ (.str _ _ (by decide +kernel)) (by exact ar200 dn)))
    rw [beq_eq_false_iff_ne.mpr e2, if_neg (by decide)]
    have npos : 0 < n := by
      by_cases q : 0 < n
      · exact q
      · rw [if_neg q] at v1; exact ar202 v0 v1 e0 e1 e2
    obtain ⟨m, rfl⟩ : ∃ m, n = m + 1 := ⟨n - 1, by exact (Nat.sub_add_cancel npos).symm⟩
    (refine ax_nil ?_; refine ax_cons ?_; refine ax_ret ?_)
    refine aw_bl fx hk' (v := .type "tuple") (by decide) (by kernel_rfl) (.type _) rfl ?_
    refine al_cons (aw_comp hk' (cl := [("src", L + 1), ("deep", L + 2)]) rfl ?_)
    refine aw_bl fx hk' (v := .type "range") (by decide) (by kernel_rfl) (.type _) rfl ?_
    refine al_cons (aw_fn fx hk' (a := 260) (i := 19) (by decide) rfl rfl ?_)
    refine al_cons (aw_cell hk' rfl rfl (.tail _ (.head _)) ?_)
    (refine al_cons ?_; refine aw_int ?_; refine al_nil ?_)
    refine c_draw fx hk' (own := [(L + 1, .cell (.m s)), (L + 2, .cell (.d (.int ((m + 1 : Nat) : Int))))]) (List.Perm.refl _) hcs (by exact ar198 hat dn) (by decide) (rm.less (by exact Nat.succ_pos _)) fun v' v0' v1' => ?_
    refine al_nil ?_
    refine ac_range fun o ho => ⟨_, src_range hk' ho (by exact Int.lt_trans v1' (by decide)) (by exact Int.le_trans (by decide) v0'), by simp [rngs]; exact ar207 sl v1', fun C hkC => ?_⟩
    have e : rngs v' = (List.range v'.toNat).map fun (i : Nat) => PV.int (i : Int) := rfl
    rw [e]
    refine acm_ind (fun (i : Nat) => PV.int (i : Int)) (fun cs' σ' acc => (Ex2 fun at' ds => And5 (σ'.mu = (s, srcM cs at') :: [(L + 1, .cell (.m s)), (L + 2, .cell (.d (.int ((m + 1 : Nat) : Int))))]) (acc = ds.map Dsc.d) ((∀ d ∈ ds, NoteP m d)) (ds.length + cs'.length = v'.toNat) (at' ≤ at_ + 2 + ds.length * dr m)))
      ?_ ?_ _ _ _ ⟨at_ + 1 + 1, [], rfl, rfl, (by simp), by simp, by simp⟩
    · rintro σ' acc ⟨at', ds, hmu', rfl, hds, hln, hat'⟩
      refine ⟨[], σ'.mu, rfl, by rw [hmu']; rfl, fun a => ?_⟩
      simp only [List.length_nil, Nat.add_zero] at hln
      refine al_nil ?_
      refine ac_tuple_m (xs := ds) (.head _) rfl (by exact ar208 sl v1' hln) ?_
      refine fin _ _ at' ((a, .lst (ds.map Dsc.d)) :: [(L + 1, .cell (.m s)), (L + 2, .cell (.d (.int ((m + 1 : Nat) : Int))))]) ?_ (h _ _ (.tup hds (by exact ar209 v1' hln)) ?_)
      · rw [hmu']
        exact (List.perm_append_comm (l₁ := [_])).cons _
      · have : ds.length * dr m ≤ 3 * dr m := Nat.mul_le_mul_right _ (by exact ar209 v1' hln)
        rw [dr]; exact ar210 hat' this
    · rintro c cs' ⟨loc', mu'⟩ acc ⟨at', ds, hmu', rfl, hds, hln, hat'⟩
      dsimp only at hmu'
      subst hmu'
      simp only [List.length_cons] at hln
      refine as_name ?_
      (refine an_loc (by assumption) rfl ?_; (try dsimp only))
      refine ab_tests_nil ?_
      first | refine ite_t ?_ | rw [if_pos rfl]
      refine aw_fn fx hkC (a := 265) (i := 20) (by decide) rfl rfl ?_
      refine al_cons (aw_cell hkC rfl rfl (.tail _ (.head _)) ?_)
      refine al_cons (aw_bin (aw_cell hkC rfl rfl (.tail _ (.tail _ (.head _))) ?_))
      refine aw_int ?_
      refine ao_sub ?_
      refine al_nil ?_
      rw [show (((m + 1 : Nat) : Int) - 1) = (m : Int) by exact ar211]
      have bnd : at' + dr m ≤ 1000 := by
        have : (ds.length + 1) * dr m ≤ 3 * dr m := Nat.mul_le_mul_right _ (by exact ar212 v1' hln)
        rw [dr] at hat
        rw [Nat.succ_mul] at this
        exact ar213 hat hat' this
      refine ih m (Nat.lt_succ_self m) hkC (List.Perm.refl _) hcs bnd (rm.less (by exact Nat.le_refl _)) fun at'' d hd hat'' => ?_
      refine ⟨at'', ds ++ [d], rfl, by simp, fun d' hd' => ?_, by simp; exact ar215 hln, ?_⟩
      · rcases List.mem_append.mp hd' with z | z
        · exact hds d' z
        · rw [List.mem_singleton.mp z]; exact hd
      · simp only [List.length_append, List.length_cons, List.length_nil, Nat.succ_mul, Nat.zero_add]; exact ar216 hat' hat''
noncomputable def strZ (i : Int) : Str := Str.ofString (toString i)
noncomputable def rowT (l : List Int) : Str := if l = [] then "-" else Txt.join " " (l.map strZ)
theorem oks_ints {n : Nat} : ∀ {l : List Int}, PVoks n (l.map PV.int)
  | [] => .nil _
  | i :: r => .cons (.int _ _) oks_ints
theorem c_row (fx : Fx G pf) (hk : k.Ok) {l : List Int} (hl : l.length ≤ 10) (hs : ∀ i ∈ l, i.natAbs ≤ 9) (room : Room k.A 2)
    (h : P σ (.d (.str (rowT l)))) : AC G pf k σ (.ref 275) [.d (.lst (l.map PV.int))] P F := by
  refine ac_def fx.ok hk (fx.k (a := 275) (i := 22) (by decide)) (n := 1) room (own := σ.mu) (muIn := []) (by simp) ["numbers"] (fun name doc pm an cdv ct vs hvs => ?_) rfl (by decide +kernel) (by decide +kernel) rfl rfl rfl fun L cd hk' hF' rm => ?_
  · obtain ⟨a, rfl⟩ := len1 hvs; rfl
  have sl := sl_eq
  have un := rm.2
  (refine ax_cons ?_; refine ax_ret ?_; refine aw_ife ?_; refine ab_cmp ?_; refine aw_loc (by assumption) rfl rfl ?_)
  refine aw_listD (al_nil ⟨[], rfl, Nat.zero_le _, ?_⟩)
  refine ao_ne (n := 1) (m := 1) (.lst oks_ints) (.lst (.nil _)) (rm.less (by exact Nat.zero_le _)) (by show _ < 9900; exact ar218 un) (at_bool ?_)
  unfold rowT at h
  by_cases q : l = []
  · rw [if_pos q] at h
    subst q
    rw [show eqb (PV.lst (([] : List Int).map PV.int)) (.lst []) = true from eqb_self _, if_neg (by decide)]
    refine aw_str ?_
    exact fin0 h
  · rw [if_neg q] at h
    rw [eqb_ne (by simp [q]), if_pos (by rfl)]
    refine aw_meth fx.ok PySem.F.plainAttrs_str PySem.F.slot_str_join (by kernel_rfl) (aw_str ⟨rfl, ?_⟩)
    refine al_cons (aw_freeze (aw_comp hk' (cl := []) rfl ?_))
    refine aw_loc (by assumption) rfl rfl ?_
    refine ⟨_, src_list hk', by rw [List.length_map]; exact ar219 hl sl, fun C hkC => ?_⟩
    refine acm_map PV.int (fun y => true) (fun i => .d (.str (strZ i))) [] (fun c hc loc => ?_) (fun loc => ?_) _
    · refine as_name ?_
      (refine an_loc (by assumption) rfl ?_; dsimp only)
      refine ab_tests_nil ⟨rfl, rfl, fun _ => ?_⟩
      refine aw_bl fx hkC (v := .type "str") (by decide) (by kernel_rfl) (.type _) rfl ?_
      (refine al_cons ?_; refine aw_loc (by assumption) rfl rfl ?_; refine al_nil ?_)
      exact ac_stri (log2_le9 (hs c hc)) ⟨rfl, rfl⟩
    refine ⟨[], [], rfl, rfl, fun a => ⟨a, (l.map strZ).map PV.str, [], rfl, ?_, ?_⟩⟩
    · rw [List.filter_eq_self.mpr (fun _ _ => rfl)]
      simp [Function.comp_def]
    have sm := sum_le (l := l.map strZ) (n := 2) (fun y hy => by
      obtain ⟨d, hd, rfl⟩ := List.mem_map.mp hy
      exact small_text (hs d hd))
    rw [List.length_map] at sm
    refine al_nil ?_
    exact ac_join (by decide) (by rw [List.length_map]; exact ar220 hl sm) (fin0 h)
theorem comp_put (hk : k.Ok) {y : Str} {py : Pos} {sc : Scope} {cl : List (Str × Addr)} {keep : PH} {hid : Addr → Prop} {loc : List (Str × Dsc)} {mu : List (Addr × MO)} {s₁ s' : Shared} {g₁ g' : PH} {fp wr : List Addr} {D C : Addr} {keep' : PH} {hid' : Addr → Prop} {Q : Flow → Shared → Prop} {E : Value → Shared → Prop} {Y : List Dsc → List (Addr × MO) → Addr → Prop} {σ' : St} {acc : List Dsc} {oD : Obj} {vsD : List Value}
    (hK : Kp G k keep hid) (S₁ : Site G k keep hid ⟨loc, mu⟩ s₁ g₁) (hy : k.env.kindOf y = some .local) (CF : CompF G k (k.comp sc cl C) keep hid mu s₁ g₁ fp wr D C keep' hid')
    (Z : CEnd G (k.comp sc cl C) keep' hid' g₁ D wr (fun σ₂ acc => (Ex2 fun ext muOut => And3 (σ₂.mu = ext ++ muOut) (muOut.map (·.1) = mu.map (·.1)) (∀ a, Y acc muOut a))) σ' s' g' acc oD vsD)
    (ok : ∀ s'' ext muOut, σ'.mu = ext ++ muOut → muOut.map (·.1) = mu.map (·.1) → (∀ a, Y acc muOut a) → Site G k keep hid ⟨put y (.m D) loc, (D, .lst acc) :: muOut⟩ s'' g' → Q .next s'') :
    compPost G.M k.A E (some (assign (.Name y py) k.env)) (fun _ s' => Q .next s') (.ref D) C (.ok .next) s' := by
  obtain ⟨ext, muOut, m1, m2, m3⟩ := Z.fin
  obtain ⟨mc, hmc, _⟩ := Z.S.locs
  have mC : ∀ p ∈ σ'.mu, p.1 ≠ C := fun p hp => (Z.S.mus p hp).2.2.1
  have B := call_back (own := []) (muIn := mu) hK S₁ (k' := k.comp sc cl C) (fun b _ => by rw [CF.kcfr]) CF.cs Z.lg Z.S m1 m2
  have B' := B.adopt (a := D) (mo := .lst acc) (Z.hgw D (.head _)) CF.kD CF.lD (fun p hp e => Z.hmw p (m1 ▸ List.mem_append.mpr (.inr hp)) (e ▸ .head _)) Z.hD ⟨vsD, Z.hs, Z.hacc⟩
  obtain ⟨mL, hmL, _⟩ := B'.locs
  show wpAny _ _ (assign (.Name y py) k.env (.ref D)) _ _ _
  refine wpAny_assign_Name (wpAny_storeName_local hy hmL (fun h₆ hn₆ hs₆ => ?_) (by rw [hk.kind]; rfl))
  have B'' := B'.bind (s' := { s' with heap := h₆, toks := s'.toks + 1 }) hK hs₆ (x := y) (v := .ref D) (D := .m D) (fun m' hm' => by
    obtain ⟨o, es, ep, e1, e2, e3, e4⟩ := hm'
    obtain ⟨o', es', ep', e1', e2', e3', e4'⟩ := hmL
    rw [e1] at e1'; obtain rfl := Option.some.inj e1'; rw [e2] at e2'; cases e2'
    have : m' = mL := funext fun n => (e4 n).symm.trans (e4' n)
    rw [this]; exact hn₆) rfl
  refine ⟨mc, (hmc : Heap.Ns _ C mc).sameBut hs₆ CF.lC, fun h₇ hs₇ => ?_⟩
  exact ok _ ext muOut m1 m2 m3 (B''.other (s' := { s' with heap := h₇, toks := s'.toks + 1 }) Z.S.gL CF.kC CF.lC (fun p hp => by
    rcases List.mem_cons.mp hp with rfl | hp
    · exact Nat.ne_of_lt (CF.wrlt D (.head _)).2
    · exact mC p (m1 ▸ List.mem_append.mpr (.inr hp))) hs₇.extBut)
theorem ax_comp (hk : k.Ok) {y : Str} {py spos : Pos} {elt t iter : Expr} {ifs : List Expr} {sc : Scope} {pos : Pos} {cl : List (Str × Addr)} (hclos : closureFor sc k.env = pure cl)
    (h : AW G pf k σ (eval iter k.env) (fun σ₁ D => ∃ xs, ASrc G k σ₁ D xs ∧ xs.length ≤ sizeLine ∧ ∀ C, (k.comp sc cl C).Ok → ACm G pf (k.comp sc cl C) elt t ifs
      (fun σ₂ acc => (Ex2 fun ext muOut => And3 (σ₂.mu = ext ++ muOut) (muOut.map (·.1) = σ₁.mu.map (·.1)) (∀ a, PX ⟨put y (.m a) σ₁.loc, (a, .lst acc) :: muOut⟩))) xs ⟨[], σ₁.mu⟩ []) F)
    (hy : k.env.kindOf y = some .local) (hsw : swapsWith (.ListComp elt [⟨t, iter, ifs, 0⟩] sc pos) (some (.Name y py)) spos.line k.env = pure true := by rfl)
    (hkind : sc.kind = .function := by rfl) (hs : foldedSetIterable iter k.env = pure := by rfl) (hnames : (sc.names.all fun x => !(x.2 == .local) || decide (sc.names.lookup x.1 = some .local)) = true := by rfl)
    (hcell : (sc.names.all fun x => decide (x.2 ≠ .cell)) = true := by rfl) (hgo : letOwnedTupleGo t = (fun _ _ => pure ()) := by rfl) : AX G pf k σ (exec (.Assign [.Name y py] (.ListComp elt [⟨t, iter, ifs, 0⟩] sc pos) spos) k.env) PX R F := by
  intro keep hid s g Q E hK S ok _ er
  rw [exec_Assign_Name_used _ _ _ _ hsw]
  refine wpAny_bind (wpAny_standAt (wpAny_bind ?_))
  show wpAny _ k.A (do let _ ← comprehension (.ListComp elt [⟨t, iter, ifs, 0⟩] sc pos) sc k.env _ (newList []) false (eval iter k.env) (some (assign (.Name y py) k.env))) _ _ s
  refine wpAny_bind (wpAny_mono (wpAny_comprehension_free (use := some (assign (.Name y py) k.env)) (Q := fun _ s' => Q .next s') rfl (congrFun hs) hclos hkind (fun x hx hl => ?_) ?_) (fun _ s' hq => wpAny_pure (wpAny_pure hq)) fun _ _ e => e)
  · have := List.all_eq_true.mp hnames x hx
    simpa [hl] using this
  show wpAny _ _ (eval iter k.env) _ _ _
  refine h keep hid s g _ E hK S (fun σ₁ D v s₁ g₁ h₁ l₁ S₁ i₁ => ?_) er
  obtain ⟨xs, hsrc, hlen, hturn⟩ := h₁
  obtain ⟨loc, mu⟩ := σ₁
  refine hsrc keep hid s₁ g₁ _ _ v hK S₁ i₁ fun I fp wr Pv Stt s₂ W st0 hgrow hsize hgen hos hwr hfp hal hPv => ?_
  refine comp_start (R := fun D C => compPost G.M k.A E (some (assign (.Name y py) k.env)) (fun _ s' => Q .next s') (.ref D) C) hk hkind hcell hK S₁ W.frame W.self st0 hgrow hsize hgen hos hwr hfp hal fun kc D C h₄ keep' hid' hkc ok' CF S₄ st4 hD => ?_
  subst hkc
  refine comp_loop CF S₁ S₄ st4 hD hfp hal hlen W hPv (fun it v => congrFun (congrFun hgo it) v) (hturn C ok') fun σ' s' g' acc oD vsD Z => ?_
  exact comp_put hk hK S₁ hy CF Z fun s'' ext muOut m1 m2 m3 B => ok _ _ g' (m3 D) (l₁.trans Z.lg) B
noncomputable def NameRow (r : Str) : Prop := (Ex2 fun (a b : Int) => And3 (a.natAbs ≤ 9) (b.natAbs ≤ 9) (r = ("name " : Str) ++ strZ a ++ (" " : Str) ++ strZ b ++ (" ; and" : Str)))
noncomputable def stepHd (n : Int) (w : Str) : Str := ("step " : Str) ++ strZ n ++ (" " : Str) ++ w
noncomputable def stepParts (n : Int) (w : Str) (cl ah : List Int) (d : PV) : List Str := [stepHd n w, rowT cl, rowT ah, noteT d]
noncomputable def StepRow (r : Str) : Prop := (Ex5 fun (n : Int) (w : Str) (cl ah : List Int) (d : PV) => And8 (n.natAbs ≤ 9) (w ∈ rulesL) (cl.length ≤ 4) ((∀ i ∈ cl, i.natAbs ≤ 9)) (ah.length ≤ 2) ((∀ i ∈ ah, i.natAbs ≤ 9)) (NoteP 2 d) (r = Txt.join " | " (stepParts n w cl ah d)))
theorem NameRow.len {r : Str} (h : NameRow r) : r.length ≤ 20 := by
  obtain ⟨a, b, ha, hb, rfl⟩ := h
  have h1 := small_text ha
  have h2 := small_text hb
  simp only [len_app, strZ]
  show 5 + _ + 1 + _ + 6 ≤ 20
  exact ar221 h1 h2
theorem rules_len : ∀ w ∈ rulesL, w.length ≤ 10 := by decide +kernel
theorem rowT_len {l : List Int} (hl : l.length ≤ 4) (hs : ∀ i ∈ l, i.natAbs ≤ 9) : (rowT l).length ≤ 12 := by
  unfold rowT
  split
  · decide
  · have a := join_le " " (l.map strZ)
    have b := sum_le (l := l.map strZ) (n := 2) (fun y hy => by
      obtain ⟨d, hd, rfl⟩ := List.mem_map.mp hy
      exact small_text (hs d hd))
    have e : (" " : Str).length = 1 := rfl
    rw [List.length_map] at a b
    rw [e] at a
    exact ar222 hl a b
theorem stepHd_len {n : Int} {w : Str} (hn : n.natAbs ≤ 9) (hw : w ∈ rulesL) : (stepHd n w).length ≤ 18 := by
  have h1 := small_text hn
  have h2 := rules_len w hw
  unfold stepHd
  simp only [len_app, strZ]
  show 5 + _ + 1 + _ ≤ 18
  exact Nat.le_trans (Nat.add_le_add (Nat.add_le_add_right (Nat.add_le_add_left h1 _) _) h2) (by decide)
theorem StepRow.len {r : Str} (h : StepRow r) : r.length ≤ 600 := by
  obtain ⟨n, w, cl, ah, d, h1, h2, h3, h4, h5, h6, h7, rfl⟩ := h
  have a := join_le " | " (stepParts n w cl ah d)
  have e : (" | " : Str).length = 3 := rfl
  have b1 := stepHd_len h1 h2
  have b2 := rowT_len h3 h4
  have b3 := rowT_len (Nat.le_trans h5 (by decide)) h6
  have b4 := noteT_len4 h7 (by decide)
  simp only [stepParts, List.map_cons, List.map_nil, List.sum_cons, List.sum_nil, List.length_cons, List.length_nil, e] at a
  unfold stepParts
  exact ar224 b1 b2 b3 b4 a
theorem rule_at {v : Int} (h0 : 0 ≤ v) (h1 : v < 11) : (Ex2 fun n w => And3 (seqIndex? v (rulesL.map PV.str).length = some n) ((rulesL.map PV.str)[n]? = some (.str w)) (w ∈ rulesL)) := by
  have hv : v = 0 ∨ v = 1 ∨ v = 2 ∨ v = 3 ∨ v = 4 ∨ v = 5 ∨ v = 6 ∨ v = 7 ∨ v = 8 ∨ v = 9 ∨ v = 10 := by exact ar225 h0 h1
  rcases hv with rfl | rfl | rfl | rfl | rfl | rfl | rfl | rfl | rfl | rfl | rfl
  · exact ⟨0, _, rfl, rfl, .head _⟩
  · exact ⟨1, _, rfl, rfl, .tail _ (.head _)⟩
  · exact ⟨2, _, rfl, rfl, .tail _ (.tail _ (.head _))⟩
  · exact ⟨3, _, rfl, rfl, .tail _ (.tail _ (.tail _ (.head _)))⟩
  · exact ⟨4, _, rfl, rfl, .tail _ (.tail _ (.tail _ (.tail _ (.head _))))⟩
  · exact ⟨5, _, rfl, rfl, .tail _ (.tail _ (.tail _ (.tail _ (.tail _ (.head _)))))⟩
  · exact ⟨6, _, rfl, rfl, .tail _ (.tail _ (.tail _ (.tail _ (.tail _ (.tail _ (.head _))))))⟩
  · exact ⟨7, _, rfl, rfl, .tail _ (.tail _ (.tail _ (.tail _ (.tail _ (.tail _ (.tail _ (.head _)))))))⟩
  · exact ⟨8, _, rfl, rfl, .tail _ (.tail _ (.tail _ (.tail _ (.tail _ (.tail _ (.tail _ (.tail _ (.head _))))))))⟩
  · exact ⟨9, _, rfl, rfl, .tail _ (.tail _ (.tail _ (.tail _ (.tail _ (.tail _ (.tail _ (.tail _ (.tail _ (.head _)))))))))⟩
  · exact ⟨10, _, rfl, rfl, .tail _ (.tail _ (.tail _ (.tail _ (.tail _ (.tail _ (.tail _ (.tail _ (.tail _ (.tail _ (.head _))))))))))⟩
theorem pyl81 : ∀ n < 81, ∀ c < 4, Builtin.divisionGoesByPylong ((n : Nat) : Int) ((3 : Int) ^ c) = false := by decide +kernel
theorem an_cellE (hk : k.Ok) {x : Str} {D : Dsc} {c : Addr} {mo : MO} {mu' : List (Addr × MO)} (hx : k.env.kindOf x = some .cell) (hc : k.env.cells.lookup x = some c) (hmo : mo = .cell0 ∨ ∃ D₀, mo = .cell D₀) (hu : MuUp c mo (.cell D) σ.mu mu') (h : PX ⟨σ.loc, mu'⟩) : AN G k σ x D PX := by
  rcases hmo with rfl | ⟨D₀, rfl⟩
  · exact an_cell0 hk hx hc hu h
  · exact an_cell hk hx hc hu h
theorem AW.post {t : Sem Value} (h : AW G pf k σ t (fun σ' D => ∃ mu, σ'.mu.Perm mu ∧ P ⟨σ'.loc, mu⟩ D) F) : AW G pf k σ t P F :=
  fun keep hid s g Q E hK S ok er => h keep hid s g Q E hK S (fun σ' D v s' g' ⟨mu, hp, p⟩ l S' i => ok _ D v s' g' p l (S'.perm hp) i) er
noncomputable abbrev strL (l : List Str) : MO := .lst ((l.map PV.str).map Dsc.d)
noncomputable abbrev intL (l : List Int) : MO := .lst ((l.map PV.int).map Dsc.d)
set_option maxHeartbeats 4000000 in
theorem c_text (fx : Fx G pf) (hk : k.Ok) {s : Addr} {cs : List Int} {at_ : Nat} {own : List (Addr × MO)} (hmu : σ.mu.Perm ((s, srcM cs at_) :: own)) (hcs : cs.length ≤ 1000) (hat : at_ ≤ 500) (room : Room k.A 6)
    (h : ∀ at' names steps, (∀ r ∈ names, NameRow r) → names.length ≤ 2 → (∀ r ∈ steps, StepRow r) → steps.length ≤ 4 → at' ≤ at_ + 200 → P ⟨σ.loc, (s, srcM cs at') :: own⟩ (.d (.str (Txt.join "\n" (names ++ steps))))) : AC G pf k σ (.ref 280) [.m s] P F := by
  refine AC.perm (mu := own ++ [(s, srcM cs at_)]) (hmu.trans (List.perm_append_comm (l₁ := [_]))) ?_
  refine AC.post (acc_defC fx.ok hk (fx.k (a := 280) (i := 23) (by decide)) (n := 5) room (own := own) (muIn := [(s, srcM cs at_)]) rfl (Ds := [.m s]) ["src"] (fun name doc pm an cdv ct vs hvs => ?_) [] (fun L => [(L + 1, .cell (.m s)), (L + 2, .cell0)]) (fun L x hx => ?_) (fun g vs _ x D e => ?_) (fun L g vs hv p hp => ?_) (fun L => ?_) rfl rfl rfl fun L cd hk' hF' rm hlt => ?_).ac
  · obtain ⟨a, rfl⟩ := len1 hvs; rfl
  · simp only [List.mem_cons, List.mem_nil_iff, or_false] at hx
    subst hx
    exact .inr ⟨rfl, rfl⟩
  · simp at e
  · obtain ⟨a, rfl⟩ := len1 (show vs.length = 1 from hv.length)
    cases hv with | cons i1 r =>
    simp only [List.mem_cons, List.mem_nil_iff, or_false] at hp
    rcases hp with rfl | rfl
    · exact ⟨"src", (by show (("src" : Str), L + 1) ∈ [(("number" : Str), L + 2), ("src", L + 1)]; simp), rfl, a, rfl, i1⟩
    · exact ⟨"number", (by show (("number" : Str), L + 2) ∈ [(("number" : Str), L + 2), ("src", L + 1)]; simp), rfl, rfl⟩
  · simp
  have sl := sl_eq
  refine AX.post ?_
  have fin : ∀ (σ' : St) D at' rest, σ'.mu.Perm (rest ++ [(s, srcM cs at')]) → P ⟨σ.loc, (s, srcM cs at') :: own⟩ D → ∃ mu, σ'.mu.Perm mu ∧ (Ex2 fun ext muOut => And3 (mu = ext ++ muOut) (muOut.map (·.1) = [(s, srcM cs at_)].map (·.1)) (∃ mu', List.Perm (own ++ muOut) mu' ∧ P ⟨σ.loc, mu'⟩ D)) :=
    fun σ' D at' rest hp p => ⟨_, hp, rest, [(s, srcM cs at')], rfl, rfl, _, List.perm_append_comm, p⟩
  -- the names
  refine ax_l4 ?_; intro z1a z1b z1c z1d; refine ax_cons (ax_comp hk' (cl := [("src", L + 1)]) rfl ?_ rfl)
  refine aw_bl fx hk' (v := .type "range") (by decide) (by kernel_rfl) (.type _) rfl ?_
  refine al_cons (aw_fn fx hk' (a := 260) (i := 19) (by decide) rfl rfl ?_)
  refine al_cons (aw_cell hk' rfl rfl (.head _) ?_)
  (refine al_cons ?_; refine aw_int ?_; refine al_nil ?_)
  refine c_draw fx hk' (own := [(L + 1, .cell (.m s)), (L + 2, .cell0)]) (List.perm_append_comm (l₂ := [_])) hcs (by exact Nat.le_trans hat (by decide)) (by decide) (rm.less (by exact Nat.succ_pos _)) fun v v0 v1 => ?_
  refine al_nil ?_
  refine ac_range fun o ho => ⟨_, src_range hk' ho (by exact Int.lt_trans v1 (by decide)) (by exact Int.le_trans (by decide) v0), by simp [rngs]; exact ar229 sl v1, fun C hkC => ?_⟩
  rw [show rngs v = (List.range' 0 v.toNat).map fun (i : Nat) => PV.int (i : Int) by rw [← List.range_eq_range']; rfl]
  refine acm_ind (fun (i : Nat) => PV.int (i : Int)) (fun cs' σ' acc => (Ex2 fun at' names => And6 (σ'.mu = (s, srcM cs at') :: [(L + 1, .cell (.m s)), (L + 2, .cell0)]) (acc = names.map (fun r => Dsc.d (.str r))) ((∀ r ∈ names, NameRow r)) (names.length + cs'.length = v.toNat) (at' ≤ at_ + 1 + names.length) (cs' = List.range' (v.toNat - cs'.length) cs'.length)))
      ?_ ?_ _ _ _ ⟨at_ + 1, [], rfl, rfl, (by simp), by simp, by simp, by simp⟩
  rotate_left
  · rintro c cs' ⟨loc', mu'⟩ acc ⟨at', names, hmu', rfl, hds, hln, hat', hr⟩
    dsimp only at hmu'
    subst hmu'
    simp only [List.length_cons] at hln hr
    rw [List.range'_succ] at hr
    obtain ⟨hc, hr⟩ := List.cons.inj hr
    refine as_name ?_
    (refine an_loc (by assumption) rfl ?_; (try dsimp only))
    refine ab_tests_nil ?_
    first | refine ite_t ?_ | rw [if_pos rfl]
    (refine aw_bin ?_; refine aw_bin ?_; refine aw_bin ?_; refine aw_bin ?_; refine aw_str ?_)
    refine aw_bl fx hkC (v := .type "str") (by decide) (by kernel_rfl) (.type _) rfl ?_
    (refine al_cons ?_; refine aw_bin ?_; refine aw_loc (by assumption) rfl rfl ?_; refine aw_int ?_)
    refine ao_add ?_
    refine al_nil ?_
    refine ac_stri (log2_le9 (by exact ar230 v1 hc)) ?_
    have s1 := small_text (i := (c : Int) + 1) (by exact ar230 v1 hc)
    refine ao_adds (by rw [sl]; show 5 + _ ≤ _; exact Nat.le_trans (Nat.add_le_add_left s1 _) (by decide)) ?_
    refine aw_str ?_
    refine ao_adds (by rw [sl, len_app]; show 5 + _ + 1 ≤ _; exact Nat.le_trans (Nat.add_le_add_right (Nat.add_le_add_left s1 _) _) (by decide)) ?_
    refine aw_bl fx hkC (v := .type "str") (by decide) (by kernel_rfl) (.type _) rfl ?_
    refine al_cons (aw_fn fx hkC (a := 260) (i := 19) (by decide) rfl rfl ?_)
    refine al_cons (aw_cell hkC rfl rfl (.tail _ (.head _)) ?_)
    (refine al_cons ?_; refine aw_int ?_; refine al_nil ?_)
    refine c_draw fx hkC (own := [(L + 1, .cell (.m s)), (L + 2, .cell0)]) (List.Perm.refl _) hcs (by exact ar233 hat v1 hln hat') (by decide) (rm.less (by exact Nat.succ_pos _)) fun w w0 w1 => ?_
    refine al_nil ?_
    refine ac_stri (log2_le9 (by exact ar234 w0 w1)) ?_
    have s2 := small_text (i := w) (by exact ar234 w0 w1)
    refine ao_adds (by rw [sl, len_app, len_app]; show 5 + _ + 1 + _ ≤ _; exact Nat.le_trans (Nat.add_le_add (Nat.add_le_add_right (Nat.add_le_add_left s1 _) _) s2) (by decide)) ?_
    refine aw_str ?_
    refine ao_adds (by rw [sl, len_app, len_app, len_app]; show 5 + _ + 1 + _ + 6 ≤ _; exact ar236 s1 s2) ?_
    refine ⟨at' + 1, names ++ [_], rfl, by simp; rfl, fun r hr' => ?_, by simp; exact ar215 hln, by simp; exact Nat.succ_le_succ hat', ?_⟩
    · rcases List.mem_append.mp hr' with z | z
      · exact hds r z
      · rw [List.mem_singleton.mp z]; exact ⟨(c : Int) + 1, w, by exact ar230 v1 hc, by exact ar234 w0 w1, rfl⟩
    · rw [show v.toNat - cs'.length = v.toNat - (cs'.length + 1) + 1 by exact ar238 hln]; exact hr
  rintro σ₁ acc ⟨at₁, names, hmu₁, rfl, hnames, hnl, hat₁, _⟩
  simp only [List.length_nil, Nat.add_zero] at hnl
  refine ⟨[], σ₁.mu, rfl, by rw [hmu₁]; rfl, fun aR => ?_⟩
  rw [hmu₁]
  rw [show names.map (fun r => Dsc.d (.str r)) = (names.map PV.str).map Dsc.d by simp]
  -- the steps
  refine ax_l1 ?_; intro z2a; refine ax_cons (ax_for hk' hF' ?_)
  refine aw_bl fx hk' (v := .type "range") (by decide) (by kernel_rfl) (.type _) rfl ?_
  refine al_cons (aw_bin ?_)
  refine aw_int ?_
  refine aw_fn fx hk' (a := 260) (i := 19) (by decide) rfl rfl ?_
  refine al_cons (aw_cell hk' rfl rfl (.tail _ (.tail _ (.head _))) ?_)
  (refine al_cons ?_; refine aw_int ?_; refine al_nil ?_)
  refine c_draw fx hk' (own := [(aR, strL names), (L + 1, .cell (.m s)), (L + 2, .cell0)]) (List.Perm.swap _ _ _) hcs (by exact ar239 hat v1 hnl hat₁) (by decide) (rm.less (by exact Nat.succ_pos _)) fun v' v0' v1' => ?_
  refine ao_add ?_
  refine al_nil ?_
  refine ac_range fun o ho => ⟨_, src_range hk' ho (by exact ar240 v1') (by exact ar241 v0'), ?_⟩
  rw [show rngs (1 + v') = (List.range (1 + v').toNat).map fun (i : Nat) => PV.int (i : Int) from rfl]
  refine af_ind (fun (i : Nat) => PV.int (i : Int)) (fun cs' σ' => (Ex3 fun at' steps mo => And6 (σ' = ⟨[("rows", .m aR)], [(s, srcM cs at'), (aR, strL (names ++ steps)), (L + 1, .cell (.m s)), (L + 2, mo)]⟩) ((mo = .cell0 ∨ ∃ D, mo = .cell D)) ((∀ r ∈ steps, StepRow r)) (steps.length + cs'.length = (1 + v').toNat) (at' ≤ at₁ + 1 + 31 * steps.length) ((∀ c ∈ cs', c ≤ 3)))) ?_ ?_ _ _ ⟨at₁ + 1, [], .cell0, by simp; rfl, .inl rfl, by simp, by simp, by simp, fun c hc => by have := List.mem_range.mp hc; exact ar242 v1' this⟩
  · rintro σ' ⟨at', steps, mo, rfl, _, hsteps, hln, hat', _⟩
    simp only [List.length_nil, Nat.add_zero] at hln
    (refine ax_l1 ?_; intro z3a; refine ax_cons ?_; refine ax_ret ?_)
    refine aw_meth fx.ok PySem.F.plainAttrs_str PySem.F.slot_str_join (by kernel_rfl) (aw_str ⟨rfl, ?_⟩)
    refine al_cons (aw_freeze (aw_loc hk' rfl rfl ⟨aR, (names ++ steps).map PV.str, _, rfl, List.Perm.swap _ _ _, ?_⟩))
    refine al_nil ?_
    have sm := sum_le (l := names ++ steps) (n := 600) (fun y hy => by
      rcases List.mem_append.mp hy with z | z
      · have := (hnames y z).len; exact Nat.le_trans this (by decide)
      · exact (hsteps y z).len)
    rw [List.length_append] at sm
    refine ac_join (by decide) (by rw [List.length_append]; exact ar244 v1 hnl v1' hln sm) ?_
    exact fin _ _ at' [(L + 1, .cell (.m s)), (L + 2, mo)] (List.perm_append_comm (l₁ := [_])) (h at' names steps hnames (by exact ar245 v1 hnl) hsteps (by exact ar246 v1' hln) (by exact ar247 v1 hnl hat₁ v1' hln hat'))
  · rintro c cs' σ' ⟨at', steps, mo, rfl, hmo, hsteps, hln, hat', hc⟩
    simp only [List.length_cons] at hln
    have c3 := hc c (.head _)
    refine as_name (an_cellE hk' rfl rfl hmo (mu' := [(s, srcM cs at'), (aR, strL (names ++ steps)), (L + 1, .cell (.m s)), (L + 2, .cell (.d (.int c)))]) (.tail (.tail (.tail .head))) ?_)
    obtain ⟨rv, hrv, hrd⟩ := fx.lrules
    refine ax_l4 ?_; intro z5a z5b z5c z5d; refine ax_cons (ax_asgn (aw_sub (aw_globD fx.ok hk' rfl hrv hrd ?_)))
    refine aw_fn fx hk' (a := 260) (i := 19) (by decide) rfl rfl ?_
    refine al_cons (aw_cell hk' rfl rfl (.tail _ (.tail _ (.head _))) ?_)
    (refine al_cons ?_; refine aw_int ?_; refine al_nil ?_)
    refine c_draw fx hk' (own := [(aR, strL (names ++ steps)), (L + 1, .cell (.m s)), (L + 2, .cell (.d (.int c)))]) (List.Perm.refl _) hcs (by exact ar248 hat v1 hnl hat₁ v1' hln hat') (by decide) (rm.less (by exact Nat.succ_pos _)) fun vr vr0 vr1 => ?_
    obtain ⟨nr, w, er1, er2, hw⟩ := rule_at vr0 vr1
    refine ao_item_tup (n := nr) (d := .str w) (by exact Int.le_trans (by decide) vr0) (by exact Int.lt_trans vr1 (by decide)) er1 er2 ?_
    (refine an_loc (by assumption) rfl ?_; (try dsimp only))
    refine ax_l1 ?_; intro z6a; refine ax_cons (ax_unpack hk' ["digits", "clause"] ?_)
    refine al_cons (aw_fn fx hk' (a := 260) (i := 19) (by decide) rfl rfl ?_)
    refine al_cons (aw_cell hk' rfl rfl (.tail _ (.tail _ (.head _))) ?_)
    (refine al_cons ?_; refine aw_int ?_; refine al_nil ?_)
    refine c_draw fx hk' (own := [(aR, strL (names ++ steps)), (L + 1, .cell (.m s)), (L + 2, .cell (.d (.int c)))]) (List.Perm.refl _) hcs (by exact ar251 hat v1 hnl hat₁ v1' hln hat') (by decide) (rm.less (by exact Nat.succ_pos _)) fun vd vd0 vd1 => ?_
    refine al_cons (aw_list (al_nil ⟨Nat.zero_le _, fun aC => ?_⟩))
    refine al_nil ⟨rfl, by decide, ?_⟩
    show AN _ _ _ _ _ _
    refine an_loc hk' rfl ?_
    show AN _ _ _ _ _ _
    refine an_loc hk' rfl ?_
    show AX _ _ _ _ _ _ _ _
    -- the clause
    refine ax_l1 ?_; intro z7a; refine ax_cons (ax_for hk' hF' ?_)
    refine aw_bl fx hk' (v := .type "range") (by decide) (by kernel_rfl) (.type _) rfl ?_
    (refine al_cons ?_; refine aw_int ?_; refine al_nil ?_)
    refine ac_range fun o ho => ⟨_, src_range hk' ho (by exact ar252) (by exact ar253), ?_⟩
    rw [show rngs 4 = (List.range 4).map fun (i : Nat) => PV.int (i : Int) from rfl]
    refine af_ind (fun (i : Nat) => PV.int (i : Int)) (fun cs'' σ'' => (∃ cl, And4 (σ'' = ⟨[("digits", .d (.int vd)), ("clause", .m aC), ("word", .d (.str w)), ("rows", .m aR)], [(aC, intL cl), (s, srcM cs (at' + 1 + 1)), (aR, strL (names ++ steps)), (L + 1, .cell (.m s)), (L + 2, .cell (.d (.int c)))]⟩) (cl.length + cs''.length ≤ 4) ((∀ i ∈ cl, i.natAbs ≤ 9)) ((∀ c ∈ cs'', c < 4)))) ?_ ?_ _ _ ⟨[], rfl, by simp, by simp, fun c hc => List.mem_range.mp hc⟩
    rotate_left
    · rintro k' cs'' σ'' ⟨cl, rfl, hcl, hcs9, hk4⟩
      have k4 := hk4 k' (.head _)
      simp only [List.length_cons] at hcl
      obtain ⟨nd, rfl⟩ : ∃ nd : Nat, vd = nd := ⟨vd.toNat, by exact ar254 vd0⟩
      (refine as_name ?_; refine an_loc (by assumption) rfl ?_; (try dsimp only); refine ax_l4 ?_; intro z8a z8b z8c z8d; refine ax_cons ?_; refine ax_if ?_; refine ab_cmp ?_; refine aw_bin ?_; refine aw_bin ?_; refine aw_loc (by assumption) rfl rfl ?_; refine aw_bin ?_; refine aw_int ?_; refine aw_loc (by assumption) rfl rfl ?_)
      refine ao_pow (by exact ar68) (by rw [show Builtin.Int.intBits 3 = 2 by decide +kernel]; exact ar255 k4) ?_
      rw [Int.toNat_natCast]
      refine ao_fdiv (Int.ne_of_gt (Int.pow_pos (by decide))) (pyl81 nd (by exact ar256 vd1) k' k4) ?_
      refine aw_int ?_
      refine ao_mod (by decide) ?_
      refine aw_int ?_
      refine ao_gt (at_bool ?_)
      generalize hq : Int.fmod (Int.fdiv (nd : Int) (3 ^ k')) 3 = q
      by_cases qp : 0 < q
      · rw [decide_eq_true qp, if_pos rfl]
        refine ax_cons (ax_expr (aw_meth fx.ok PySem.F.plainAttrs_list PySem.F.slot_list_append (by kernel_rfl) (aw_loc hk' rfl rfl ⟨⟨rfl, _, .head _⟩, ?_⟩)))
        refine al_cons (aw_bin ?_)
        (refine aw_bin ?_; refine aw_loc (by assumption) rfl rfl ?_; refine aw_int ?_)
        refine ao_add ?_
        refine aw_same (.d (.int (if q = 1 then 1 else -1))) ?_ ?_
        · refine aw_ife ?_
          (refine ab_cmp ?_; refine aw_bin ?_; refine aw_bin ?_; refine aw_loc (by assumption) rfl rfl ?_; refine aw_bin ?_; refine aw_int ?_; refine aw_loc (by assumption) rfl rfl ?_)
          refine ao_pow (by exact ar68) (by rw [show Builtin.Int.intBits 3 = 2 by decide +kernel]; exact ar255 k4) ?_
          rw [Int.toNat_natCast]
          refine ao_fdiv (Int.ne_of_gt (Int.pow_pos (by decide))) (pyl81 nd (by exact ar256 vd1) k' k4) ?_
          refine aw_int ?_
          refine ao_mod (by decide) ?_
          refine aw_int ?_
          refine ao_eqi (at_bool ?_)
          rw [hq]
          by_cases q1 : q = 1
          · rw [beq_iff_eq.mpr q1, if_pos rfl, if_pos q1]
            exact aw_int ⟨rfl, rfl⟩
          · rw [beq_eq_false_iff_ne.mpr q1, if_neg (by decide), if_neg q1]
            exact aw_m1 ⟨rfl, rfl⟩
        refine ao_mul (IntMulOk.of_left (by have := bits1000 (k' + 1) (by exact Nat.lt_of_lt_of_le k4 (by decide)); simpa using this)) ?_
        refine al_nil ?_
        refine ac_append .head (by simp; exact ar258 sl hcl) ?_
        refine ax_nil (ax_nil_f (σ' := ⟨[("digits", .d (.int nd)), ("clause", .m aC), ("word", .d (.str w)), ("rows", .m aR)], _⟩) ⟨rfl, rfl, rfl, rfl, trivial⟩ rfl ?_)
        refine ⟨cl ++ [((k' : Int) + 1) * (if q = 1 then 1 else -1)], by simp [intL], by simp; exact Nat.le_trans (Nat.le_of_eq (Nat.add_right_comm _ _ _)) hcl, fun i hi => ?_, fun c hc => hk4 c (.tail _ hc)⟩
        rcases List.mem_append.mp hi with z | z
        · exact hcs9 i z
        · rw [List.mem_singleton.mp z]
          split <;> first | exact ar260 k4 | exact ar261 k4
      · rw [decide_eq_false qp, if_neg (by decide)]
        refine ax_nil (ax_nil_f (σ' := ⟨[("digits", .d (.int nd)), ("clause", .m aC), ("word", .d (.str w)), ("rows", .m aR)], _⟩) ⟨rfl, rfl, rfl, rfl, trivial⟩ rfl ?_)
        exact ⟨cl, rfl, by exact Nat.le_of_lt hcl, hcs9, fun c hc => hk4 c (.tail _ hc)⟩
    rintro σ'' ⟨cl, rfl, hcl, hcs9, _⟩
    simp only [List.length_nil, Nat.add_zero] at hcl
    -- ahead
    refine ax_l1 ?_; intro z11a; refine ax_cons (ax_asgn (AW.post (AW.mono (P' := fun σ₂ D => (Ex3 fun ah at₂ aA => And6 (D = .m aA) (σ₂.loc = ([("digits", .d (.int vd)), ("clause", .m aC), ("word", .d (.str w)), ("rows", .m aR)] : List (Str × Dsc))) (σ₂.mu.Perm [(aC, intL cl), (aA, intL ah), (s, srcM cs at₂), (aR, strL (names ++ steps)), (L + 1, .cell (.m s)), (L + 2, .cell (.d (.int c)))]) (ah.length ≤ 2) ((∀ i ∈ ah, i.natAbs ≤ 9)) (at₂ ≤ at' + 1 + 1 + 3))) ?_ ?_ (fun _ x => x))))
    · refine aw_ife (ab_cmp (aw_cell hk' rfl rfl (.tail _ (.tail _ (.tail _ (.tail _ (.head _))))) ?_))
      refine aw_int ?_
      refine ao_gt (at_bool ?_)
      by_cases cp : 0 < c
      · rw [decide_eq_true (by exact ar51 cp), if_pos rfl]
        refine aw_comp hk' (cl := [("src", L + 1), ("number", L + 2)]) rfl ?_
        refine aw_bl fx hk' (v := .type "range") (by decide) (by kernel_rfl) (.type _) rfl ?_
        refine al_cons (aw_fn fx hk' (a := 260) (i := 19) (by decide) rfl rfl ?_)
        refine al_cons (aw_cell hk' rfl rfl (.tail _ (.tail _ (.tail _ (.head _)))) ?_)
        (refine al_cons ?_; refine aw_int ?_; refine al_nil ?_)
        refine c_draw fx hk' (own := [(aC, intL cl), (aR, strL (names ++ steps)), (L + 1, .cell (.m s)), (L + 2, .cell (.d (.int c)))]) (List.Perm.swap _ _ _) hcs (by exact ar263 hat v1 hnl hat₁ v1' hln hat') (by decide) (rm.less (by exact Nat.succ_pos _)) fun va va0 va1 => ?_
        refine al_nil ?_
        refine ac_range fun o ho => ⟨_, src_range hk' ho (by exact Int.lt_trans va1 (by decide)) (by exact Int.le_trans (by decide) va0), by simp [rngs]; exact ar229 sl va1, fun C hkC => ?_⟩
        rw [show rngs va = (List.range va.toNat).map fun (i : Nat) => PV.int (i : Int) from rfl]
        refine acm_ind (fun (i : Nat) => PV.int (i : Int)) (fun cs' σ' acc => (Ex2 fun at₃ ah => And5 (σ'.mu = [(s, srcM cs at₃), (aC, intL cl), (aR, strL (names ++ steps)), (L + 1, .cell (.m s)), (L + 2, .cell (.d (.int c)))]) (acc = (ah.map PV.int).map Dsc.d) ((∀ i ∈ ah, i.natAbs ≤ 9)) (ah.length + cs'.length = va.toNat) (at₃ ≤ at' + 1 + 1 + 1 + ah.length)))
          ?_ ?_ _ _ _ ⟨at' + 1 + 1 + 1, [], rfl, rfl, (by simp), by simp, by simp⟩
        · rintro σ' acc ⟨at₃, ah, hmu', rfl, h9, hln', hat₃⟩
          simp only [List.length_nil, Nat.add_zero] at hln'
          refine ⟨[], σ'.mu, rfl, by rw [hmu']; rfl, fun aA => ⟨ah, at₃, aA, rfl, rfl, ?_, by exact ar245 va1 hln', h9, by exact ar264 va1 hln' hat₃⟩⟩
          rw [hmu']
          exact ((List.Perm.swap _ _ _).cons _).trans (List.Perm.swap _ _ _)
        · rintro j cs' ⟨loc', mu'⟩ acc ⟨at₃, ah, hmu', rfl, h9, hln', hat₃⟩
          dsimp only at hmu'
          subst hmu'
          simp only [List.length_cons] at hln'
          refine as_name ?_
          (refine an_loc (by assumption) rfl ?_; (try dsimp only))
          refine ab_tests_nil ?_
          first | refine ite_t ?_ | rw [if_pos rfl]
          refine aw_fn fx hkC (a := 260) (i := 19) (by decide) rfl rfl ?_
          refine al_cons (aw_cell hkC rfl rfl (.tail _ (.tail _ (.tail _ (.head _)))) ?_)
          refine al_cons (aw_cell hkC rfl rfl (.tail _ (.tail _ (.tail _ (.tail _ (.head _))))) ?_)
          refine al_nil ?_
          refine c_draw fx hkC (own := [(aC, intL cl), (aR, strL (names ++ steps)), (L + 1, .cell (.m s)), (L + 2, .cell (.d (.int c)))]) (List.Perm.refl _) hcs (by exact ar265 hat v1 hnl hat₁ v1' hln hat' va1 hln' hat₃) (by exact ar51 cp) (rm.less (by exact Nat.succ_pos _)) fun vx vx0 vx1 => ?_
          refine ⟨at₃ + 1, ah ++ [vx], rfl, by simp, fun i hi => ?_, by simp; exact ar215 hln', by simp; exact Nat.succ_le_succ hat₃⟩
          rcases List.mem_append.mp hi with z | z
          · exact h9 i z
          · rw [List.mem_singleton.mp z]; exact ar267 c3 vx0 vx1
      · rw [decide_eq_false (by exact ar71 cp), if_neg (by decide)]
        refine aw_list (al_nil ⟨Nat.zero_le _, fun aA => ⟨[], at' + 1 + 1, aA, rfl, rfl, List.Perm.swap _ _ _, by simp, by simp, by exact Nat.le_add_right _ _⟩⟩)
    rintro ⟨loc₂, mu₂⟩ D ⟨ah, at₂, aA, rfl, hl₂, hp₂, hah, hah9, hat₂⟩
    dsimp only at hl₂ hp₂
    subst hl₂
    refine ⟨_, hp₂, ?_⟩
    (refine an_loc (by assumption) rfl ?_; (try dsimp only))
    -- parts
    refine ax_l1 ?_; intro z12a; refine ax_cons (ax_asgn (aw_listD ?_))
    refine al_cons (aw_bin ?_)
    (refine aw_bin ?_; refine aw_bin ?_; refine aw_str ?_)
    refine aw_bl fx hk' (v := .type "str") (by decide) (by kernel_rfl) (.type _) rfl ?_
    refine al_cons (aw_cell hk' rfl rfl (.tail _ (.tail _ (.tail _ (.tail _ (.tail _ (.head _)))))) ?_)
    refine al_nil ?_
    refine ac_stri (log2_le9 (by exact Nat.le_trans c3 (by decide))) ?_
    have s1 := small_text (i := (c : Int)) (by exact Nat.le_trans c3 (by decide))
    have wl := rules_len w hw
    refine ao_adds (by rw [sl]; show 5 + _ ≤ _; exact Nat.le_trans (Nat.add_le_add_left s1 _) (by decide)) ?_
    refine aw_str ?_
    refine ao_adds (by rw [sl, len_app]; show 5 + _ + 1 ≤ _; exact Nat.le_trans (Nat.add_le_add_right (Nat.add_le_add_left s1 _) _) (by decide)) ?_
    refine aw_loc (by assumption) rfl rfl ?_
    refine ao_adds (by rw [sl, len_app, len_app]; show 5 + _ + 1 + _ ≤ _; exact Nat.le_trans (Nat.add_le_add (Nat.add_le_add_right (Nat.add_le_add_left s1 _) _) wl) (by decide)) ?_
    refine al_cons (aw_fn fx hk' (a := 275) (i := 22) (by decide) rfl rfl ?_)
    refine al_cons (aw_freeze (aw_loc hk' rfl rfl ⟨aC, cl.map PV.int, _, rfl, List.Perm.refl _, ?_⟩))
    refine al_nil ?_
    refine c_row fx hk' (by exact Nat.le_trans hcl (by decide)) hcs9 (rm.less (by exact Nat.le_add_left _ _)) ?_
    refine al_cons (aw_fn fx hk' (a := 275) (i := 22) (by decide) rfl rfl ?_)
    refine al_cons (aw_freeze (aw_loc hk' rfl rfl ⟨aA, ah.map PV.int, _, rfl, List.Perm.refl _, ?_⟩))
    refine al_nil ?_
    refine c_row fx hk' (by exact Nat.le_trans hah (by decide)) hah9 (rm.less (by exact Nat.le_add_left _ _)) ?_
    refine al_nil ⟨[.str (stepHd c w), .str (rowT cl), .str (rowT ah)], rfl, by show 3 ≤ sizeLine; exact ar179 sl, ?_⟩
    (refine an_loc (by assumption) rfl ?_; (try dsimp only))
    refine ax_l1 ?_; intro z13a; refine ax_cons (ax_expr (aw_meth fx.ok PySem.F.plainAttrs_list PySem.F.slot_list_append (by kernel_rfl) (aw_loc hk' rfl rfl ⟨⟨rfl, _, .tail _ (.head _)⟩, ?_⟩)))
    refine al_cons (aw_meth fx.ok PySem.F.plainAttrs_str PySem.F.slot_str_join (by kernel_rfl) (aw_str ⟨rfl, ?_⟩))
    refine al_cons (aw_bin ?_)
    refine aw_loc (by assumption) rfl rfl ?_
    refine aw_listD (al_cons (aw_fn fx hk' (a := 270) (i := 21) (by decide) rfl rfl ?_))
    refine al_cons (aw_fn fx hk' (a := 265) (i := 20) (by decide) rfl rfl ?_)
    refine al_cons (aw_cell hk' rfl rfl (.tail _ (.tail _ (.head _))) ?_)
    (refine al_cons ?_; refine aw_int ?_; refine al_nil ?_)
    refine c_note fx 2 hk' (own := [(aR, strL (names ++ steps)), (L + 1, .cell (.m s)), (L + 2, .cell (.d (.int c)))]) (List.Perm.refl _) hcs (by show _ + 26 ≤ _; exact ar274 hat v1 hnl hat₁ v1' hln hat' hat₂) (rm.less (by exact Nat.le_add_left _ _)) fun at₅ d hd hat₅ => ?_
    have e26 : dr 2 = 26 := rfl
    rw [e26] at hat₅
    refine al_nil ?_
    refine c_lnote_text fx 2 hk' (by exact Nat.le_add_left _ _) hd (rm.less (by exact Nat.le_add_left _ _)) ?_
    refine al_nil ⟨[.str (noteT d)], rfl, by show 1 ≤ sizeLine; exact ar41 sl, ?_⟩
    refine ao_addl (by show 3 + 1 ≤ sizeLine; exact ar278 sl) ?_
    refine al_nil ?_
    have hS : StepRow (Txt.join " | " (stepParts c w cl ah d)) := ⟨c, w, cl, ah, d, by exact Nat.le_trans c3 (by decide), hw, by exact hcl, hcs9, hah, hah9, hd, rfl⟩
    have b1 := stepHd_len (n := (c : Int)) (by exact Nat.le_trans c3 (by decide)) hw
    have b2 := rowT_len (by exact hcl) hcs9
    have b3 := rowT_len (by exact Nat.le_trans hah (by decide)) hah9
    have b4 := noteT_len4 hd (by decide)
    refine ac_join (ys := stepParts c w cl ah d) (by decide) (by simp only [stepParts, List.map_cons, List.map_nil, List.sum_cons, List.sum_nil, List.length_cons, List.length_nil]; exact ar281 b1 b2 b3 b4) ?_
    refine al_nil ?_
    refine ac_append (.tail .head) (by simp; exact ar282 sl v1 hnl v1' hln) ?_
    refine ax_nil_f (σ' := ⟨[("rows", .m aR)], _⟩) ⟨rfl, trivial⟩ rfl ?_
    refine ⟨at₅, steps ++ [Txt.join " | " (stepParts c w cl ah d)], _, by simp [strL]; rfl, .inr ⟨_, rfl⟩, fun r hr => ?_, by simp; exact ar283 hln, by simp; exact ar284 hat' hat₂ hat₅, fun c hc' => hc c (.tail _ hc')⟩
    rcases List.mem_append.mp hr with z | z
    · exact hsteps r z
    · rw [List.mem_singleton.mp z]; exact hS
inductive Bend (x : Str) : Str → Prop
  | put (i : Int) (m : Str) : 0 ≤ i → i ≤ x.length → m ∈ putL14 → Bend x (Txt.slice x none (some i) ++ m ++ Txt.slice x (some i) none)
  | del (i : Int) : 0 ≤ i → i ≤ x.length → Bend x (Txt.slice x none (some i) ++ Txt.slice x (some (i + 1)) none)
  | row (a b : Nat) : Bend x (Txt.join "\n" ((cut x "\n").take a ++ (cut x "\n").drop b))
inductive Bchain (x : Str) : Nat → Str → Prop
  | nil : Bchain x 0 x
  | snoc {n y z} : Bchain x n y → Bend y z → Bchain x (n + 1) z
theorem put_len : ∀ m ∈ putL14, m.length ≤ 9 := by decide +kernel
theorem cutL_sum (m : Str) : ∀ cs ds d, ((cutL m cs ds d).map (·.length)).sum + (cutL m cs ds d).length ≤ (ds.map (·.length)).sum + ds.length + d.length + cs.length + 1
  | [], ds, d => by simp [cutL]; exact ar285
  | c :: cs, ds, d => by
    unfold cutL
    split
    · have := cutL_sum m cs (ds ++ [d]) Str.empty
      simp only [List.map_append, List.map_cons, List.map_nil, List.sum_append, List.sum_cons, List.sum_nil, List.length_append, List.length_cons, List.length_nil] at this ⊢
      have e : Str.empty.length = 0 := rfl
      exact ar286 this e
    · have := cutL_sum m cs ds (d ++ ⟨#[c]⟩)
      rw [len_app, str1_len] at this
      simp only [List.length_cons]
      exact ar287 this
theorem cut_sum {x m : Str} : ((cut x m).map (·.length)).sum + (cut x m).length ≤ x.length + 1 := by
  have := cutL_sum m x.cps.toList [] Str.empty
  have e : Str.empty.length = 0 := rfl
  have e2 : x.cps.toList.length = x.length := by simp [Str.length]
  simp only [List.map_nil, List.sum_nil, List.length_nil, e, e2] at this
  unfold cut
  exact ar288 this
theorem sum_take (l : List Nat) (n : Nat) : (l.take n).sum ≤ l.sum := by
  have := congrArg List.sum (List.take_append_drop n l)
  rw [List.sum_append] at this; exact ar289 this
theorem sum_drop (l : List Nat) (n : Nat) : (l.drop n).sum ≤ l.sum := by
  have := congrArg List.sum (List.take_append_drop n l)
  rw [List.sum_append] at this; exact ar290 this
theorem rows_sum {x : Str} (a b : Nat) : (((cut x "\n").take a ++ (cut x "\n").drop b).map (·.length)).sum + ((cut x "\n").take a ++ (cut x "\n").drop b).length ≤ 2 * (x.length + 1) := by
  have h := cut_sum (x := x) (m := "\n")
  have h1 := sum_take ((cut x "\n").map (·.length)) a
  have h2 := sum_drop ((cut x "\n").map (·.length)) b
  rw [List.map_append, List.sum_append, List.length_append, List.map_take, List.map_drop, List.length_take, List.length_drop]
  exact ar291 h h1 h2
theorem Bend.len {x y : Str} (h : Bend x y) : y.length + 20 ≤ 2 * (x.length + 20) := by
  cases h with
  | put i m _ _ hm =>
    have a := Txt.slice_le x none (some i)
    have b := Txt.slice_le x (some i) none
    have c := put_len m hm
    rw [len_app, len_app]; exact ar292 a b c
  | del i =>
    have a := Txt.slice_le x none (some i)
    have b := Txt.slice_le x (some (i + 1)) none
    rw [len_app]; exact ar293 a b
  | row a b =>
    have h1 := join_le "\n" ((cut x "\n").take a ++ (cut x "\n").drop b)
    have h2 := rows_sum (x := x) a b
    have e : ("\n" : Str).length = 1 := rfl
    rw [e] at h1
    exact ar294 h1 h2
theorem Bchain.len {x y : Str} {n : Nat} (h : Bchain x n y) : y.length + 20 ≤ 2 ^ n * (x.length + 20) := by
  induction h with
  | nil => simp
  | snoc _ b ih =>
    have := b.len
    rw [Nat.pow_succ, Nat.mul_comm (2 ^ _) 2, Nat.mul_assoc]; exact ar295 ih this
theorem put_at {v : Int} (h0 : 0 ≤ v) (h1 : v < 14) : (Ex2 fun n w => And3 (seqIndex? v (putL14.map PV.str).length = some n) ((putL14.map PV.str)[n]? = some (.str w)) (w ∈ putL14)) := by
  have hv : v = 0 ∨ v = 1 ∨ v = 2 ∨ v = 3 ∨ v = 4 ∨ v = 5 ∨ v = 6 ∨ v = 7 ∨ v = 8 ∨ v = 9 ∨ v = 10 ∨ v = 11 ∨ v = 12 ∨ v = 13 := by exact ar296 h0 h1
  have mem : ∀ n w, putL14[n]? = some w → w ∈ putL14 := fun n w e => List.mem_of_getElem? e
  rcases hv with rfl | rfl | rfl | rfl | rfl | rfl | rfl | rfl | rfl | rfl | rfl | rfl | rfl | rfl
  · exact ⟨0, _, rfl, rfl, mem 0 _ rfl⟩
  · exact ⟨1, _, rfl, rfl, mem 1 _ rfl⟩
  · exact ⟨2, _, rfl, rfl, mem 2 _ rfl⟩
  · exact ⟨3, _, rfl, rfl, mem 3 _ rfl⟩
  · exact ⟨4, _, rfl, rfl, mem 4 _ rfl⟩
  · exact ⟨5, _, rfl, rfl, mem 5 _ rfl⟩
  · exact ⟨6, _, rfl, rfl, mem 6 _ rfl⟩
  · exact ⟨7, _, rfl, rfl, mem 7 _ rfl⟩
  · exact ⟨8, _, rfl, rfl, mem 8 _ rfl⟩
  · exact ⟨9, _, rfl, rfl, mem 9 _ rfl⟩
  · exact ⟨10, _, rfl, rfl, mem 10 _ rfl⟩
  · exact ⟨11, _, rfl, rfl, mem 11 _ rfl⟩
  · exact ⟨12, _, rfl, rfl, mem 12 _ rfl⟩
  · exact ⟨13, _, rfl, rfl, mem 13 _ rfl⟩
set_option maxHeartbeats 4000000 in
theorem c_bent (fx : Fx G pf) (hk : k.Ok) {s : Addr} {cs : List Int} {at_ : Nat} {x : Str} {own : List (Addr × MO)} (hmu : σ.mu.Perm ((s, srcM cs at_) :: own)) (hcs : cs.length ≤ 1000) (hat : at_ ≤ 900) (hx : x.length ≤ 5000) (room : Room k.A 2)
    (h : ∀ at' n y, 1 ≤ n → n ≤ 2 → Bchain x n y → P ⟨σ.loc, (s, srcM cs at') :: own⟩ (.d (.str y))) : AC G pf k σ (.ref 287) [.m s, .d (.str x)] P F := by
  refine AC.perm (mu := own ++ [(s, srcM cs at_)]) (hmu.trans (List.perm_append_comm (l₁ := [_]))) ?_
  refine AC.post (ac_def fx.ok hk (fx.k (a := 287) (i := 24) (by decide)) (n := 1) room (own := own) (muIn := [(s, srcM cs at_)]) rfl ["src", "text"] (fun name doc pm an cdv ct vs hvs => ?_) rfl (by decide +kernel) (by decide +kernel) rfl rfl rfl fun L cd hk' hF' rm => ?_)
  · obtain ⟨a, b, rfl⟩ := len2 hvs; rfl
  have sl := sl_eq
  refine ax_l4 ?_; intro z1a z1b z1c z1d; refine ax_cons (ax_for hk' hF' ?_)
  refine aw_bl fx hk' (v := .type "range") (by decide) (by kernel_rfl) (.type _) rfl ?_
  refine al_cons (aw_bin ?_)
  refine aw_int ?_
  refine aw_fn fx hk' (a := 260) (i := 19) (by decide) rfl rfl ?_
  (refine al_cons ?_; refine aw_loc (by assumption) rfl rfl ?_; refine al_cons ?_; refine aw_int ?_; refine al_nil ?_)
  refine c_draw fx hk' (own := []) (List.Perm.refl _) hcs (by exact Nat.le_trans hat (by decide)) (by decide) (rm.less (by exact Nat.le_refl _)) fun v' v0' v1' => ?_
  refine ao_add ?_
  refine al_nil ?_
  refine ac_range fun o ho => ⟨_, src_range hk' ho (by exact ar299 v1') (by exact ar241 v0'), ?_⟩
  rw [show rngs (1 + v') = (List.range (1 + v').toNat).map fun (i : Nat) => PV.int (i : Int) from rfl]
  refine af_ind (fun (i : Nat) => PV.int (i : Int)) (fun cs' σ' => (Ex3 fun at' n y => And4 (σ' = ⟨[("text", .d (.str y)), ("src", .m s)], [(s, srcM cs at')]⟩) (Bchain x n y) (n + cs'.length = (1 + v').toNat) (at' ≤ at_ + 1 + 3 * n))) ?_ ?_ _ _ ⟨at_ + 1, 0, x, rfl, .nil, by simp, by exact Nat.lt_succ_self _⟩
  · rintro σ' ⟨at', n, y, rfl, hb, hln, hat'⟩
    simp only [List.length_nil, Nat.add_zero] at hln
    (refine ax_l1 ?_; intro z2a; refine ax_cons ?_; refine ax_ret ?_; refine aw_loc (by assumption) rfl rfl ?_)
    exact ⟨[], [(s, srcM cs at')], rfl, rfl, _, List.perm_append_comm, h at' n y (by exact ar301 v0' hln) (by exact ar302 v1' hln) hb⟩
  · rintro j cs' σ' ⟨at', n, y, rfl, hb, hln, hat'⟩
    simp only [List.length_cons] at hln
    have yl : y.length ≤ 10100 := by
      have a := hb.len
      have : n = 0 ∨ n = 1 := by exact ar303 v1' hln
      rcases this with rfl | rfl <;> first | exact ar304 hx a | exact ar305 hx a
    have fin : ∀ (z : Str) at'', Bend y z → at'' ≤ at_ + 1 + 3 * (n + 1) → (Ex3 fun at' n y => And4 ((⟨[("text", .d (.str z)), ("src", .m s)], [(s, srcM cs at'')]⟩ : St) = ⟨[("text", .d (.str y)), ("src", .m s)], [(s, srcM cs at')]⟩) (Bchain x n y) (n + cs'.length = (1 + v').toNat) (at' ≤ at_ + 1 + 3 * n)) :=
      fun z at'' hz ha => ⟨at'', n + 1, z, rfl, hb.snoc hz, by exact ar283 hln, ha⟩
    refine as_name ?_
    (refine an_loc (by assumption) rfl ?_; (try dsimp only))
    refine ax_l4 ?_; intro z4a z4b z4c z4d; refine ax_cons (ax_unpack hk' ["way", "place"] ?_)
    refine al_cons (aw_fn fx hk' (a := 260) (i := 19) (by decide) rfl rfl ?_)
    (refine al_cons ?_; refine aw_loc (by assumption) rfl rfl ?_; refine al_cons ?_; refine aw_int ?_; refine al_nil ?_)
    refine c_draw fx hk' (own := []) (List.Perm.refl _) hcs (by exact ar306 hat v1' hln hat') (by decide) (rm.less (by exact Nat.le_refl _)) fun vw vw0 vw1 => ?_
    refine al_cons (aw_fn fx hk' (a := 260) (i := 19) (by decide) rfl rfl ?_)
    (refine al_cons ?_; refine aw_loc (by assumption) rfl rfl ?_; refine al_cons ?_; refine aw_bin ?_)
    refine aw_bl fx hk' (v := .builtin "len") (by decide) (by kernel_rfl) (.blt _) rfl ?_
    (refine al_cons ?_; refine aw_loc (by assumption) rfl rfl ?_; refine al_nil ?_)
    refine ac_lens (by exact Int.ofNat_lt.mpr (Nat.lt_of_le_of_lt yl (by decide))) ?_
    refine aw_int ?_
    refine ao_add ?_
    refine al_nil ?_
    refine c_draw fx hk' (own := []) (List.Perm.refl _) hcs (by exact ar308 hat v1' hln hat') (by exact ar309) (rm.less (by exact Nat.le_refl _)) fun vp vp0 vp1 => ?_
    refine al_nil ⟨rfl, by decide, ?_⟩
    show AN _ _ _ _ _ _
    refine an_loc hk' rfl ?_
    show AN _ _ _ _ _ _
    refine an_loc hk' rfl ?_
    show AX _ _ _ _ _ _ _ _
    (refine ax_l1 ?_; intro z5a; refine ax_cons ?_; refine ax_if ?_; refine ab_cmp ?_; refine aw_loc (by assumption) rfl rfl ?_; refine aw_int ?_)
    refine ao_lt (at_bool ?_)
    by_cases w2 : vw < 2
    · rw [decide_eq_true w2, if_pos rfl]
      (refine ax_cons ?_; refine ax_asgn ?_; refine aw_bin ?_; refine aw_bin ?_; refine aw_sslice ?_; refine aw_loc (by assumption) rfl rfl ?_; refine aw_pnone ?_; refine aw_psome ?_; refine aw_loc (by assumption) rfl rfl ?_)
      refine ⟨y, none, some vp, rfl, rfl, rfl, by exact ar310 sl yl, ?_⟩
      obtain ⟨rv, hrv, hrd⟩ := fx.lput
      refine aw_sub (aw_globD fx.ok hk' rfl hrv hrd ?_)
      refine aw_fn fx hk' (a := 260) (i := 19) (by decide) rfl rfl ?_
      (refine al_cons ?_; refine aw_loc (by assumption) rfl rfl ?_; refine al_cons ?_; refine aw_int ?_; refine al_nil ?_)
      refine c_draw fx hk' (own := []) (List.Perm.refl _) hcs (by exact ar311 hat v1' hln hat') (by decide) (rm.less (by exact Nat.le_refl _)) fun vr vr0 vr1 => ?_
      obtain ⟨nr, w, er1, er2, hw⟩ := put_at vr0 vr1
      refine ao_item_tup (n := nr) (d := .str w) (by exact Int.le_trans (by decide) vr0) (by exact Int.lt_trans vr1 (by decide)) er1 er2 ?_
      have b1 := Txt.slice_le y none (some vp)
      have b2 := Txt.slice_le y (some vp) none
      have b3 := put_len w hw
      refine ao_adds (by rw [sl]; exact ar313 yl b1 b3) ?_
      (refine aw_sslice ?_; refine aw_loc (by assumption) rfl rfl ?_; refine aw_psome ?_; refine aw_loc (by assumption) rfl rfl ?_; refine aw_pnone ?_)
      refine ⟨y, some vp, none, rfl, rfl, rfl, by exact ar310 sl yl, ?_⟩
      refine ao_adds (by rw [sl, len_app]; exact ar314 yl b1 b2 b3) ?_
      (refine an_loc (by assumption) rfl ?_; (try dsimp only))
      refine ax_nil (ax_nil_f (σ' := ⟨[("text", .d (.str (Txt.slice y none (some vp) ++ w ++ Txt.slice y (some vp) none))), ("src", .m s)], _⟩) ⟨rfl, rfl, trivial⟩ rfl ?_)
      exact fin _ _ (.put vp w vp0 (by exact ar315 vp1) hw) (by exact ar316 hat')
    · rw [decide_eq_false w2, if_neg (by decide)]
      (refine ax_cons ?_; refine ax_if ?_; refine ab_cmp ?_; refine aw_loc (by assumption) rfl rfl ?_; refine aw_int ?_)
      refine ao_eqi (at_bool ?_)
      by_cases w2' : vw = 2
      · rw [beq_iff_eq.mpr w2', if_pos rfl]
        (refine ax_cons ?_; refine ax_l2 ?_; intro z12a z12b; refine ax_asgn ?_; refine aw_bin ?_; refine aw_sslice ?_; refine aw_loc (by assumption) rfl rfl ?_; refine aw_pnone ?_; refine aw_psome ?_; refine aw_loc (by assumption) rfl rfl ?_)
        refine ⟨y, none, some vp, rfl, rfl, rfl, by exact ar310 sl yl, ?_⟩
        (refine aw_sslice ?_; refine aw_loc (by assumption) rfl rfl ?_; refine aw_psome ?_; refine aw_bin ?_; refine aw_loc (by assumption) rfl rfl ?_; refine aw_int ?_)
        refine ao_add ?_
        refine aw_pnone ?_
        refine ⟨y, some (vp + 1), none, rfl, rfl, rfl, by exact ar310 sl yl, ?_⟩
        have b1 := Txt.slice_le y none (some vp)
        have b2 := Txt.slice_le y (some (vp + 1)) none
        refine ao_adds (by rw [sl]; exact ar317 yl b1 b2) ?_
        (refine an_loc (by assumption) rfl ?_; (try dsimp only))
        refine ax_nil (ax_nil (ax_nil_f (σ' := ⟨[("text", .d (.str (Txt.slice y none (some vp) ++ Txt.slice y (some (vp + 1)) none))), ("src", .m s)], _⟩) ⟨rfl, rfl, trivial⟩ rfl ?_))
        exact fin _ _ (.del vp vp0 (by exact ar315 vp1)) (by exact ar318 hat')
      · rw [beq_eq_false_iff_ne.mpr w2', if_neg (by decide)]
        refine ax_cons (ax_asgn (aw_fn fx hk' (a := 294) (i := 25) (by decide) rfl rfl ?_))
        (refine al_cons ?_; refine aw_loc (by assumption) rfl rfl ?_; refine al_cons ?_; refine aw_str ?_; refine al_nil ?_)
        refine c_cut fx hk' (by exact Nat.le_trans yl (by decide)) (rm.less (by exact Nat.le_refl _)) ?_
        (refine an_loc (by assumption) rfl ?_; (try dsimp only); refine ax_l1 ?_; intro z14a; refine ax_cons ?_; refine ax_l2 ?_; intro z15a z15b; refine ax_asgn ?_; refine aw_bin ?_; refine aw_loc (by assumption) rfl rfl ?_)
        refine aw_bl fx hk' (v := .builtin "len") (by decide) (by kernel_rfl) (.blt _) rfl ?_
        (refine al_cons ?_; refine aw_loc (by assumption) rfl rfl ?_; refine al_nil ?_)
        have cl := cut_len (x := y) (m := "\n")
        have cp : 0 < (cut y "\n").length := by
          unfold cut
          have : ∀ cs ds d, 0 < (cutL "\n" cs ds d).length := by
            intro cs
            induction cs with
            | nil => intro ds d; simp [cutL]
            | cons c cs ih => intro ds d; unfold cutL; split <;> exact ih _ _
          exact this _ _ _
        refine ac_lenl (by rw [List.length_map]; exact Int.ofNat_lt.mpr (Nat.lt_of_le_of_lt cl (Nat.lt_of_le_of_lt (Nat.add_le_add_right yl _) (by decide)))) ?_
        rw [List.length_map]
        refine ao_mod (by exact ar321 cp) ?_
        have m0 := Int.fmod_nonneg_of_pos vp (show (0 : Int) < ((cut y "\n").length : Int) by exact ar51 cp)
        have m1 := Int.fmod_lt_of_pos vp (show (0 : Int) < ((cut y "\n").length : Int) by exact ar51 cp)
        generalize hq : Int.fmod vp ((cut y "\n").length : Int) = q at m0 m1 ⊢
        obtain ⟨qn, rfl⟩ : ∃ qn : Nat, q = qn := ⟨q.toNat, by exact ar254 m0⟩
        (refine an_loc (by assumption) rfl ?_; (try dsimp only))
        refine ax_cons (ax_asgn (aw_meth fx.ok PySem.F.plainAttrs_str PySem.F.slot_str_join (by kernel_rfl) (aw_str ⟨rfl, ?_⟩)))
        refine al_cons (aw_bin (aw_lslice (aw_loc hk' rfl rfl ?_)))
        (refine aw_pnone ?_; refine aw_psome ?_; refine aw_bin ?_; refine aw_loc (by assumption) rfl rfl ?_)
        refine aw_same (.d (.int (if vw = 3 then 1 else 0))) ?_ ?_
        · refine aw_ife ?_
          (refine ab_cmp ?_; refine aw_loc (by assumption) rfl rfl ?_; refine aw_int ?_)
          refine ao_eqi (at_bool ?_)
          by_cases q3 : vw = 3
          · rw [beq_iff_eq.mpr q3, if_pos rfl, if_pos q3]; exact aw_int ⟨rfl, rfl⟩
          · rw [beq_eq_false_iff_ne.mpr q3, if_neg (by decide), if_neg q3]; exact aw_int ⟨rfl, rfl⟩
        refine ao_add ?_
        refine ⟨(cut y "\n").map PV.str, none, some (Int.ofNat (qn + if vw = 3 then 1 else 0)), ((cut y "\n").take (qn + if vw = 3 then 1 else 0)).map PV.str, .inl rfl, rfl, ?_, by rw [List.length_map]; exact ar322 sl yl cl, by rw [List.map_take]; rfl, ?_⟩
        · show Dsc.d (.int _) = Dsc.d (.int _)
          split <;> rfl
        refine aw_lslice (aw_loc hk' rfl rfl ?_)
        (refine aw_psome ?_; refine aw_bin ?_; refine aw_loc (by assumption) rfl rfl ?_)
        refine aw_same (.d (.int (if vw = 3 then 0 else 1))) ?_ ?_
        · refine aw_ife ?_
          (refine ab_cmp ?_; refine aw_loc (by assumption) rfl rfl ?_; refine aw_int ?_)
          refine ao_eqi (at_bool ?_)
          by_cases q3 : vw = 3
          · rw [beq_iff_eq.mpr q3, if_pos rfl, if_pos q3]; exact aw_int ⟨rfl, rfl⟩
          · rw [beq_eq_false_iff_ne.mpr q3, if_neg (by decide), if_neg q3]; exact aw_int ⟨rfl, rfl⟩
        refine ao_add ?_
        refine aw_pnone ?_
        refine ⟨(cut y "\n").map PV.str, some (Int.ofNat (qn + if vw = 3 then 0 else 1)), none, ((cut y "\n").drop (qn + if vw = 3 then 0 else 1)).map PV.str, .inl rfl, ?_, rfl, by rw [List.length_map]; exact ar322 sl yl cl, by rw [List.map_drop]; rfl, ?_⟩
        · show Dsc.d (.int _) = Dsc.d (.int _)
          split <;> rfl
        generalize (qn + if vw = 3 then 1 else 0) = ta
        generalize (qn + if vw = 3 then 0 else 1) = tb
        refine ao_addl (by simp only [List.length_map, List.length_take, List.length_drop]; exact ar323 sl yl cl) ?_
        rw [← List.map_append]
        refine al_nil ?_
        have rs := rows_sum (x := y) ta tb
        refine ac_join (by decide) (by exact ar324 yl rs) ?_
        (refine an_loc (by assumption) rfl ?_; (try dsimp only))
        refine ax_nil (ax_nil (ax_nil_f (σ' := ⟨[("text", .d (.str (Txt.join "\n" ((cut y "\n").take ta ++ (cut y "\n").drop tb)))), ("src", .m s)], _⟩) ⟨rfl, rfl, trivial⟩ rfl ?_))
        exact fin _ _ (.row ta tb) (by exact ar318 hat')
noncomputable def Rise (xs : Array Nat) : Prop := xs.toList.Pairwise (· < ·)
theorem getD_toList (xs : Array Nat) {i : Nat} (h : i < xs.size) : xs.getD i 0 = xs.toList[i]'(by simpa using h) := by simp [Array.getD, h]
theorem getD_any (xs : Array Nat) {i : Nat} (h : i < xs.size) (d : Nat) : xs.getD i d = xs.getD i 0 := by simp [Array.getD, h]
theorem Rise.lt {xs : Array Nat} (hs : Rise xs) {i k : Nat} (h : i < k) (hk : k < xs.size) : xs.getD i 0 < xs.getD k 0 := by
  rw [getD_toList xs (by exact ar325 h hk), getD_toList xs hk]
  exact List.pairwise_iff_getElem.mp hs i k (by simp; exact ar325 h hk) (by simpa using hk) h
theorem Rise.le {xs : Array Nat} (hs : Rise xs) {i k : Nat} (h : i ≤ k) (hk : k < xs.size) : xs.getD i 0 ≤ xs.getD k 0 := by
  rcases Nat.lt_or_eq_of_le h with q | rfl
  · exact Nat.le_of_lt (hs.lt q hk)
  · exact Nat.le_refl _
noncomputable def Splits (xs : Array Nat) (j p : Nat) : Prop := p ≤ xs.size ∧ (∀ i, i < p → xs.getD i 0 < j) ∧ (∀ i, p ≤ i → i < xs.size → j ≤ xs.getD i 0)
theorem below_go {xs : Array Nat} (hs : Rise xs) (j : Nat) : ∀ fuel lo hi, hi - lo ≤ fuel → lo ≤ hi → hi ≤ xs.size → (∀ i, i < lo → xs.getD i 0 < j) → (∀ i, hi ≤ i → i < xs.size → j ≤ xs.getD i 0) → Splits xs j (SetTable.below.go xs j fuel lo hi)
  | 0, lo, hi, h1, h2, h3, h4, h5 => by
    have : lo = hi := by exact ar326 h1 h2
    subst this
    exact ⟨h3, h4, h5⟩
  | fuel + 1, lo, hi, h1, h2, h3, h4, h5 => by
    unfold SetTable.below.go
    split
    · rename_i hlt
      have hm : (lo + hi) / 2 < hi := by exact ar327 hlt
      have hm' : lo ≤ (lo + hi) / 2 := by exact ar328 h2
      dsimp only
      generalize (lo + hi) / 2 = mid at hm hm'
      rw [getD_any xs (show mid < xs.size by exact Nat.lt_of_lt_of_le hm h3) j]
      split
      · rename_i q
        refine below_go hs j fuel (mid + 1) hi (by exact ar330 h1 hm') (by exact hm) h3 (fun i hi' => ?_) h5
        exact Nat.lt_of_le_of_lt (hs.le (by exact Nat.le_of_lt_succ hi') (by exact Nat.lt_of_lt_of_le hm h3)) q
      · rename_i q
        refine below_go hs j fuel lo mid (by exact ar332 h1 hm) (by exact hm') (by exact Nat.le_trans (Nat.le_of_lt hm) h3) h4 (fun i hi' hi'' => ?_)
        exact Nat.le_trans (Nat.le_of_not_lt q) (hs.le hi' hi'')
    · exact ⟨by exact Nat.le_trans h2 h3, h4, fun i hi' hi'' => h5 i (by lia) hi''⟩
theorem below_splits {xs : Array Nat} (hs : Rise xs) (j : Nat) : Splits xs j (SetTable.below xs j) :=
  below_go hs j xs.size 0 xs.size (by exact Nat.sub_le _ _) (Nat.zero_le _) (Nat.le_refl _) (fun i h => absurd h (Nat.not_lt_zero _)) (fun i h1 h2 => absurd h2 (by exact ar336 h1))
theorem Splits.unique {xs : Array Nat} {j p q : Nat} (a : Splits xs j p) (b : Splits xs j q) : p = q := by
  obtain ⟨a1, a2, a3⟩ := a
  obtain ⟨b1, b2, b3⟩ := b
  rcases Nat.lt_trichotomy p q with h | h | h
  · have := b2 p h; have := a3 p (Nat.le_refl _) (by exact Nat.lt_of_lt_of_le h b1); lia
  · exact h
  · have := a2 q h; have := b3 q (Nat.le_refl _) (by exact Nat.lt_of_lt_of_le h a1); lia
theorem below_next {xs : Array Nat} (hs : Rise xs) {i : Nat} (hi : i ≤ xs.size) : SetTable.below xs (if i = 0 then 0 else xs.getD (i - 1) 0 + 1) = i := by
  refine (below_splits hs _).unique ⟨hi, fun k hk => ?_, fun k h1 h2 => ?_⟩
  · rw [if_neg (by exact ar337 hk)]
    have := hs.le (show k ≤ i - 1 by exact Nat.le_sub_one_of_lt hk) (by exact Nat.lt_of_lt_of_le (Nat.sub_lt (Nat.lt_of_le_of_lt (Nat.zero_le _) hk) Nat.one_pos) hi)
    exact Nat.succ_le_succ this
  · by_cases q : i = 0
    · rw [if_pos q]; exact Nat.zero_le _
    · rw [if_neg q]
      have := hs.lt (show i - 1 < k by exact Nat.lt_of_lt_of_le (Nat.sub_lt (Nat.pos_of_ne_zero q) Nat.one_pos) h1) h2
      exact this
theorem Rise.put {xs : Array Nat} (hs : Rise xs) {j : Nat} (hj : xs[SetTable.below xs j]? ≠ some j) : Rise (SetTable.insertAt xs (SetTable.below xs j) j) := by
  obtain ⟨h1, h2, h3⟩ := below_splits hs j
  generalize SetTable.below xs j = p at h1 h2 h3 hj
  unfold Rise
  rw [SetTable.toList_insertAt]
  have hs' : xs.toList.Pairwise (· < ·) := hs
  have ht : ∀ y ∈ xs.toList.take p, y < j := fun y hy => by
    obtain ⟨i, hi, rfl⟩ := List.getElem_of_mem hy
    rw [List.getElem_take]
    have hi' : i < p := by simp at hi; exact Nat.lt_of_lt_of_le hi (Nat.min_le_left _ _)
    have := h2 i hi'
    rwa [getD_toList xs (by exact Nat.lt_of_lt_of_le hi' h1)] at this
  have hd : ∀ y ∈ xs.toList.drop p, j < y := fun y hy => by
    obtain ⟨i, hi, rfl⟩ := List.getElem_of_mem hy
    rw [List.getElem_drop]
    have hi' : p + i < xs.size := by simp at hi; exact Nat.add_lt_of_lt_sub' hi
    have h4 := h3 (p + i) (by exact Nat.le_add_right _ _) hi'
    have h5 : xs.getD p 0 ≠ j := fun e => hj (by
      rw [← e, Array.getD]
      have : p < xs.size := by exact Nat.lt_of_le_of_lt (Nat.le_add_right _ _) hi'
      simp [this])
    have h6 := hs.le (show p ≤ p + i by exact Nat.le_add_right _ _) hi'
    have h7 := h3 p (Nat.le_refl _) (by exact Nat.lt_of_le_of_lt (Nat.le_add_right _ _) hi')
    rw [← getD_toList xs hi']
    exact ar346 h5 h6 h7
  refine List.pairwise_append.mpr ⟨hs'.sublist (List.take_sublist _ _), List.pairwise_cons.mpr ⟨fun y hy => ?_, hs'.sublist (List.drop_sublist _ _)⟩, fun a ha b hb => ?_⟩
  · exact hd y hy
  · rcases List.mem_cons.mp hb with rfl | hb
    · exact ht a ha
    · exact Nat.lt_trans (ht a ha) (hd b hb)
structure Good (bt : Bool) (t : SetTable) : Prop where
  led : bt = false → t.led = true
  rise : Rise t.place
  dum : t.dummies = #[]
theorem has_empty (j : Nat) : SetTable.has #[] j = false := by
  unfold SetTable.has; simp
theorem slot_empty {t : SetTable} (hd : t.dummies = #[]) {j : Nat} (h : t.slot j = .empty) : t.place[SetTable.below t.place j]? ≠ some j := by
  intro e
  unfold SetTable.slot at h
  dsimp only at h
  rw [if_pos (by simp [e])] at h
  cases h
theorem slot_nodummy {t : SetTable} (hd : t.dummies = #[]) (j : Nat) : t.slot j ≠ .dummy := by
  intro h
  unfold SetTable.slot at h
  dsimp only at h
  rw [hd, has_empty] at h
  split at h <;> simp at h
theorem probe_go {t : SetTable} (hd : t.dummies = #[]) {ha : Nat → Int} {h : Int} : ∀ (fuel : Nat) (p : SetTable.Probe) (j : Nat) (d : Option Nat), p.dummy = none → SetTable.probe.go t ha h fuel p = some (.empty j d) → d = none ∧ t.slot j = .empty
  | 0, p, j, d, _, e => by cases e
  | fuel + 1, p, j, d, hp, e => by
    unfold SetTable.probe.go at e
    split at e
    · rename_i hs
      cases e
      exact ⟨hp, hs⟩
    · rename_i hs
      exact absurd hs (slot_nodummy hd _)
    · split at e
      · cases e
      · refine probe_go hd fuel _ j d ?_ e
        unfold SetTable.advance
        split <;> exact hp
theorem freeSlot_good {t : SetTable} (hd : t.dummies = #[]) {h : Int} {j : Nat} {b : Bool} (e : t.freeSlot h = some (j, b)) : b = false ∧ t.slot j = .empty := by
  unfold SetTable.freeSlot at e
  split at e
  · rename_i j' d q
    cases e
    obtain ⟨rfl, hs⟩ := probe_go hd _ _ _ _ rfl q
    exact ⟨rfl, hs⟩
  · exact no_ns e
theorem rise_range (n : Nat) : Rise (Array.range n) := by
  unfold Rise
  simp [Array.toList_range]
  exact List.pairwise_lt_range
theorem standIn_good {bt : Bool} {t : SetTable} (g : Good bt t) (n : Nat) : Good bt (t.standIn n) := ⟨g.led, rise_range n, rfl⟩
theorem layNew_good {bt : Bool} {t : SetTable} (g : Good bt t) (es : Array (Int × Value)) (h : Int) (x : Value) : Good bt (layNew t es h x).2.1 := by
  unfold layNew
  split
  · rename_i slot wd e
    obtain ⟨rfl, hs⟩ := freeSlot_good g.dum e
    have g' : Good bt (t.put slot).1 := by
      unfold SetTable.put
      rw [g.dum, has_empty]
      exact ⟨g.led, g.rise.put (slot_empty g.dum hs), rfl⟩
    dsimp only
    unfold SetTable.orStandIn
    split
    · exact g'
    · exact standIn_good g' _
  · exact standIn_good g _
theorem relaid_good {bt : Bool} {t t' : SetTable} (g : Good bt t) {hs : Array Int} {wanted : Nat} {order : Array Nat} (e : t.relaid hs wanted = some (t', order)) : Good bt t' := by
  unfold SetTable.relaid SetTable.laid at e
  cases q : SetTable.layClean (SetTable.sizeAbove wanted - 1) hs with
  | none => rw [q] at e; cases e
  | some owner =>
    rw [q] at e
    cases e
    refine ⟨g.led, ?_, rfl⟩
    unfold Rise
    have : ∀ (l : List Nat), l.Pairwise (· < ·) → ((l.filterMap fun j => (owner.getD j none).map (j, ·)).map (·.1)).Pairwise (· < ·) := by
      intro l
      induction l with
      | nil => intro _; simp
      | cons a r ih =>
        intro h
        rw [List.pairwise_cons] at h
        rw [List.filterMap_cons]
        split
        · exact ih h.2
        · rename_i b hb
          rw [List.map_cons, List.pairwise_cons]
          refine ⟨fun y hy => ?_, ih h.2⟩
          obtain ⟨p, hp, rfl⟩ := List.mem_map.mp hy
          obtain ⟨c, hc, hc'⟩ := List.mem_filterMap.mp hp
          have e1 : b.1 = a := by
            cases qa : owner.getD a none with
            | none => rw [qa] at hb; cases hb
            | some v => rw [qa] at hb; cases hb; rfl
          have e2 : p.1 = c := by
            cases qa : owner.getD c none with
            | none => rw [qa] at hc'; cases hc'
            | some v => rw [qa] at hc'; cases hc'; rfl
          rw [e1, e2]; exact h.1 c hc
    simpa using this _ List.pairwise_lt_range
theorem relayAll_good {bt : Bool} {t : SetTable} (g : Good bt t) (es : Array (Int × Value)) (wanted : Nat) : Good bt (relayAll t es wanted).2.1 := by
  unfold relayAll
  split
  · rename_i t' order e
    have g' := relaid_good g e
    dsimp only
    split
    · exact g'
    · exact standIn_good g _
  · exact standIn_good g _
noncomputable def intV : Value → Int
  | .int i _ => i
  | _ => 0
noncomputable def vals (l : List (Int × Value)) : List Int := l.map fun e => intV e.2
noncomputable def AllI (l : List (Int × Value)) : Prop := ∀ e ∈ l, ∃ i t, e = (hashInt i, Value.int i t)
noncomputable def ISet (bt : Bool) (h : Heap) (a : Addr) (l : List Int) : Prop :=
  ∃ es ep t, h.get? a = some { cls := .type "set", dict := none, data := .set es ep t } ∧ AllI es.toList ∧ (vals es.toList).Perm l ∧ es.size < scanBound ∧ t.fits es.size = true ∧ Good bt t
theorem AllI.elems {prog : Program} {w : World} {l : List (Int × Value)} (h : AllI l) : ElemsOf (intKind prog w) l := fun e he => by
  obtain ⟨i, t, rfl⟩ := h e he
  exact ⟨⟨i, by simp [intKind, Value.isInt], rfl⟩, rfl⟩
theorem find_vals {prog : Program} {w : World} {l : List (Int × Value)} (h : AllI l) (k : Int) : (l.findIdx? fun e => (intKind prog w).is k e.2).isSome = (vals l).contains k := by
  induction l with
  | nil => rfl
  | cons e r ih =>
    obtain ⟨i, t, rfl⟩ := h _ (.head _)
    have ih := ih fun e he => h e (.tail _ he)
    rw [List.findIdx?_cons]
    have e1 : (intKind prog w).is k (Value.int i t) = (i == k) := by simp [intKind, Value.isInt]
    show (if (intKind prog w).is k (Value.int i t) = true then some 0 else _).isSome = _
    rw [e1]
    unfold vals
    rw [List.map_cons, List.contains_cons]
    show _ = (k == i || (vals r).contains k)
    by_cases q : i = k
    · simp [q]
    · rw [if_neg (by simpa using q), Option.isSome_map, ih]
      have : (k == i) = false := by simpa using fun h => q h.symm
      rw [this, Bool.false_or]
theorem iset_store {bt : Bool} {h : Heap} {a : Addr} {es es' : Array (Int × Value)} {ep : Nat} {t t' : SetTable} {l : List Int} (ho : h.get? a = some { cls := .type "set", dict := none, data := .set es ep t })
    (h1 : AllI es'.toList) (h2 : (vals es'.toList).Perm l) (h3 : es'.size < scanBound) (h4 : t'.fits es'.size = true) (h5 : Good bt t') :
    (h.update a (Obj.putSet es' t')).get? a = some { cls := .type "set", dict := none, data := .set es' (ep + 1) t' } ∧ ISet bt (h.update a (Obj.putSet es' t')) a l := by
  have hg : (h.update a (Obj.putSet es' t')).get? a = some { cls := .type "set", dict := none, data := .set es' (ep + 1) t' } := by
    have := Heap.get?_update_self (Obj.putSet es' t') ho (by rw [putSet_of es' t' rfl]; rfl)
    rw [putSet_of es' t' rfl] at this; exact this
  exact ⟨hg, es', ep + 1, t', hg, h1, h2, h3, h4, h5⟩
theorem iset_add {prog : Program} {w : World} {A : Around} {E : Value → Shared → Prop} {s : Shared} {bt : Bool} {a : Addr} {l : List Int} {k : Int} {tk : Tok} {Q : Bool → Shared → Prop} (hS : ISet bt s.heap a l) (hroom : l.length + 1 < scanBound)
    (h : ∀ b h', Heap.SameBut a s.heap h' → ISet bt h' a (if l.contains k then l else l ++ [k]) → Q b { s with heap := h' }) :
    wpAny (model prog w) A (setAddHashed a (.int k tk) (hashInt k)) Q E s := by
  obtain ⟨es, ep, t, ho, hal, hp, hb, hf, hg⟩ := hS
  have hel : ElemsOf (intKind prog w) es.toList := hal.elems
  have hsc : (Value.int k tk).scannable = true := rfl
  have hkey : (intKind prog w).is k (.int k tk) = true := intKind_is _ _ _ _
  have hfind := find_vals (prog := prog) (w := w) hal k
  have hlen : es.size = l.length := by rw [← hp.length_eq]; simp [vals]
  have hc : (vals es.toList).contains k = l.contains k := by
    rw [Bool.eq_iff_iff, List.contains_iff_mem, List.contains_iff_mem]; exact hp.mem_iff
  unfold setAddHashed setAddHashedIn
  refine wpAny_holding (wpAny_bind (wpAny_setState_of ho rfl hf ?_))
  dsimp only
  rw [byScan_of hsc hb hel]
  simp only [↓reduceIte]
  unfold setAddByScan
  refine wpAny_bind ?_
  refine wpAny_bind (wpAny_rule ?_)
  refine wpAny_bind (wpAny_setScan_of (knd := intKind prog w) hkey ho rfl hf hel ?_)
  rw [hc] at hfind
  cases hr : List.findIdx? (fun e => (intKind prog w).is k e.2) es.toList with
  | some j =>
    rw [hr] at hfind
    dsimp only
    refine wpAny_pure (wpAny_pure ?_)
    have e : s = { s with heap := s.heap } := by cases s; rfl
    rw [e]
    refine h false s.heap (Heap.SameBut.refl a s.heap) ⟨es, ep, t, ho, hal, ?_, hb, hf, hg⟩
    have hfind : l.contains k = true := hfind.symm
    rw [if_pos hfind]; exact hp
  | none =>
    rw [hr] at hfind
    have hfind : l.contains k = false := by rw [← hfind]; rfl
    rw [hfind] at h
    dsimp only
    have hgw : ∀ (b : Bool) {s₁ : Shared} {Q' : Unit → Shared → Prop}, Q' () s₁ → wpAny (model prog w) A (match b with | true => rule "set.scan.the-table-gave-way" | false => pure ()) Q' E s₁ :=
      fun b s₁ Q' hq => by cases b <;> first | exact wpAny_pure hq | exact wpAny_rule hq
    have hperm := layNew_perm t es (hashInt k) (.int k tk)
    have hfits := layNew_fits t es (hashInt k) (.int k tk)
    have hgood := layNew_good hg es (hashInt k) (.int k tk)
    generalize hL : layNew t es (hashInt k) (.int k tk) = L at hperm hfits hgood ⊢
    obtain ⟨es1, t1, wasDummy, gave⟩ := L
    dsimp only at hperm hfits hgood ⊢
    rw [Array.toList_push] at hperm
    have hal1 : AllI es1.toList := fun e he => by
      rcases List.mem_append.mp (hperm.mem_iff.mp he) with q | q
      · exact hal e q
      · rw [List.mem_singleton.mp q]; exact ⟨k, tk, rfl⟩
    have hp1 : (vals es1.toList).Perm (l ++ [k]) := by
      refine (hperm.map _).trans ?_
      rw [List.map_append]
      exact hp.append_right _
    have hb1 : es1.size < scanBound := by rw [← Array.length_toList, hperm.length_eq, List.length_append, Array.length_toList, hlen]; simpa using hroom
    refine wpAny_bind (hgw _ ?_)
    have tail : ∀ R : Option Bool → Shared → Prop, (∀ s', Q true s' → R (some true) s') → ∀ t2 : SetTable, t2 = t1 → wpAny (model prog w) A (do
        storeSet a es1 t2
        if (!wasDummy && t2.tooFull) = true then do
            (match (relayAll t2 es1 (SetTable.grown es1.size)).2.2 with | true => rule "set.scan.the-table-gave-way" | false => pure ())
            storeSet a (relayAll t2 es1 (SetTable.grown es1.size)).1 (relayAll t2 es1 (SetTable.grown es1.size)).2.1
            pure (some true)
          else pure (some true)) R E s := by
      rintro R hR t2 rfl
      refine wpAny_bind (wpAny_storeSet_of ho rfl ?_ (fits_of_scanBound hb1))
      obtain ⟨ho1, hS1⟩ := iset_store ho hal1 hp1 hb1 hfits hgood
      have hsb1 := Heap.SameBut.update s.heap a (Obj.putSet es1 t2)
      split
      · have hpr := relayAll_perm t2 es1 (SetTable.grown es1.size)
        have hfr := relayAll_fits t2 es1 (SetTable.grown es1.size)
        have hgr := relayAll_good hgood es1 (SetTable.grown es1.size)
        generalize relayAll t2 es1 (SetTable.grown es1.size) = Rl at hpr hfr hgr ⊢
        obtain ⟨es2, t3, gave2⟩ := Rl
        dsimp only at hpr hfr hgr ⊢
        have hsz : es2.size = es1.size := by rw [← Array.length_toList, hpr.length_eq, Array.length_toList]
        refine wpAny_bind (hgw _ ?_)
        refine wpAny_bind (wpAny_storeSet_of ho1 rfl ?_ (fits_of_scanBound (by rw [hsz]; exact hb1)))
        obtain ⟨_, hS2⟩ := iset_store ho1 (fun e he => hal1 e (hpr.mem_iff.mp he)) ((hpr.map _).trans hp1) (by rw [hsz]; exact hb1) hfr hgr
        exact wpAny_pure (hR _ (h true _ (hsb1.trans (Heap.SameBut.update _ a _)) hS2))
      · exact wpAny_pure (hR _ (h true _ hsb1 hS1))
    split
    · refine wpAny_bind ?_
      rw [hashByValue_scannable 8 hsc]
      exact wpAny_pure (tail _ (fun s' hq => wpAny_pure hq) _ rfl)
    · exact wpAny_bind (wpAny_pure (tail _ (fun s' hq => wpAny_pure hq) _ rfl))
noncomputable def ded1 (l : List Int) (k : Int) : List Int := if l.contains k then l else l ++ [k]
theorem ded1_len (l : List Int) (k : Int) : (ded1 l k).length ≤ l.length + 1 := by
  unfold ded1; split
  · exact Nat.le_add_right _ _
  · simp
theorem ded_nodup : ∀ (ns l : List Int), l.Nodup → (ns.foldl ded1 l).Nodup
  | [], l, h => h
  | k :: r, l, h => by
    refine ded_nodup r _ ?_
    unfold ded1
    split
    · exact h
    · rename_i q
      rw [List.contains_iff_mem] at q
      rw [List.nodup_append]
      exact ⟨h, by simp, fun a ha b hb => by rw [List.mem_singleton.mp hb]; rintro rfl; exact q ha⟩
theorem ded_mem : ∀ (ns l : List Int) (x : Int), x ∈ ns.foldl ded1 l ↔ x ∈ l ∨ x ∈ ns
  | [], l, x => by simp
  | k :: r, l, x => by
    rw [List.foldl_cons, ded_mem r]
    have : x ∈ ded1 l k ↔ x ∈ l ∨ x = k := by
      unfold ded1
      split
      · rename_i q
        rw [List.contains_iff_mem] at q
        exact ⟨.inl, fun h => h.elim id fun e => e ▸ q⟩
      · simp
    rw [this, List.mem_cons, or_assoc]
noncomputable def byText (w : World) : Bool := w.params.followText "set-order"
section
variable {prog : Program} {w : World} {A : Around} {E : Value → Shared → Prop} {s : Shared}
theorem iset_loop {R : Result → Shared → Prop} {I : Addr} {fp wr : List Addr} {n : Nat} {P : Nat → Value → Prop} {St : Nat → Heap → Prop} {bt : Bool} (W : Walks prog w A.in1 I fp wr n P St) (S : Addr) (hSf : S ∉ fp) (ns : List Int) (hn : ns.length = n)
    (hval : ∀ i v, P i v → ∃ t, v = .int (ns.getD i 0) t) (hb : n + 1 < scanBound) :
    ∀ (k i : Nat) (s : Shared) (l : List Int), n - i = k → i ≤ n → St i s.heap → ISet bt s.heap S l → l.length ≤ i →
      (∀ h' tk, (∀ b o, b ≠ S → b ∉ wr → s.heap.get? b = some o → h'.get? b = some o) → ISet bt h' S ((ns.drop i).foldl ded1 l) → R (.ok (.ret .none)) { s with heap := h', toks := tk }) →
      codeAny (model prog w) A (.builtin "set.update.loop" ⟨[.ref S, .ref I], []⟩) R s := by
  have hSw : S ∉ wr := fun h => hSf (W.sub _ h)
  intro k
  induction k with
  | zero =>
    intro i s l hk hi hst hS hl hR
    have hin : i = n := by exact Nat.le_antisymm hi (Nat.le_of_sub_eq_zero hk)
    subst hin
    refine codeAny_builtin PyProof.Rows.F.entry_set_update_loop ?_
    rw [Around.under_plainId PyProof.Rows.F.plain_set_update_loop _]
    show wpAny _ A.in1 (pyNext (.ref I) >>= _) _ _ s
    refine wpAny_bind (W.done s _ _ hst fun h' tk hm => ?_)
    show wpAny _ A.in1 (ret Value.none) _ _ _
    refine wpAny_pure (hR h' tk (fun b o _ hb e => hm b o hb e) ?_)
    rw [List.drop_eq_nil_of_le (by exact ar349 hn)]
    obtain ⟨es, ep, t, ho, r⟩ := hS
    exact ⟨es, ep, t, hm _ _ hSw ho, r⟩
  | succ k ih =>
    intro i s l hk hi hst hS hl hR
    have hlt : i < n := by exact Nat.lt_of_sub_eq_succ hk
    refine codeAny_builtin PyProof.Rows.F.entry_set_update_loop ?_
    rw [Around.under_plainId PyProof.Rows.F.plain_set_update_loop _]
    show wpAny _ A.in1 (pyNext (.ref I) >>= _) _ _ s
    refine wpAny_bind (W.item i s _ _ hlt hst fun v h₁ tk₁ hP hst' hm => ?_)
    obtain ⟨t, rfl⟩ := hval i v hP
    have hS' : ISet bt h₁ S l := by
      obtain ⟨es, ep, t, ho, r⟩ := hS
      exact ⟨es, ep, t, hm _ _ hSw ho, r⟩
    show wpAny _ A.in1 (holding [Value.int (ns.getD i 0) t] (setAdd S (.int (ns.getD i 0) t)) >>= _) _ _ _
    refine wpAny_bind (wpAny_holding ?_)
    unfold setAdd
    refine wpAny_holding ?_
    refine wpAny_bind ((intKind prog w).pyHash (k := ns.getD i 0) (intKind_is _ _ _ _) ?_)
    refine iset_add (s := { s with heap := h₁, toks := tk₁ + 1 }) hS' (by exact Nat.lt_of_le_of_lt (Nat.succ_le_succ (Nat.le_trans hl (Nat.le_of_lt (Nat.lt_of_sub_eq_succ hk)))) hb) fun b h₂ hsb hS2 => ?_
    refine wpAny_pure ⟨plainId_quiet PyProof.Rows.F.plain_set_update_loop _, ih (i + 1) _ _ (by exact ar352 hk) hlt (W.frame _ _ _ hst' fun b hb o e => ?_) hS2 ?_ fun h' tk hk' hS3 => ?_⟩
    · exact hsb.extBut b o (fun h => hSf (h ▸ hb)) e
    · have := ded1_len l (ns.getD i 0); unfold ded1 at this; exact ar169 hl this
    · refine hR h' tk (fun b o hb1 hb2 e => hk' b o hb1 hb2 (hsb.extBut b o hb1 (hm b o hb2 e))) ?_
      have hd : ns.drop i = ns.getD i 0 :: ns.drop (i + 1) := by
        have : i < ns.length := by exact ar353 hn hk
        rw [List.drop_eq_getElem_cons this]
        simp [List.getD, List.getElem?_eq_getElem this]
      rw [hd, List.foldl_cons]
      exact hS3
theorem code_set_led (a : Value) {Q₁ : Value → Shared → Prop}
    (h : Q₁ (.ref s.heap.objs.size) { s with heap := s.heap.push { cls := .type "set", dict := none, data := .set #[] 0 (.fresh 0 0 (!byText w)) } }) :
    codeAny (model prog w) A (.call (.builtin "set.__new__") ⟨[.type "set", a], []⟩) (wants Q₁ E) s := by
  refine codeAny_of_tree ?_
  show wpAny _ A.in1 (do checkBuiltinCall "set.__new__" ⟨[.type "set", a], []⟩; again (.builtin "set.__new__" ⟨[.type "set", a], []⟩)) _ _ s
  refine wpAny_bind (wpAny_of_eq (PySem.F.newCall_set_1 a) (wpAny_pure ⟨plainId_quiet PySem.F.plain_set_new _, codeAny_builtin PySem.F.entry_set_new ?_⟩))
  rw [Around.under_plainId PySem.F.plain_set_new _]
  unfold Builtin.«set.__new__» Builtin.Frozenset.newClass
  have hsub := sub_set_self
  obtain ⟨hp, g, d, tk, os⟩ := s
  dsimp only
  wp_walk
  refine wpAny_askSetting (wpAny_pure ?_)
  dsimp only
  simp only [newObj]
  refine wpAny_bind (wpAny_alloc (wpAny_pure ?_))
  exact wpAny_pure h
end
section
variable {prog : Program} {w : World} {A : Around} {E : Value → Shared → Prop} {s : Shared}
theorem iset_fresh {h : Heap} {a : Addr} {led : Bool} {bt : Bool} (hl : bt = false → led = true) (ho : h.get? a = some { cls := .type "set", dict := none, data := .set #[] 0 (.fresh 0 0 led) }) : ISet bt h a [] :=
  ⟨#[], 0, .fresh 0 0 led, ho, fun e he => by simp at he, List.Perm.refl _, by show 0 < 4096; decide, rfl, ⟨hl, by show List.Pairwise _ []; exact .nil, rfl⟩⟩
set_option maxHeartbeats 3200000 in
theorem iset_call {l : Addr} {items : Array Value} {ns : List Int} {Q : Value → Shared → Prop} (hh : A.handled = none) (hl : s.heap.IsList l items) (hi : IntsAre items.toList ns) (hb : items.size + 1 < scanBound)
    (h : ∀ (h' : Heap) (tk : Nat), ISet (byText w) h' s.heap.objs.size (ns.foldl ded1 []) → (∀ b o, s.heap.get? b = some o → h'.get? b = some o) → Q (.ref s.heap.objs.size) { s with heap := h', toks := tk }) :
    wpAny (model prog w) A (call (.type "set") [.ref l]) Q E s := by
  obtain ⟨c, tl, hmro⟩ := PySem.F.called_set.mro
  have hmade := PySem.F.called_set.made
  have hsub := PySem.F.called_set.sub
  refine wpAny_call (codeAny_of_tree ?_)
  show wpAny _ _ (callAny (.type "set") _) _ _ _
  refine wpAny_pure ⟨Code.quiet_builtin _ (by decide +kernel), codeAny_builtin PySem.F.entry_type_call ?_⟩
  rw [Around.under_plain (weight_type_call_type "set" [.ref l] []) rfl]
  have h1 := PySem.F.called_set.notType
  have h2 := PySem.F.called_set.canCreate
  have hct := PySem.F.typeCall_set_1 (.ref l)
  repeat (any_goals (first | assumption | wp_step))
  refine codeAny_mono (code_set_led (.ref l) (E := E) (Q₁ := fun obj s₁ => obj = .ref s.heap.objs.size ∧ s₁ = { s with heap := s.heap.push { cls := .type "set", dict := none, data := .set #[] 0 (.fresh 0 0 (!byText w)) } }) ⟨rfl, rfl⟩) fun r s₁ hr => ?_
  cases r with
  | error e => exact hr
  | ok fl =>
    cases fl with
    | ret obj =>
      obtain ⟨rfl, rfl⟩ := hr
      have hS : (s.heap.push { cls := .type "set", dict := none, data := .set #[] 0 (.fresh 0 0 (!byText w)) }).get? s.heap.objs.size = some { cls := .type "set", dict := none, data := .set #[] 0 (.fresh 0 0 (!byText w)) } := Heap.get?_push_size _ rfl
      have hT : Shared.TypeIs { s with heap := s.heap.push { cls := .type "set", dict := none, data := .set #[] 0 (.fresh 0 0 (!byText w)) } } (.ref s.heap.objs.size) "set" := ⟨_, hS, rfl⟩
      have hli := PySem.F.called_set.init.lookup
      have hbi := PySem.F.called_set.init.bind (.ref s.heap.objs.size)
      repeat (any_goals (first | assumption | wp_step))
      refine codeAny_mono (codeAny_call_builtin (R := wants (fun r s₂ => r = .none ∧ (Ex2 fun h' tk => And3 (s₂ = { s with heap := h', toks := tk }) (ISet (byText w) h' s.heap.objs.size (ns.foldl ded1 [])) ((∀ b o, s.heap.get? b = some o → h'.get? b = some o)))) E) PySem.F.called_set.init.plain PySem.F.entry_set_init (check_set_init_1 hT ?_)) fun r₂ s₂ hr₂ => ?_
      · obtain ⟨ol, hol, hcl, nl, hdl⟩ := id hl
        obtain ⟨ocls, odict, odata, oslots⟩ := ol
        simp only at hcl hdl
        subst hcl; subst hdl
        have hol' : (s.heap.push { cls := .type "set", dict := none, data := .set #[] 0 (.fresh 0 0 (!byText w)) }).get? l = some { cls := .type "list", dict := odict, data := .seq items nl, slots := oslots } := Heap.get?_push_of_some _ hol
        have hsls := PySem.F.sub_list_set
        have hslf := PySem.F.sub_list_frozenset
        have hne : (Value.type "list" == Value.type "dict") = false := by decide
        have hl1 : (s.heap.push { cls := .type "set", dict := none, data := .set #[] 0 (.fresh 0 0 (!byText w)) }).IsList l items := ⟨_, hol', rfl, nl, rfl⟩
        unfold Builtin.«set.__init__» noKeywords Builtin.Frozenset.updateFrom
        generalize hPI : pyIter = PI
        wp_walk
        subst hPI
        refine wpAny_pyIter_list hl1 ?_
        refine wpAny_bind (wpAny_runValue ?_)
        have hlS : l < s.heap.objs.size := Heap.lt_size hol
        have hh3 : A.in1.in1.in1.handled = none := by simp [hh]
        have hneI : l ≠ (s.heap.push { cls := .type "set", dict := none, data := .set #[] 0 (.fresh 0 0 (!byText w)) }).objs.size := by
          rw [Heap.size_push]; exact Nat.ne_of_lt (Nat.lt_succ_of_lt hlS)
        have hSf : s.heap.objs.size ∉ [(s.heap.push { cls := .type "set", dict := none, data := .set #[] 0 (.fresh 0 0 (!byText w)) }).objs.size, l] := by
          rw [Heap.size_push]; simp only [List.mem_cons, List.mem_singleton, List.not_mem_nil, or_false, not_or]
          exact ⟨Nat.ne_of_lt (Nat.lt_succ_self _), Nat.ne_of_gt hlS⟩
        have hval : ∀ (i : Nat) (v : Value), items[i]? = some v → ∃ t, v = .int (ns.getD i 0) t := fun i v hv =>
          PyProof.Rows.IntsAre.int_at hi i v (by rw [Array.getElem?_toList]; exact hv)
        have hlen : ns.length = items.size := by rw [← hi.length]; simp
        refine iset_loop (Walks.list hh3 _ l hneI items) s.heap.objs.size hSf ns hlen hval hb (items.size - 0) 0 _ [] (by exact ar354) (Nat.zero_le _)
          ⟨⟨_, Heap.get?_push_size _ rfl, rfl, rfl⟩, (hl1.push _)⟩ (iset_fresh (bt := byText w) (led := !byText w) (fun e => by rw [e]; rfl) (Heap.get?_push_of_some _ hS)) (Nat.le_refl _) fun h' tk hk hS' => ?_
        show wpAny _ _ _ _ _ _
        refine wpAny_pure ?_
        show wpAny _ _ (ret Value.none) _ _ _
        refine wpAny_pure ⟨rfl, h', tk, rfl, ?_, fun b o e => ?_⟩
        · simpa using hS'
        · have hlt := Heap.lt_size e
          refine hk b o (Nat.ne_of_lt hlt) (fun hm => ?_) (Heap.get?_push_of_some _ (Heap.get?_push_of_some _ e))
          rw [List.mem_singleton.mp hm, Heap.size_push] at hlt
          exact absurd (Nat.lt_of_succ_lt hlt) (Nat.lt_irrefl _)
      · cases r₂ with
        | error e => exact hr₂
        | ok fl₂ =>
          cases fl₂ with
          | ret r =>
            obtain ⟨rfl, h', tk, rfl, hS', hk'⟩ := hr₂
            repeat (any_goals (first | assumption | wp_step))
            exact h _ _ hS' hk'
          | _ => exact hr₂.elim
    | _ => exact hr.elim
end
theorem si_entry_iter : entryFor table "set.__iter__" = some Builtin.«frozenset.__iter__» := entryFor_alias (id' := "frozenset.__iter__") (by kernel_rfl) rfl (by decide +kernel) (by kernel_rfl)
theorem si_entry_next : entryFor table "set_iterator.__next__" = some Builtin.«set_iterator.__next__» := entryFor_of_tree (by kernel_rfl)
theorem si_slot_next : Slot "set_iterator" "__next__" "set_iterator.__next__" :=
  .of (owner := "set_iterator") (n := "__next__") (by rw [typeLookup_type, builtinLookup_eq_fast]; kernel_rfl) (by decide +kernel) (by decide +kernel) (by decide +kernel)
    (by first | exact .inl (by decide +kernel) | exact .inr (by decide +kernel)) (by rw [isSubtype_type]; kernel_rfl)
theorem si_args_next (a : Value) : argsOk "set_iterator.__next__" ⟨[a], []⟩ := by unfold argsOk; kernel_rfl
noncomputable def itO (f : Value) (i : Int) (a : Addr) (n ep : Nat) : Obj := { cls := .type "set_iterator", data := .fields #[f, .int i 0, .ref a, .int n 0, .int ep 0] }
noncomputable def setO (es : Array (Int × Value)) (ep : Nat) (t : SetTable) : Obj := { cls := .type "set", dict := none, data := .set es ep t }
section
variable {prog : Program} {w : World} {A : Around} {E : Value → Shared → Prop} {s : Shared} {I a : Addr} {es : Array (Int × Value)} {ep n : Nat} {t : SetTable} {i sl nx : Nat} {x : Value}
theorem si_set0 {h : Heap} {f g : Value} {i : Int} (hI : h.get? I = some (itO f i a n ep)) : (h.update I (Obj.mapFields (·.setIfInBounds 0 g))).get? I = some (itO g i a n ep) := Heap.get?_update_self (Obj.mapFields (·.setIfInBounds 0 g)) hI rfl
theorem si_set1 {h : Heap} {f : Value} {i j : Int} (hI : h.get? I = some (itO f i a n ep)) : (h.update I (Obj.mapFields (·.setIfInBounds 1 (.int j 0)))).get? I = some (itO f j a n ep) := Heap.get?_update_self (Obj.mapFields (·.setIfInBounds 1 (.int j 0))) hI rfl
theorem it_slot (hI : s.heap.get? I = some (itO (.int sl 0) i a n ep)) (hs : s.heap.get? a = some (setO es ep t)) (hf : t.fits es.size = true) (hn : es.size = n)
    (hnext : ∀ (A : Around) (Q : Option (Value × Nat) → Shared → Prop) (E : Value → Shared → Prop), Q (some (x, nx)) s → wpAny (model prog w) A (setNext a sl i ep) Q E s) {Q : Option Value → Shared → Prop}
    (hQ : ∀ h', h'.get? I = some (itO (.int nx 0) ((i + 1 : Nat) : Int) a n ep) → Heap.SameBut I s.heap h' → Q (some x) { s with heap := h' }) : wpAny (model prog w) A (pyNext (.ref I)) Q E s := by
  have hT : s.TypeIs (.ref I) "set_iterator" := ⟨_, hI, rfl⟩
  unfold pyNext
  refine wpAny_bind (wpAny_attempt (wpAny_callSpecial?_slot (name := Str.ofString "__next__") hT si_slot_next (wpAny_call_entry si_slot_next hT si_entry_next ?_ (si_args_next _))))
  unfold Builtin.«set_iterator.__next__»
  refine wpAny_bind (m := slotArgs "__next__" 0 _) (wpAny_pure ?_)
  show wpAny _ _ (fieldsOf (.ref I) >>= _) _ _ s
  refine wpAny_bind (wpAny_fieldsOf hI rfl ?_)
  dsimp only
  refine wpAny_bind (wpAny_setEntries_of hs rfl hf ?_)
  rw [if_neg (by simp [hn])]
  simp only [Int.toNat_natCast]
  refine wpAny_bind (hnext _ _ _ ?_)
  dsimp only
  refine wpAny_bind (wpAny_setField hI rfl (by simp) ?_)
  refine wpAny_bind (wpAny_setField (si_set0 hI) rfl (by simp) ?_)
  refine wpAny_pure ⟨x, rfl, wpAny_pure (hQ _ (si_set1 (si_set0 hI)) ((Heap.SameBut.update ..).trans (Heap.SameBut.update ..)))⟩
theorem stop_raised {s : Shared} {Q : Option Value → Shared → Prop} {R : PySem.Fin → Shared → Prop} {A : Around} (hh : A.handled = none) (hQ : ∀ h', (∀ b o, s.heap.get? b = some o → h'.get? b = some o) → Q none { s with heap := h' }) :
    wpAny (model prog w) A.in1 (do let e ← newExc (.type "StopIteration") []; raiseNew e : Sem PySem.Fin) R (fun e s' => wpAny (model prog w) A (do
        let b ← isInstance e (Value.type "StopIteration")
        if b = true then pure none else throw e) Q E s') s := by
  refine wpAny_bind ?_
  simp only [newExc, newTuple]
  refine wpAny_bind (wpAny_newObj_type ?_ (by size_fits))
  refine wpAny_bind (m := firstArgMember _ _) (wpAny_of_eq (a := Value.none) (by first | rfl | (simp only [firstArgMember]; rfl)) ?_)
  refine wpAny_newObj_type ?_ (by size_fits)
  simp only [raiseNew]
  refine wpAny_bind (wpAny_handled ?_)
  rw [show A.in1.handled = none from hh]
  refine wpAny_bind (wpAny_pure (wpAny_throw ?_))
  refine wpAny_bind (wpAny_isInstance (T := "StopIteration") (b := true) ⟨_, Heap.get?_push_size _ rfl, rfl⟩ isSubtype_stop ?_)
  exact wpAny_pure (hQ _ fun b o e => Heap.get?_push_of_some _ (Heap.get?_push_of_some _ e))
theorem it_slot_end (hh : A.handled = none) (hI : s.heap.get? I = some (itO (.int sl 0) i a n ep)) (hs : s.heap.get? a = some (setO es ep t)) (hf : t.fits es.size = true) (hn : es.size = n)
    (hnext : ∀ (A : Around) (Q : Option (Value × Nat) → Shared → Prop) (E : Value → Shared → Prop), Q none s → wpAny (model prog w) A (setNext a sl i ep) Q E s) {Q : Option Value → Shared → Prop}
    (hQ : ∀ h', (∀ b o, b ≠ I → s.heap.get? b = some o → h'.get? b = some o) → Q none { s with heap := h' }) : wpAny (model prog w) A (pyNext (.ref I)) Q E s := by
  have hT : s.TypeIs (.ref I) "set_iterator" := ⟨_, hI, rfl⟩
  unfold pyNext
  refine wpAny_bind (wpAny_attempt (wpAny_callSpecial?_slot (name := Str.ofString "__next__") hT si_slot_next (wpAny_call_entry si_slot_next hT si_entry_next ?_ (si_args_next _))))
  unfold Builtin.«set_iterator.__next__»
  refine wpAny_bind (m := slotArgs "__next__" 0 _) (wpAny_pure ?_)
  show wpAny _ _ (fieldsOf (.ref I) >>= _) _ _ s
  refine wpAny_bind (wpAny_fieldsOf hI rfl ?_)
  dsimp only
  refine wpAny_bind (wpAny_setEntries_of hs rfl hf ?_)
  rw [if_neg (by simp [hn])]
  simp only [Int.toNat_natCast]
  refine wpAny_bind (hnext _ _ _ ?_)
  dsimp only
  refine wpAny_bind (wpAny_setField hI rfl (by simp) ?_)
  refine stop_raised (s := { s with heap := _ }) hh fun h' hk => hQ h' fun b o hb e => hk b o ((Heap.get?_update_other _ _ (Ne.symm hb)).trans e)
theorem it_drawn {T : Addr} {oT : Obj} {ps : Array Value} {m p : Nat} {h0 : Int} {tp : Tok} (hI : s.heap.get? I = some (itO (.ref T) i a n ep)) (hs : s.heap.get? a = some (setO es ep t)) (hf : t.fits es.size = true) (hn : es.size = n)
    (hTo : s.heap.get? T = some oT) (hTd : oT.data = .seq ps m) (hp : ps[i]? = some (.int p tp)) (hx : es[p]? = some (h0, x)) {Q : Option Value → Shared → Prop}
    (hQ : ∀ h', h'.get? I = some (itO (.ref T) ((i + 1 : Nat) : Int) a n ep) → Heap.SameBut I s.heap h' → Q (some x) { s with heap := h' }) : wpAny (model prog w) A (pyNext (.ref I)) Q E s := by
  have hT : s.TypeIs (.ref I) "set_iterator" := ⟨_, hI, rfl⟩
  unfold pyNext
  refine wpAny_bind (wpAny_attempt (wpAny_callSpecial?_slot (name := Str.ofString "__next__") hT si_slot_next (wpAny_call_entry si_slot_next hT si_entry_next ?_ (si_args_next _))))
  unfold Builtin.«set_iterator.__next__»
  refine wpAny_bind (m := slotArgs "__next__" 0 _) (wpAny_pure ?_)
  show wpAny _ _ (fieldsOf (.ref I) >>= _) _ _ s
  refine wpAny_bind (wpAny_fieldsOf hI rfl ?_)
  dsimp only
  refine wpAny_bind (wpAny_setEntries_of hs rfl hf ?_)
  rw [if_neg (by simp [hn])]
  refine wpAny_bind (wpAny_seqItems hTo hTd ?_)
  simp only [Int.toNat_natCast, hp]
  unfold setNextDrawn
  refine wpAny_bind (wpAny_bind (wpAny_setState_of hs rfl hf ?_))
  simp only [bne_self_eq_false, Bool.false_eq_true, if_false, hx]
  refine wpAny_pure ?_
  refine wpAny_bind (wpAny_setField hI rfl (by simp) ?_)
  exact wpAny_pure ⟨x, rfl, wpAny_pure (hQ _ (si_set1 hI) (Heap.SameBut.update ..))⟩
theorem it_drawn_end {T : Addr} {oT : Obj} {ps : Array Value} {m : Nat} (hh : A.handled = none) (hI : s.heap.get? I = some (itO (.ref T) i a n ep)) (hs : s.heap.get? a = some (setO es ep t)) (hf : t.fits es.size = true) (hn : es.size = n)
    (hTo : s.heap.get? T = some oT) (hTd : oT.data = .seq ps m) (hp : ps[i]? = none) {Q : Option Value → Shared → Prop}
    (hQ : ∀ h', (∀ b o, b ≠ I → s.heap.get? b = some o → h'.get? b = some o) → Q none { s with heap := h' }) : wpAny (model prog w) A (pyNext (.ref I)) Q E s := by
  have hT : s.TypeIs (.ref I) "set_iterator" := ⟨_, hI, rfl⟩
  unfold pyNext
  refine wpAny_bind (wpAny_attempt (wpAny_callSpecial?_slot (name := Str.ofString "__next__") hT si_slot_next (wpAny_call_entry si_slot_next hT si_entry_next ?_ (si_args_next _))))
  unfold Builtin.«set_iterator.__next__»
  refine wpAny_bind (m := slotArgs "__next__" 0 _) (wpAny_pure ?_)
  show wpAny _ _ (fieldsOf (.ref I) >>= _) _ _ s
  refine wpAny_bind (wpAny_fieldsOf hI rfl ?_)
  dsimp only
  refine wpAny_bind (wpAny_setEntries_of hs rfl hf ?_)
  rw [if_neg (by simp [hn])]
  refine wpAny_bind (wpAny_seqItems hTo hTd ?_)
  simp only [Int.toNat_natCast, hp]
  refine wpAny_bind (wpAny_setField hI rfl (by simp) ?_)
  refine wpAny_bind (wpAny_setField (si_set0 hI) rfl (by simp) ?_)
  refine stop_raised (s := { s with heap := _ }) hh fun h' hk => hQ h' fun b o hb e => hk b o ((Heap.get?_update_other _ _ (Ne.symm hb)).trans ((Heap.get?_update_other _ _ (Ne.symm hb)).trans e))
end
theorem si_slot_iter : Slot "set_iterator" "__iter__" "set_iterator.__iter__" :=
  .of (owner := "set_iterator") (n := "__iter__") (by rw [typeLookup_type, builtinLookup_eq_fast]; kernel_rfl) (by decide +kernel) (by decide +kernel) (by decide +kernel)
    (by first | exact .inl (by decide +kernel) | exact .inr (by decide +kernel)) (by rw [isSubtype_type]; kernel_rfl)
theorem si_entry_self : entryFor table "set_iterator.__iter__" = some Builtin.«dict_keyiterator.__iter__» := entryFor_alias (id' := "dict_keyiterator.__iter__") (by kernel_rfl) rfl (by decide +kernel) (by kernel_rfl)
theorem si_args_iter (a : Value) : argsOk "set_iterator.__iter__" ⟨[a], []⟩ := by unfold argsOk; kernel_rfl
theorem erase_perm {α : Type} {l : List α} {i : Nat} {x : α} (h : l[i]? = some x) : (x :: l.eraseIdx i).Perm l := by
  induction l generalizing i with
  | nil => simp at h
  | cons a r ih =>
    cases i with
    | zero => simp at h; subst h; exact List.Perm.refl _
    | succ i =>
      simp at h
      rw [List.eraseIdx_cons_succ]
      exact (List.Perm.swap _ _ _).trans ((ih h).cons _)
theorem erase_len {α : Type} {l : List α} {i : Nat} {x : α} (h : l[i]? = some x) : (l.eraseIdx i).length + 1 = l.length := by
  have := (erase_perm h).length_eq
  simpa using this
theorem pick_go {α : Type} (next : Nat → Nat) : ∀ (fuel k : Nat) (left : List α) (out : Array α), fuel = left.length → (pickOrder.go next fuel k left out).toList.Perm (out.toList ++ left)
  | 0, k, left, out, h => by
    have : left = [] := List.eq_nil_of_length_eq_zero h.symm
    subst this
    simp [pickOrder.go]
  | fuel + 1, k, left, out, h => by
    unfold pickOrder.go
    have hlt : next k % left.length < left.length := Nat.mod_lt _ (by exact ar355 h)
    rw [List.getElem?_eq_getElem hlt]
    have hx : left[next k % left.length]? = some left[next k % left.length] := List.getElem?_eq_getElem hlt
    have := pick_go next fuel (k + 1) (left.eraseIdx (next k % left.length)) (out.push left[next k % left.length]) (by have := erase_len hx; exact ar356 h this)
    refine this.trans ?_
    rw [Array.toList_push, List.append_assoc]
    exact (erase_perm hx).append_left _
theorem pick_perm {α : Type} (next : Nat → Nat) (xs : Array α) : (pickOrder next xs).toList.Perm xs.toList := by
  have := pick_go next xs.size 0 xs.toList #[] (by simp)
  simpa [pickOrder] using this
section
variable {prog : Program} {w : World} {A : Around} {E : Value → Shared → Prop} {s : Shared} {I a : Addr} {es : Array (Int × Value)} {ep n : Nat} {t : SetTable} {i sl nx : Nat} {x : Value}
theorem wpAny_chooseO {m : Nat} {Q : Nat → Shared → Prop} (hm : 0 < m) (h : ∀ j dr, j < m → Q j { s with drawn := dr }) : wpAny (model prog w) A (choose .order m) Q E s :=
  fun Γ p hΓ => ⟨by exact Nat.ne_of_gt hm, h _ _ (Nat.mod_lt _ hm)⟩
theorem draw_perm {α : Type} : ∀ (m : Nat) (xs : List α) {s : Shared} {Q : List α → Shared → Prop}, m = xs.length → (∀ ys dr, ys.Perm xs → Q ys { s with drawn := dr }) → wpAny (model prog w) A (drawOrder m xs) Q E s
  | 0, xs, s, Q, h, hQ => by
    have : xs = [] := List.eq_nil_of_length_eq_zero h.symm
    subst this
    unfold drawOrder
    exact wpAny_pure (hQ [] s.drawn (List.Perm.refl _))
  | m + 1, [], s, Q, h, hQ => by cases h
  | m + 1, x :: r, s, Q, h, hQ => by
    unfold drawOrder
    refine wpAny_bind (wpAny_chooseO (by simp) fun j dr hj => ?_)
    obtain ⟨y, hy⟩ : ∃ y, (x :: r)[j]? = some y := ⟨_, List.getElem?_eq_getElem hj⟩
    rw [hy]
    dsimp only
    refine wpAny_bind (draw_perm m _ (by have := erase_len hy; exact ar356 h this) fun ys dr' hp => ?_)
    exact wpAny_pure (hQ (y :: ys) dr' ((hp.cons y).trans (erase_perm hy)))
theorem next_text (hb : byText w = true) (hs : s.heap.get? a = some (setO es ep t)) (hf : t.fits es.size = true) {Q : Option (Value × Nat) → Shared → Prop} (h : Q (((pickOrder (w.params.setOrder a ep) es)[i]?).map fun e => (e.2, sl)) s) :
    wpAny (model prog w) A (setNext a sl i ep) Q E s := by
  unfold setNext
  refine wpAny_bind (wpAny_setState_of hs rfl hf ?_)
  dsimp only
  unfold setsByText
  have hb' : (model prog w).w.params.followText "set-order" = true := hb
  refine wpAny_bind (wpAny_bind (wpAny_askSetting (wpAny_pure ?_)))
  dsimp only
  rw [hb', if_pos rfl, if_neg (by simp)]
  unfold setWalk
  refine wpAny_bind ?_
  refine wpAny_bind (wpAny_setState_of hs rfl hf ?_)
  dsimp only
  unfold setsByText
  refine wpAny_bind (wpAny_bind (wpAny_askSetting (wpAny_pure ?_)))
  dsimp only
  rw [hb', if_pos rfl]
  refine wpAny_bind (wpAny_askSetting (wpAny_pure ?_))
  exact wpAny_pure h
theorem next_plain (hb : byText w = false) (hd : (!t.plain && decide (1 < es.size)) = false) (hg : Good false t) (hs : s.heap.get? a = some (setO es ep t)) (hf : t.fits es.size = true) {Q : Option (Value × Nat) → Shared → Prop}
    (h : Q (match es[SetTable.below t.place sl]?, t.place[SetTable.below t.place sl]? with | some (_, x), some j => some (x, j + 1) | _, _ => none) s) :
    wpAny (model prog w) A (setNext a sl i ep) Q E s := by
  unfold setNext
  refine wpAny_bind (wpAny_setState_of hs rfl hf ?_)
  dsimp only
  unfold setsByText
  have hb' : (model prog w).w.params.followText "set-order" = false := hb
  refine wpAny_bind (wpAny_bind (wpAny_askSetting (wpAny_pure ?_)))
  dsimp only
  rw [hb', if_neg (by decide)]
  show wpAny _ _ (if (!t.plain && decide (es.size > 1)) = true then _ else _) _ _ _
  rw [if_neg (by rw [show (!t.plain && decide (es.size > 1)) = false from hd]; decide)]
  show wpAny _ _ ((if (!t.led && !es.isEmpty) = true then _ else _) >>= _) _ _ _
  rw [if_neg (by rw [hg.led rfl]; simp)]
  refine wpAny_bind (wpAny_pure ?_)
  exact wpAny_pure h
end
theorem vals_at {L : List (Int × Value)} (h : AllI L) {i : Nat} {e : Int × Value} (he : L[i]? = some e) : ∃ t, e.2 = .int ((vals L).getD i 0) t := by
  obtain ⟨k, t, rfl⟩ := h e (List.mem_of_getElem? he)
  refine ⟨t, ?_⟩
  unfold vals
  rw [List.getD, List.getElem?_map, he]
  rfl
theorem AllI.perm {L L' : List (Int × Value)} (h : AllI L) (p : L'.Perm L) : AllI L' := fun e he => h e (p.mem_iff.mp he)
noncomputable def slotOf (t : SetTable) (i : Nat) : Nat := if i = 0 then 0 else t.place.getD (i - 1) 0 + 1
section
variable {prog : Program} {w : World} {A : Around} {E : Value → Shared → Prop} {s : Shared} {I a : Addr} {es : Array (Int × Value)} {ep n : Nat} {t : SetTable} {i sl nx : Nat} {x : Value}
theorem self_iter {f : Value} {j : Int} {Q : Value → Shared → Prop} (hI : s.heap.get? I = some (itO f j a n ep)) (h : Q (.ref I) s) : wpAny (model prog w) A (pyIter (.ref I)) Q E s := by
  have hT : s.TypeIs (.ref I) "set_iterator" := ⟨_, hI, rfl⟩
  refine wpAny_pyIter_slot hT si_slot_iter (wpAny_call_entry si_slot_iter hT si_entry_self ?_ (si_args_iter _))
  show wpAny _ _ (ret (.ref I)) _ _ s
  exact wpAny_pure ⟨_, rfl, "set_iterator", _, hT, si_slot_next.lookup, h⟩
theorem walks_text (hh : A.handled = none) (hb : byText w = true) (hf : t.fits es.size = true) (hIa : a ≠ I) : Walks prog w A I [I, a] [I] es.size (fun i v => ∃ e, (pickOrder (w.params.setOrder a ep) es).toList[i]? = some e ∧ v = e.2)
    (fun i h => h.get? I = some (itO (.int (0 : Nat) 0) i a es.size ep) ∧ h.get? a = some (setO es ep t)) where
  sub := fun b hb => by simp at hb; simp [hb]
  frame := fun i h h' st hk => ⟨hk _ (by simp) _ st.1, hk _ (by simp) _ st.2⟩
  item := fun i s Q E hi st hQ => by
    have hlen : (pickOrder (w.params.setOrder a ep) es).toList.length = es.size := by rw [(pick_perm _ _).length_eq]; simp
    obtain ⟨e, he⟩ : ∃ e, (pickOrder (w.params.setOrder a ep) es).toList[i]? = some e := ⟨_, List.getElem?_eq_getElem (by exact ar358 hi hlen)⟩
    refine it_slot (x := e.2) (nx := 0) st.1 st.2 hf rfl (fun A Q E h => next_text hb st.2 hf ?_) fun h' h1 h2 => hQ e.2 h' s.toks ⟨e, he, rfl⟩ ⟨h1, (h2.2 a hIa).trans st.2⟩ fun b o hb e => (h2.2 b (by simpa using hb)).trans e
    rw [← Array.getElem?_toList, he]; exact h
  done := fun s Q E st hQ => by
    have hlen : (pickOrder (w.params.setOrder a ep) es).toList.length = es.size := by rw [(pick_perm _ _).length_eq]; simp
    refine it_slot_end hh st.1 st.2 hf rfl (fun A Q E h => next_text hb st.2 hf ?_) fun h' h1 => hQ h' s.toks fun b o hb e => h1 b o (by simpa using hb) e
    rw [← Array.getElem?_toList, List.getElem?_eq_none (by exact ar349 hlen)]; exact h
  self := fun i s Q E st hQ => self_iter st.1 hQ
theorem walks_plain (hh : A.handled = none) (hb : byText w = false) (hd : (!t.plain && decide (1 < es.size)) = false) (hg : Good false t) (hf : t.fits es.size = true) (hIa : a ≠ I) : Walks prog w A I [I, a] [I] es.size (fun i v => ∃ e, es.toList[i]? = some e ∧ v = e.2)
    (fun i h => h.get? I = some (itO (.int (slotOf t i) 0) i a es.size ep) ∧ h.get? a = some (setO es ep t)) where
  sub := fun b hb => by simp at hb; simp [hb]
  frame := fun i h h' st hk => ⟨hk _ (by simp) _ st.1, hk _ (by simp) _ st.2⟩
  item := fun i s Q E hi st hQ => by
    have hps : t.place.size = es.size := by
      have := hf
      simp only [SetTable.fits, Bool.and_eq_true, beq_iff_eq] at this
      exact this.1
    have hbel : SetTable.below t.place (slotOf t i) = i := below_next hg.rise (by exact ar359 hi hps)
    obtain ⟨e, he⟩ : ∃ e, es.toList[i]? = some e := ⟨_, List.getElem?_eq_getElem (by simpa using hi)⟩
    refine it_slot (x := e.2) (nx := slotOf t (i + 1)) st.1 st.2 hf rfl (fun A Q E h => next_plain hb hd hg st.2 hf ?_) fun h' h1 h2 => hQ e.2 h' s.toks ⟨e, he, rfl⟩ ⟨h1, (h2.2 a hIa).trans st.2⟩ fun b o hb e => (h2.2 b (by simpa using hb)).trans e
    rw [hbel, ← Array.getElem?_toList (xs := es), he]
    have hp : t.place[i]? = some (t.place.getD i 0) := by
      have : i < t.place.size := by exact ar358 hi hps
      simp [Array.getD, this]
    rw [hp]
    exact h
  done := fun s Q E st hQ => by
    have hps : t.place.size = es.size := by
      have := hf
      simp only [SetTable.fits, Bool.and_eq_true, beq_iff_eq] at this
      exact this.1
    have hbel : SetTable.below t.place (slotOf t es.size) = es.size := below_next hg.rise (by exact ar360 hps)
    refine it_slot_end hh st.1 st.2 hf rfl (fun A Q E h => next_plain hb hd hg st.2 hf ?_) fun h' h1 => hQ h' s.toks fun b o hb e => h1 b o (by simpa using hb) e
    rw [hbel, Array.getElem?_eq_none (Nat.le_refl _)]; exact h
  self := fun i s Q E st hQ => self_iter st.1 hQ
theorem walks_drawn {T : Addr} {ys : List Nat} (hh : A.handled = none) (hys : ys.Perm (List.range es.size)) (hf : t.fits es.size = true) (hIa : a ≠ I) (hIT : T ≠ I) : Walks prog w A I [I, a, T] [I] es.size (fun i v => ∃ e, (ys.filterMap (es.toList[·]?))[i]? = some e ∧ v = e.2)
    (fun i h => h.get? I = some (itO (.ref T) i a es.size ep) ∧ h.get? a = some (setO es ep t) ∧ h.get? T = some { cls := .type "tuple", data := .seq (ys.map fun (p : Nat) => Value.int p 0).toArray }) where
  sub := fun b hb => by simp at hb; simp [hb]
  frame := fun i h h' st hk => ⟨hk _ (by simp) _ st.1, hk _ (by simp) _ st.2.1, hk _ (by simp) _ st.2.2⟩
  item := fun i s Q E hi st hQ => by
    have hlen : ys.length = es.size := by rw [hys.length_eq]; simp
    have hi' : i < ys.length := by exact ar358 hi hlen
    have hyi : ys[i] < es.size := by have := hys.mem_iff.mp (List.getElem_mem hi'); simpa using this
    have hfm : ∀ zs : List Nat, (∀ z ∈ zs, z < es.size) → ∀ j (hj : j < zs.length), (zs.filterMap (es.toList[·]?))[j]? = es.toList[zs[j]]? := by
      intro zs
      induction zs with
      | nil => intro _ j hj; simp at hj
      | cons z r ih =>
        intro hz j hj
        have h1 : es.toList[z]? = some (es.toList[z]'(by simpa using hz z (.head _))) := List.getElem?_eq_getElem _
        rw [List.filterMap_cons, h1]
        cases j with
        | zero => simp [h1]
        | succ j => simpa using ih (fun z' h' => hz z' (.tail _ h')) j (by simpa using hj)
    have he : (ys.filterMap (es.toList[·]?))[i]? = some (es.toList[ys[i]]'(by simpa using hyi)) := by
      rw [hfm ys (fun z hz => by have := hys.mem_iff.mp hz; simpa using this) i hi']
      exact List.getElem?_eq_getElem _
    have hx : es[ys[i]]? = some ((es.toList[ys[i]]'(by simpa using hyi)).1, (es.toList[ys[i]]'(by simpa using hyi)).2) := by
      rw [← Array.getElem?_toList]; exact List.getElem?_eq_getElem _
    refine it_drawn (p := ys[i]) (tp := 0) st.1 st.2.1 hf rfl st.2.2 rfl (by simp [hi']) hx fun h' h1 h2 => hQ _ h' s.toks ⟨_, he, rfl⟩ ⟨h1, (h2.2 a hIa).trans st.2.1, (h2.2 T hIT).trans st.2.2⟩ fun b o hb e => (h2.2 b (by simpa using hb)).trans e
  done := fun s Q E st hQ => by
    have hlen : ys.length = es.size := by rw [hys.length_eq]; simp
    refine it_drawn_end hh st.1 st.2.1 hf rfl st.2.2 rfl (by simp [hlen]) fun h' h1 => hQ h' s.toks fun b o hb e => h1 b o (by simpa using hb) e
  self := fun i s Q E st hQ => self_iter st.1 hQ
end
section
variable {prog : Program} {w : World} {A : Around} {E : Value → Shared → Prop} {s : Shared} {a : Addr} {l : List Int}
theorem iset_iter (hh : A.handled = none) (hS : ISet (byText w) s.heap a l) {Q : Value → Shared → Prop}
    (hQ : ∀ I h' dr fp (ms : List Int) (Pv : Nat → Value → Prop) (St : Nat → Heap → Prop), Walks prog w A I fp [I] l.length Pv St → St 0 h' → (∀ b o, s.heap.get? b = some o → h'.get? b = some o) → s.heap.objs.size ≤ I → (∀ b ∈ fp, b = a ∨ s.heap.objs.size ≤ b) → (∀ b ∈ fp, ∃ o, h'.get? b = some o) →
      ms.Perm l → (∀ i v, i < l.length → Pv i v → ∃ t, v = .int (ms.getD i 0) t) → Q (.ref I) { s with heap := h', drawn := dr }) : wpAny (model prog w) A (pyIter (.ref a)) Q E s := by
  obtain ⟨es, ep, t, ho, hal, hp, hb, hf, hg⟩ := hS
  have hT : s.TypeIs (.ref a) "set" := ⟨_, ho, rfl⟩
  have alt := Heap.lt_size ho
  have hlen : l.length = es.size := by rw [← hp.length_eq]; simp [vals]
  rw [hlen] at hQ
  refine wpAny_pyIter_slot hT PySem.F.slot_set_iter (wpAny_call_entry PySem.F.slot_set_iter hT si_entry_iter ?_ (PySem.F.args_set_iter_1 _))
  unfold Builtin.«frozenset.__iter__» Builtin.Frozenset.slot0 slotArgs
  simp only [List.isEmpty_nil, Bool.not_true, Bool.false_eq_true, ↓reduceIte, bind_assoc, List.length_nil, bne_self_eq_false]
  unfold Builtin.Frozenset.addrOf Builtin.Frozenset.sizeOf
  refine wpAny_bind (wpAny_pure ?_)
  try dsimp only
  refine wpAny_bind (wpAny_pure ?_)
  refine wpAny_bind (wpAny_bind (wpAny_setEntries_of ho rfl hf (wpAny_pure ?_)))
  unfold setDrawn
  refine wpAny_bind (wpAny_bind (wpAny_setState_of ho rfl hf ?_))
  dsimp only
  unfold setsByText
  refine wpAny_bind (wpAny_bind (wpAny_askSetting (wpAny_pure (wpAny_pure ?_))))
  dsimp only
  have hbt : (model prog w).w.params.followText "set-order" = byText w := rfl
  rw [hbt]
  show wpAny _ _ (if (!byText w && (!t.plain && decide (1 < es.size))) = true then _ else _) _ _ _
  have fin0 : ∀ (dr : Drawn), byText w = true ∨ (byText w = false ∧ (!t.plain && decide (1 < es.size)) = false) → wpAny (model prog w) A.in1 (newFields "set_iterator" [rawInt 0, rawInt 0, .ref a, rawInt es.size, rawInt ep] >>= ret) (fun fin s' => ∃ r, fin = .done (.ret r) ∧ ∃ T' r_1, s'.TypeIs r T' ∧ typeLookup (Value.type T') "__next__" = pure (some r_1) ∧ Q r s') (fun e s' => E e s') s := fun dr hm => by
    refine wpAny_bind (wpAny_newObj_type ?_ (by size_fits))
    have hI : (s.heap.push { cls := .type "set_iterator", dict := none, data := .fields ([rawInt 0, rawInt 0, .ref a, rawInt es.size, rawInt ep] : List Value).toArray }).get? s.heap.objs.size = some (itO (.int (0 : Nat) 0) (0 : Nat) a es.size ep) := Heap.get?_push_size _ rfl
    have ha := Heap.get?_push_of_some { cls := .type "set_iterator", dict := none, data := .fields ([rawInt 0, rawInt 0, .ref a, rawInt es.size, rawInt ep] : List Value).toArray } ho
    have hne : a ≠ s.heap.objs.size := Nat.ne_of_lt alt
    have lt2 : ∀ b ∈ [s.heap.objs.size, a], ∃ o, (s.heap.push { cls := .type "set_iterator", dict := none, data := .fields ([rawInt 0, rawInt 0, .ref a, rawInt es.size, rawInt ep] : List Value).toArray }).get? b = some o := fun b hb => by
      simp only [List.mem_cons, List.mem_nil_iff, or_false] at hb
      rcases hb with rfl | rfl
      · exact ⟨_, hI⟩
      · exact ⟨_, ha⟩
    refine wpAny_pure ⟨_, rfl, "set_iterator", _, ⟨_, hI, rfl⟩, si_slot_next.lookup, ?_⟩
    rcases hm with hm | ⟨hm, hd⟩
    · refine hQ _ _ s.drawn [s.heap.objs.size, a] (vals (pickOrder (w.params.setOrder a ep) es).toList) _ _ (walks_text hh hm hf hne) ⟨hI, ha⟩ (fun b o e => Heap.get?_push_of_some _ e) (Nat.le_refl _) (fun b hb => by
        simp only [List.mem_cons, List.mem_nil_iff, or_false] at hb
        rcases hb with rfl | rfl
        · exact .inr (Nat.le_refl _)
        · exact .inl rfl) lt2 (((pick_perm _ _).map _).trans hp) fun i v hi ⟨e, he, hv⟩ => ?_
      rw [hv]
      exact vals_at (hal.perm (pick_perm _ _)) he
    · have hg' : Good false t := by rw [← hm]; exact hg
      refine hQ _ _ s.drawn [s.heap.objs.size, a] (vals es.toList) _ _ (walks_plain hh hm hd hg' hf hne) ⟨hI, ha⟩ (fun b o e => Heap.get?_push_of_some _ e) (Nat.le_refl _) (fun b hb => by
        simp only [List.mem_cons, List.mem_nil_iff, or_false] at hb
        rcases hb with rfl | rfl
        · exact .inr (Nat.le_refl _)
        · exact .inl rfl) lt2 hp fun i v hi ⟨e, he, hv⟩ => ?_
      rw [hv]
      exact vals_at hal he
  cases hm : byText w with
  | true =>
    rw [if_neg (by simp)]
    refine wpAny_bind (wpAny_pure ?_)
    refine wpAny_bind ?_
    unfold setEpoch
    refine wpAny_bind (wpAny_setState_of ho rfl hf (wpAny_pure ?_))
    exact fin0 s.drawn (.inl hm)
  | false =>
    cases hd : (!t.plain && decide (1 < es.size)) with
    | false =>
      rw [if_neg (by simp)]
      refine wpAny_bind (wpAny_pure ?_)
      refine wpAny_bind ?_
      unfold setEpoch
      refine wpAny_bind (wpAny_setState_of ho rfl hf (wpAny_pure ?_))
      exact fin0 s.drawn (.inr ⟨hm, hd⟩)
    | true =>
      rw [if_pos (by rfl)]
      refine wpAny_bind (draw_perm es.size (List.range es.size) (by simp) fun ys dr hys => ?_)
      refine wpAny_bind (wpAny_newTuple ?_ (by rw [List.length_map, hys.length_eq, List.length_range]; exact fits_of_scanBound hb))
      refine wpAny_bind ?_
      unfold setEpoch
      have ho₁ := Heap.get?_push_of_some { cls := .type "tuple", data := .seq ((ys.map fun (i : Nat) => rawInt i).toArray) } ho
      refine wpAny_bind (wpAny_setState_of ho₁ rfl hf (wpAny_pure ?_))
      have hTu : (s.heap.push { cls := .type "tuple", data := .seq ((ys.map fun (i : Nat) => rawInt i).toArray) }).get? s.heap.objs.size = some { cls := .type "tuple", data := .seq ((ys.map fun (p : Nat) => Value.int p 0).toArray) } := Heap.get?_push_size _ rfl
      have hsz : (s.heap.push { cls := .type "tuple", data := .seq ((ys.map fun (i : Nat) => rawInt i).toArray) }).objs.size = s.heap.objs.size + 1 := Heap.size_push ..
      generalize hH : s.heap.push { cls := .type "tuple", data := .seq ((ys.map fun (i : Nat) => rawInt i).toArray) } = H at ho₁ hTu hsz ⊢
      have up : ∀ b o, s.heap.get? b = some o → H.get? b = some o := fun b o e => hH ▸ Heap.get?_push_of_some _ e
      refine wpAny_bind (wpAny_newObj_type ?_ (by size_fits))
      dsimp only
      generalize hO : ({ cls := .type "set_iterator", dict := none, data := .fields ([.ref s.heap.objs.size, rawInt 0, .ref a, rawInt es.size, rawInt ep] : List Value).toArray } : Obj) = O
      have hOe : O = itO (.ref s.heap.objs.size) (0 : Nat) a es.size ep := by rw [← hO]; rfl
      have hI : (H.push O).get? H.objs.size = some (itO (.ref s.heap.objs.size) (0 : Nat) a es.size ep) := by
        have := Heap.get?_push_size H (o := O) (by rw [hOe]; rfl)
        rw [this, hOe]
      have ha := Heap.get?_push_of_some O ho₁
      have hT2 := Heap.get?_push_of_some O hTu
      have hne : a ≠ H.objs.size := by rw [hsz]; exact Nat.ne_of_lt (Nat.lt_succ_of_lt alt)
      have hne2 : s.heap.objs.size ≠ H.objs.size := by rw [hsz]; exact Nat.ne_of_lt (Nat.lt_succ_self _)
      have lt2 : ∀ b ∈ [H.objs.size, a, s.heap.objs.size], ∃ o, (H.push O).get? b = some o := fun b hb => by
        simp only [List.mem_cons, List.mem_nil_iff, or_false] at hb
        rcases hb with rfl | rfl | rfl
        · exact ⟨_, hI⟩
        · exact ⟨_, ha⟩
        · exact ⟨_, hT2⟩
      refine wpAny_pure ⟨_, rfl, "set_iterator", _, ⟨_, hI, rfl⟩, si_slot_next.lookup, ?_⟩
      have hfp : (ys.filterMap (es.toList[·]?)).Perm es.toList := by
        refine (hys.filterMap _).trans ?_
        have := List.filterMap_getElem?_range_length es.toList
        rw [Array.length_toList] at this
        rw [this]
      refine hQ _ _ dr [H.objs.size, a, s.heap.objs.size] (vals (ys.filterMap (es.toList[·]?))) _ _ (walks_drawn hh hys hf hne hne2) ⟨hI, ha, hT2⟩ (fun b o e => Heap.get?_push_of_some _ (up b o e)) (by rw [hsz]; exact Nat.le_succ _) (fun b hb => by
        simp only [List.mem_cons, List.mem_nil_iff, or_false] at hb
        rcases hb with rfl | rfl | rfl
        · exact .inr (by rw [hsz]; exact Nat.le_succ _)
        · exact .inl rfl
        · exact .inr (Nat.le_refl _)) lt2 ((hfp.map _).trans hp) fun i v hi ⟨e, he, hv⟩ => ?_
      rw [hv]
      exact vals_at (hal.perm hfp) he
end
section
variable {prog : Program} {w : World} {A : Around} {E : Value → Shared → Prop} {s : Shared} {a : Addr} {l : List Int}
theorem set_hint {r : Addr} {Q : Bool → Shared → Prop} (hT : s.TypeIs (.ref r) "set") (h : Q false s) : wpAny (model prog w) A (Builtin.List.listLengthHint (.ref r)) Q E s := by
  unfold Builtin.List.listLengthHint
  refine wpAny_bind (wpAny_specialOf hT PySem.F.slot_set_len.lookup ?_)
  generalize hid : ("set.__len__" : String) = id0
  wp_delta
  rw [show splitId id0 = some ("set", "__len__") from by subst hid; decide +kernel]
  subst hid
  refine wpAny_bind (wpAny_isInstance (T := "set") (b := true) hT (by rw [isSubtype_type]; kernel_rfl) ?_)
  refine wpAny_ite_split (fun hab => absurd hab (by decide)) (fun _ => ?_)
  refine wpAny_ite_split (fun _ => ?_) (fun hab => absurd (by decide +kernel) hab)
  refine wpAny_bind (wpAny_typeOf hT ?_)
  exact wpAny_pure h
theorem set_extend {R : Result → Shared → Prop} (hh : A.handled = none) (hS : ISet (byText w) s.heap a l) (D : Addr) (hDa : D ≠ a) (res : Value) (c₀ : Nat) (hD : s.heap.get? D = some { cls := .type "list", data := .seq #[] c₀ })
    (hR : ∀ h' tk dr acc c' (ms : List Int) (Pv : Nat → Value → Prop), (∀ b o, b ≠ D → s.heap.get? b = some o → h'.get? b = some o) → h'.get? D = some { cls := .type "list", dict := none, data := .seq acc c', slots := #[] } → ItemsOf Pv acc l.length → ms.Perm l → (∀ i v, i < l.length → Pv i v → ∃ t, v = .int (ms.getD i 0) t) →
      R (.ok (.ret res)) { s with heap := h', toks := tk, drawn := dr }) (hn : l.length ≤ sizeLine) :
    wpAny (model prog w) A.in1 (Builtin.List.listExtendWith (.ref D) (.ref a) res)
      (fun fin s' => match fin with | .done f => R (.ok f) s' | .again c' => c'.quiet = true ∧ codeAny (model prog w) A c' R s') (fun e s' => R (.error e) s') s := by
  have hT : s.TypeIs (.ref a) "set" := let ⟨_, _, _, ho, _⟩ := hS; ⟨_, ho, rfl⟩
  unfold Builtin.List.listExtendWith
  refine wpAny_bind (wpAny_typeOf (T := "set") hT ?_)
  have h1 : Builtin.List.listSameRef (.ref D) (.ref a) = false := by simp [Builtin.List.listSameRef, hDa]
  have h2 : (Value.type "set" == Value.type "list") = false := by decide
  have h3 : (Value.type "set" == Value.type "tuple") = false := by decide
  simp only [h1, h2, h3, Bool.or_false, Bool.false_eq_true, if_false]
  refine wpAny_bind (iset_iter (A := A.in1) hh hS fun I h₁ dr fp ms Pv St W st0 hup hI hfp hal hms hPv => ?_)
  have hDlt : D < s.heap.objs.size := Heap.lt_size hD
  have hDI : D ≠ I := Nat.ne_of_lt (Nat.lt_of_lt_of_le hDlt hI)
  have key : ∀ (h : Heap) (c₁ tk : Nat), D ∉ fp → St 0 h → (∀ b o, b ≠ D → s.heap.get? b = some o → h.get? b = some o) →
      h.get? D = some { cls := .type "list", data := .seq #[] c₁ } → codeAny (model prog w) A (.builtin "list.extend.loop" ⟨[.ref D, .ref I, res], []⟩) R { s with heap := h, toks := tk, drawn := dr } := by
    intro h c₁ tk hDf hst hk hD₁
    refine codeAny_extend_loopS W.toS hn D hDf res l.length 0 _ #[] c₁ rfl (Nat.zero_le _) hst hD₁ (ItemsOf.nil _) fun s' acc' c' hm hS' hacc => ?_
    rw [Moved.eq_with hm]
    refine hR s'.heap s'.toks dr acc' c' ms Pv (fun b o hb e => hm.heap b o (fun hmem => ?_) (hk b o hb e)) hS' hacc hms hPv
    rcases List.mem_cons.mp hmem with e' | hmem
    · exact hb e'
    · rw [List.mem_singleton.mp hmem] at e
      exact absurd (Heap.lt_size e) (Nat.not_lt.mpr hI)
  have hDfp : D ∉ fp := fun hm => (hfp D hm).elim hDa fun h => absurd hDlt (Nat.not_lt.mpr h)
  have hT₁ : Shared.TypeIs { s with heap := h₁, drawn := dr } (.ref a) "set" := let ⟨_, _, _, ho, _⟩ := hS; ⟨_, hup _ _ ho, rfl⟩
  have hD₁ := hup _ _ hD
  refine wpAny_bind (wpAny_holding (set_hint hT₁ ?_))
  refine wpAny_ite_split (fun _ => ?_) (fun _ => wpAny_pure ⟨plainId_quiet PySem.F.plain_extend_loop _, key _ c₀ _ hDfp st0 (fun b o _ e => hup b o e) hD₁⟩)
  refine wpAny_bind (wpAny_rule ?_)
  refine wpAny_bind ?_
  show wpAny _ _ (updateSeq D (·.push .none) >>= fun _ => updateSeq D (·.pop)) _ _ _
  refine wpAny_bind (wpAny_updateSeq hD₁ rfl ?_)
  have hD₂ := Heap.get?_update_self (Obj.mapSeq (·.push Value.none)) hD₁ rfl
  refine wpAny_updateSeq (hz := by seq_fits) hD₂ rfl ?_
  have hD₃ := Heap.get?_update_self (Obj.mapSeq (·.pop)) hD₂ rfl
  refine wpAny_pure ⟨plainId_quiet PySem.F.plain_extend_loop _, key _ _ _ hDfp ?_ (fun b o hb e => ?_) hD₃⟩
  · refine W.frame 0 _ _ st0 fun b hb o e => ?_
    have hbD : b ≠ D := fun h => hDfp (h ▸ hb)
    exact (Heap.get?_update_other _ _ (Ne.symm hbD)).trans ((Heap.get?_update_other _ _ (Ne.symm hbD)).trans e)
  · exact (Heap.get?_update_other _ _ (Ne.symm hb)).trans ((Heap.get?_update_other _ _ (Ne.symm hb)).trans (hup b o e))
theorem ints_of {ms : List Int} : ∀ {vs : List Value} {n : Nat}, vs.length = n → ms.length = n → (∀ (j : Nat) (v : Value), vs[j]? = some v → ∃ t : Tok, v = Value.int (ms.getD j 0) t) → IntsAre vs ms := by
  induction ms with
  | nil =>
    intro vs n h1 h2 _
    have : vs = [] := List.eq_nil_of_length_eq_zero (by simp at h2; exact ar361 h1 h2)
    subst this; exact .nil
  | cons m r ih =>
    intro vs n h1 h2 h3
    cases vs with
    | nil => simp at h1 h2; exact (ar362 h2 h1).elim
    | cons v vs =>
      obtain ⟨t, ht⟩ := h3 0 v rfl
      have e : v = .int m t := ht
      subst e
      exact .cons m t (ih (n := n - 1) (by simp at h1; exact ar363 h1) (by simp at h2; exact ar363 h2) fun j u hu => by simpa using h3 (j + 1) u (by simpa using hu))
theorem set_collect {R : List Value → Shared → Prop} (hh : A.handled = none) (hS : ISet (byText w) s.heap a l) (hn : l.length ≤ sizeLine)
    (h : ∀ h' tk dr (vs : List Value) (ms : List Int), (∀ b o, s.heap.get? b = some o → h'.get? b = some o) → IntsAre vs ms → ms.Perm l → R vs { s with heap := h', toks := tk, drawn := dr }) :
    wpAny (model prog w) A (collect (.ref a)) R E s := by
  have alt : a < s.heap.objs.size := let ⟨_, _, _, ho, _⟩ := hS; Heap.lt_size ho
  unfold collect
  refine wpAny_bind (wpAny_runValue (codeAny_builtin entry_proto_collect' ?_))
  rw [Around.under_plainId PySem.F.plain_proto_collect _]
  show wpAny _ A.in1 (newList [] >>= fun l => again (.builtin "list.__iadd__" ⟨[l, .ref a], []⟩)) _ _ s
  refine wpAny_bind (wpAny_newObj_type ?_)
  refine wpAny_pure ⟨plainId_quiet PySem.F.plain_list_iadd _, codeAny_builtin entry_list_iadd' ?_⟩
  rw [Around.under_plainId PySem.F.plain_list_iadd _]
  have hS₁ : (s.heap.push { cls := .type "list", data := .seq ([] : List Value).toArray }).get? s.heap.objs.size = some { cls := .type "list", data := .seq #[] } := Heap.get?_push_size _ rfl
  show wpAny _ A.in1 (Builtin.List.listExtendWith (.ref s.heap.objs.size) (.ref a) (.ref s.heap.objs.size)) _ _ _
  have hS' : ISet (byText w) (s.heap.push { cls := .type "list", data := .seq ([] : List Value).toArray }) a l := let ⟨es, ep, t, ho, r⟩ := hS; ⟨es, ep, t, Heap.get?_push_of_some _ ho, r⟩
  have key := set_extend (prog := prog) (A := A) (s := { s with heap := s.heap.push { cls := .type "list", data := .seq ([] : List Value).toArray } })
    (R := fun (q : Result) (s' : Shared) => (Ex6 fun (h' : Heap) (tk : Nat) (dr : Drawn) (acc' : Array Value) (c' : Nat) (ms : List Int) => And6 (q = .ok (.ret (.ref s.heap.objs.size))) (s' = { s with heap := h', toks := tk, drawn := dr }) ((∀ b o, s.heap.get? b = some o → h'.get? b = some o)) (h'.get? s.heap.objs.size = some { cls := .type "list", dict := none, data := .seq acc' c', slots := #[] }) (IntsAre acc'.toList ms) (ms.Perm l)))
    hh hS' s.heap.objs.size (Nat.ne_of_gt alt) (.ref s.heap.objs.size) 0 hS₁
    (fun h' tk dr acc' c' ms Pv hk hD hacc hms hPv => ⟨h', tk, dr, acc', c', ms, rfl, rfl, fun b o e => hk b o (Nat.ne_of_lt (Heap.lt_size e)) (Heap.get?_push_of_some _ e), hD,
      ints_of (n := l.length) (by rw [Array.length_toList]; exact hacc.1) hms.length_eq (fun j v hv => by
        have hj : j < l.length := by
          have := (List.getElem?_eq_some_iff.mp hv).1
          rw [Array.length_toList, hacc.1] at this; exact this
        exact hPv j v hj (hacc.2 j v (by rw [← Array.getElem?_toList]; exact hv))), hms⟩) hn
  refine wpAny_mono key (fun fin s' x => ?_) fun e s' x => ?_
  · cases fin with
    | done f =>
      obtain ⟨h', tk, dr, acc', c', ms, e, rfl, hk, hS', hacc, hms⟩ := x
      cases e
      show wpAny _ A (load s.heap.objs.size >>= _) _ _ _
      refine wpAny_bind (wpAny_load hS' ?_)
      exact wpAny_pure (h h' tk dr acc'.toList ms hk hacc hms)
    | again c₁ =>
      refine ⟨x.1, codeAny_mono x.2 fun q s₂ y => ?_⟩
      obtain ⟨h', tk, dr, acc', c', ms, rfl, rfl, hk, hS', hacc, hms⟩ := y
      show wpAny _ A (load s.heap.objs.size >>= _) _ _ _
      refine wpAny_bind (wpAny_load hS' ?_)
      exact wpAny_pure (h h' tk dr acc'.toList ms hk hacc hms)
  · obtain ⟨_, _, _, _, _, _, e', _⟩ := x
    cases e'
end
theorem set_sorted {prog : Program} {w : World} {A : Around} {E : Value → Shared → Prop} {s : Shared} {a : Addr} {l : List Int} {Q : Value → Shared → Prop} (hh : A.handled = none) (hS : ISet (byText w) s.heap a l) (h64 : l.length < 64)
    (h : ∀ D h' tk dr (out : Array Value) (ms : List Int) e, s.heap.get? D = none → h'.get? D = some (seqObj "list" out e) → (∀ b o, s.heap.get? b = some o → h'.get? b = some o) → IntsAre out.toList ms → ms.Perm l → ms.Pairwise (· ≤ ·) → Q (.ref D) { s with heap := h', toks := tk, drawn := dr }) :
    wpAny (model prog w) A (call (.builtin "sorted") [.ref a]) Q E s := by
  refine Calls.call_function_entry kind_sorted plain_sorted entry_sorted (args_sorted1 _) ?_
  unfold Builtin.«sorted»
  refine wpAny_bind (m := checkCount "sorted" 1 1 _) (wpAny_pure ?_)
  refine wpAny_bind (set_collect (A := A.in1) hh hS (by rw [sizeLine_eq]; exact ar364 h64) fun h₁ tk dr vs ms hk hI hms => ?_)
  have hvl : vs.length < 64 := by rw [hI.length, hms.length_eq]; exact h64
  refine wpAny_bind (wpAny_newList ?_ (by rw [sizeLine_eq]; exact ar364 hvl))
  have hoL : (h₁.push (seqObj "list" vs.toArray 0)).get? h₁.objs.size = some (seqObj "list" vs.toArray 0) := Heap.get?_push_size _ rfl
  refine wpAny_bind (wpAny_holding (wpAny_call_entry slot_list_sort ⟨_, hoL, rfl⟩ entry_list_sort (list_sort_tree hoL hI hvl fun out ns' a1 a2 a3 => ⟨_, rfl, ?_⟩) (args_list_sort _)))
  obtain ⟨e, he⟩ := sortedHeap_at (out := out) hoL
  have le1 : s.heap.get? h₁.objs.size = none := by
    cases q : s.heap.get? h₁.objs.size with
    | none => rfl
    | some o => exact absurd (Heap.lt_size (hk _ _ q)) (Nat.lt_irrefl _)
  refine wpAny_pure ⟨_, rfl, h _ _ tk dr out ns' e le1 he (fun b o q => ?_) a1 (a2.trans hms) a3⟩
  have hb := Heap.lt_size (hk b o q)
  rw [sortedHeap_old (Nat.ne_of_lt hb) (by rw [size_push']; exact Nat.lt_succ_of_lt hb)]
  exact Heap.get?_push_of_some _ (hk b o q)
theorem ints_vals {g : PH} : ∀ {vs : List Value} {ns : List Int}, DatAll g vs (ns.map PV.int) → IntsAre vs ns
  | [], [], _ => .nil
  | [], _ :: _, h => nomatch h
  | _ :: _, [], h => nomatch h
  | _ :: _, n :: _, .cons h r => by cases h; exact .cons n _ (ints_vals r)
theorem vals_ints {g : PH} : ∀ {vs : List Value} {ns : List Int}, IntsAre vs ns → DatAll g vs (ns.map PV.int)
  | _, _, .nil => .nil
  | _, _, .cons n t r => .cons (.int n t) (vals_ints r)
theorem ded_len : ∀ (ns l : List Int), (ns.foldl ded1 l).length ≤ l.length + ns.length
  | [], l => by simp
  | k :: r, l => by
    have := ded_len r (ded1 l k)
    have := ded1_len l k
    simp only [List.foldl_cons, List.length_cons]; lia
theorem aw_sortset (fx : Fx G pf) (hk : k.Ok) {e : Expr} {p1 p2 p3 p4 : Pos} (hx1 : k.env.kindOf ("sorted" : Str) = some .globalImplicit) (hx2 : k.env.kindOf ("set" : Str) = some .globalImplicit)
    (h : AW G pf k σ (eval e k.env) (fun σ₁ D => ∃ ns : List Int, D = .d (.lst (ns.map PV.int)) ∧ ns.length < 64 ∧ ∀ ms : List Int, ms.Perm (ns.foldl ded1 []) → ms.Pairwise (· ≤ ·) → P σ₁ (.d (.lst (ms.map PV.int)))) F)
    (hs₁ : starEach [e] k.env = (false, eval e k.env) :: starEach [] k.env := by rfl) (hp : (backTo p2 (starEach [e] k.env)).any (·.1) = false := by rfl)
    (hs₂ : starEach [.Call (.Name ("set" : Str) p1) [e] [] p2] k.env = (false, eval (.Call (.Name ("set" : Str) p1) [e] [] p2) k.env) :: starEach [] k.env := by rfl) (hp₂ : (backTo p4 (starEach [.Call (.Name ("set" : Str) p1) [e] [] p2] k.env)).any (·.1) = false := by rfl) :
    AW G pf k σ (eval (.Call (.Name ("sorted" : Str) p3) [.Call (.Name ("set" : Str) p1) [e] [] p2] [] p4) k.env) P F := by
  intro keep hid s g Q E hK S ok er
  refine wpAny_Call_NameR (aw_blt (v := .builtin "sorted") (P := fun σ₁ D => σ₁ = σ ∧ D = .v (.builtin "sorted")) (F := F) (pf := pf) fx.ok hk hx1 (fx.blt "sorted" (by decide)) (by kernel_rfl) ⟨rfl, rfl⟩ (by decide) (by decide) keep hid s g _ E hK S (fun σ₁ D v s₁ g₁ h₁ l₁ S₁ i₁ => ?_) er)
  obtain ⟨rfl, rfl⟩ := h₁
  cases i₁
  refine callWith_any fx.ok (.blt _) hp₂ ?_
  rw [hs₂]
  refine spliced_cons ?_
  refine wpAny_Call_NameR (aw_blt (v := .type "set") (P := fun σ₂ D => σ₂ = σ₁ ∧ D = .v (.type "set")) (F := F) (pf := pf) fx.ok hk hx2 (fx.blt "set" (by decide)) (by kernel_rfl) ⟨rfl, rfl⟩ (by decide) (by decide) keep hid s₁ g₁ _ E hK S₁ (fun σ₂ D v s₂ g₂ h₂ l₂ S₂ i₂ => ?_) (fun n e s' f x => er n e s' f (x.le l₁)))
  obtain ⟨rfl, rfl⟩ := h₂
  cases i₂
  have hal : AL G pf k σ₂ (spliced (backTo p2 (starEach [e] k.env))) (fun σ₃ Ds => ∃ ns : List Int, Ds = [.d (.lst (ns.map PV.int))] ∧ ns.length < 64 ∧ ∀ ms : List Int, ms.Perm (ns.foldl ded1 []) → ms.Pairwise (· ≤ ·) → P σ₃ (.d (.lst (ms.map PV.int)))) F :=
    al_cons (h.mono (fun σ' D ⟨xs, e, p⟩ => al_nil ⟨xs, by rw [e], p⟩) fun _ x => x) hs₁
  refine callWith_any fx.ok (.type _) hp (hal keep hid s₂ g₂ _ E hK S₂ (fun σ₃ Ds vs s₃ g₃ h₃ l₃ S₃ i₃ => ⟨S₃.stays, ?_⟩) fun n e s' f x => er n e s' f (x.le (l₁.trans l₂)))
  obtain ⟨ns, rfl, hn, hP⟩ := h₃
  cases i₃ with | cons i₃ r => cases r; cases i₃ with | @lst a o us _ ha hso hall =>
  have hL : s₃.heap.IsList a us.toArray := ⟨_, S₃.gh _ _ ha, hso.cls, hso.data⟩
  have hI := ints_vals hall
  have hul : us.length = ns.length := hI.length
  refine iset_call hk.hand hL (by simpa using hI) (by simp only [List.size_toArray, hul]; show _ < 4096; exact Nat.lt_of_le_of_lt hn (by decide)) fun h₄ tk hS4 hk4 => ?_
  have S₄ := (S₃.same (s' := { s₃ with heap := h₄, toks := tk }) hK (.of hk4))
  refine spliced_nil ⟨fun b o e => hk4 b o (S₃.stays b o e), ?_⟩
  have dl := ded_len ns []
  refine set_sorted (s := { s₃ with heap := h₄, toks := tk }) hk.hand hS4 (by simp at dl; exact Nat.lt_of_le_of_lt dl hn) fun D h₅ tk5 dr out ms e hD hoD hk5 hI5 hp5 hs5 => ?_
  have S₅ := S₄.same (s' := { s₃ with heap := h₅, toks := tk5, drawn := dr }) hK (.of hk5)
  obtain ⟨f1, f2, f3, f4⟩ := S₄.newAt hK hD
  obtain ⟨S₆, le⟩ := S₅.adoptG hK f1 f2 f3 f4 hoD
  exact ok _ _ _ _ _ (hP ms hp5 hs5) (l₁.trans (l₂.trans (l₃.trans le))) S₆ (.lst PH.ext_self ⟨rfl, rfl, rfl, e, by simp⟩ (vals_ints hI5))
noncomputable def isPut (rule : Str) (cl ah : List Int) (n : Nat) : Bool := rulesL.contains rule && (ah.all fun o => decide (0 ≤ o) && decide (o < n)) && (!cl.contains 0) && decide ((cl.map absI).Pairwise (· < ·))
theorem sorted_eq : ∀ {a b : List Int}, a.Perm b → a.Pairwise (· ≤ ·) → b.Pairwise (· ≤ ·) → a = b
  | [], b, h, _, _ => (List.perm_nil.mp h.symm).symm ▸ rfl
  | x :: r, [], h, _, _ => by have := h.length_eq; simp at this
  | x :: r, y :: t, h, h1, h2 => by
    rw [List.pairwise_cons] at h1 h2
    have e : x = y := by
      have hx : x ∈ y :: t := h.mem_iff.mp (.head _)
      have hy : y ∈ x :: r := h.mem_iff.mpr (.head _)
      rcases List.mem_cons.mp hx with q | q
      · exact q
      · rcases List.mem_cons.mp hy with q' | q'
        · exact q'.symm
        · have := h1.1 y q'; have := h2.1 x q; lia
    subst e
    rw [sorted_eq (List.Perm.cons_inv h) h1.2 h2.2]
theorem ints_inj : ∀ {a b : List Int}, a.map PV.int = b.map PV.int → a = b
  | [], [], _ => rfl
  | [], _ :: _, h => by simp at h
  | _ :: _, [], h => by simp at h
  | x :: r, y :: t, h => by
    simp only [List.map_cons, List.cons.injEq, PV.int.injEq] at h
    rw [h.1, ints_inj h.2]
theorem sortset_eq {ns ms : List Int} (hp : ms.Perm (ns.foldl ded1 [])) (hs : ms.Pairwise (· ≤ ·)) : eqb (.lst (ns.map PV.int)) (.lst (ms.map PV.int)) = decide (ns.Pairwise (· < ·)) := by
  have nd : ms.Nodup := hp.nodup_iff.mpr (ded_nodup ns [] List.nodup_nil)
  rw [Bool.eq_iff_iff, eqb_iff, decide_eq_true_iff]
  constructor
  · intro h
    have : ns = ms := ints_inj (by simpa using h)
    subst this
    exact (List.pairwise_and_iff.mpr ⟨hs, nd⟩).imp fun ⟨a, b⟩ => by lia
  · intro h
    have nn : ns.Nodup := h.imp fun q => by exact ar367 q
    have hm : ms.Perm ns := (List.perm_ext_iff_of_nodup nd nn).mpr fun x => by
      rw [hp.mem_iff, ded_mem]; simp
    rw [sorted_eq hm hs (h.imp fun q => by exact Int.le_of_lt q)]
theorem any_zero (cl : List Int) : ((cl.map PV.int).any fun y => eqb y (.int 0)) = cl.contains 0 := by
  induction cl with
  | nil => rfl
  | cons a r ih =>
    rw [List.map_cons, List.any_cons, ih, List.contains_cons]
    congr 1
    rw [Bool.eq_iff_iff, eqb_iff, beq_iff_eq]
    exact ⟨fun h => by cases h; rfl, fun h => by rw [← h]⟩
set_option maxHeartbeats 1000000 in
theorem c_is_put (fx : Fx G pf) (hk : k.Ok) {rule : Str} {cl ah : List Int} {n : Nat} (hr : Asc rule) (hcl : cl.length < 64) (hah : ah.length ≤ 100000) (room : Room k.A 10)
    (h : P σ (.d (.bool (isPut rule cl ah n)))) : AC G pf k σ (.ref 328) [.d (.str rule), .d (.lst (cl.map PV.int)), .d (.lst (ah.map PV.int)), .d (.int n)] P F := by
  refine (acc_defC fx.ok hk (fx.k (a := 328) (i := 31) (by decide)) (n := 9) room (own := σ.mu) (muIn := []) (by simp) (Ds := [.d (.str rule), .d (.lst (cl.map PV.int)), .d (.lst (ah.map PV.int)), .d (.int n)]) ["rule", "clause", "ahead", "number"] (fun name doc pm an cdv ct vs hvs => ?_)
    [("ahead", .d (.lst (ah.map PV.int))), ("clause", .d (.lst (cl.map PV.int))), ("rule", .d (.str rule))] (fun L => [(L + 1, .cell (.d (.int n)))]) (fun L x hx => ?_) (fun g vs hv x D e => ?_) (fun L g vs hv p hp => ?_) (fun L => ?_) rfl rfl rfl fun L cd hk' hF' rm hlt => ?_).ac
  · obtain ⟨a, b, c, d, rfl⟩ := len4 hvs; rfl
  · simp only [List.mem_cons, List.mem_nil_iff, or_false] at hx
    rcases hx with rfl | rfl | rfl | rfl
    · exact .inl rfl
    · exact .inl rfl
    · exact .inl rfl
    · exact .inr ⟨rfl, rfl⟩
  · obtain ⟨a, b, c, d, rfl⟩ := len4 (show vs.length = 4 from hv.length)
    cases hv with | cons i1 r => cases r with | cons i2 r => cases r with | cons i3 r => cases r with | cons i4 r =>
    rw [List.lookup_cons] at e
    cases q1 : x == ("ahead" : Str) with
    | true => rw [q1] at e; obtain rfl := Option.some.inj e; rw [eq_of_beq q1]; exact ⟨c, rfl, i3⟩
    | false =>
      rw [q1] at e; dsimp only at e
      rw [List.lookup_cons] at e
      cases q2 : x == ("clause" : Str) with
      | true => rw [q2] at e; obtain rfl := Option.some.inj e; rw [eq_of_beq q2]; exact ⟨b, rfl, i2⟩
      | false =>
        rw [q2] at e; dsimp only at e
        rw [List.lookup_cons] at e
        cases q3 : x == ("rule" : Str) with
        | true => rw [q3] at e; obtain rfl := Option.some.inj e; rw [eq_of_beq q3]; exact ⟨a, rfl, i1⟩
        | false => rw [q3] at e; simp at e
  · obtain ⟨a, b, c, d, rfl⟩ := len4 (show vs.length = 4 from hv.length)
    cases hv with | cons i1 r => cases r with | cons i2 r => cases r with | cons i3 r => cases r with | cons i4 r =>
    rw [List.mem_singleton.mp hp]
    exact ⟨"number", (by show (("number" : Str), L + 1) ∈ [(("number" : Str), L + 1)]; simp), rfl, d, rfl, i4⟩
  · simp
  have sl := sl_eq
  have un := rm.2
  obtain ⟨rv, hrv, hrd⟩ := fx.lrules
  unfold isPut at h
  refine ax_l4 ?_; intro z1a z1b z1c z1d; refine ax_cons (ax_if (ab_bool (ab_or (ab_cmp (aw_loc hk' rfl rfl ?_)))))
  refine aw_globD fx.ok hk' rfl hrv hrd ?_
  refine ao_notin_tup (n := 0) (m := 0) hr.ok (oks_strs rulesL_asc) (by show _ < 9900; exact ar369 un) (at_bool ?_)
  rw [any_strs]
  have fin : ∀ (loc : List (Str × Dsc)) mu D, P σ D → (Ex2 fun ext muOut => And3 ((⟨loc, mu⟩ : St).mu = ext ++ muOut) (muOut.map (·.1) = ([] : List (Addr × MO)).map (·.1)) (P ⟨σ.loc, σ.mu ++ muOut⟩ D)) :=
    fun loc mu D p => ⟨mu, [], by simp, rfl, by simpa using p⟩
  cases q1 : rulesL.contains rule with
  | false =>
    rw [q1, Bool.false_and, Bool.false_and, Bool.false_and] at h
    rw [if_pos (by rfl), if_pos rfl]
    (refine ax_cons ?_; refine ax_ret ?_; refine aw_bool ?_)
    exact fin _ _ _ h
  | true =>
    rw [q1, Bool.true_and] at h
    first | refine ite_f ?_ | rw [if_neg (by decide)]
    refine ab_or (ab_cmp (aw_freeze (aw_comp hk' (cl := [("number", L + 1)]) rfl ?_)))
    refine aw_loc (by assumption) rfl rfl ?_
    refine ⟨_, src_list hk', by rw [List.length_map]; exact ar47 hah sl, fun C hkC => ?_⟩
    refine acm_map PV.int (fun o => !(decide (0 ≤ o) && decide (o < n))) (fun o => .d (.int o)) [(L + 1, .cell (.d (.int n)))] (fun c hc loc => ?_) (fun loc => ?_) _
    · refine as_name ?_
      (refine an_loc (by assumption) rfl ?_; (try dsimp only))
      refine ab_tests_one (ab_not (ab_chain ?_))
      (refine aw_int ?_; refine aw_loc (by assumption) rfl rfl ?_)
      refine ao_le (at_bool ?_)
      by_cases c0 : (0 : Int) ≤ c
      · rw [decide_eq_true c0, if_pos rfl]
        refine aw_cell hkC rfl rfl (.head _) ?_
        refine ao_lt (at_bool ⟨by rw [Bool.true_and], rfl, fun _ => ?_⟩)
        exact aw_loc hkC rfl rfl ⟨rfl, rfl⟩
      · rw [decide_eq_false c0, if_neg (by decide)]
        refine ⟨by rw [Bool.false_and], rfl, fun _ => ?_⟩
        exact aw_loc hkC rfl rfl ⟨rfl, rfl⟩
    refine ⟨[], [(L + 1, .cell (.d (.int n)))], rfl, rfl, fun a => ⟨a, (ah.filter fun (o : Int) => !(decide (0 ≤ o) && decide (o < n))).map PV.int, [(L + 1, .cell (.d (.int n)))], rfl, by simp [Function.comp_def], ?_⟩⟩
    refine aw_listD (al_nil ⟨[], rfl, Nat.zero_le _, ?_⟩)
    refine ao_ne (n := 1) (m := 1) (.lst oks_ints) (.lst (.nil _)) (rm.less (by exact Nat.zero_le _)) (by show _ < 9900; exact ar371 un) (at_bool ?_)
    have eA : eqb (PV.lst ((ah.filter fun (o : Int) => !(decide (0 ≤ o) && decide (o < n))).map PV.int)) (.lst []) = ah.all fun o => decide (0 ≤ o) && decide (o < n) := by
      rw [Bool.eq_iff_iff, eqb_iff, List.all_eq_true]
      simp [List.filter_eq_nil_iff]
    rw [eA]
    cases q2 : (ah.all fun o => decide (0 ≤ o) && decide (o < n)) with
    | false =>
      rw [q2, Bool.false_and, Bool.false_and] at h
      rw [if_pos (by rfl), if_pos rfl]
      (refine ax_l1 ?_; intro z4a; refine ax_cons ?_; refine ax_ret ?_; refine aw_bool ?_)
      exact fin _ _ _ h
    | true =>
      rw [q2, Bool.true_and] at h
      first | refine ite_f ?_ | rw [if_neg (by decide)]
      refine ab_or_nil ?_
      first | refine ite_f ?_ | rw [if_neg (by decide)]
      refine ax_nil ?_
      refine ax_l1 ?_; intro z6a; refine ax_cons (ax_comp hk' (cl := []) rfl (aw_loc hk' rfl rfl ⟨_, src_list hk', by rw [List.length_map]; exact ar372 hcl sl, fun C hkC => ?_⟩) rfl)
      refine acm_map PV.int (fun o => true) (fun o => .d (.int (absI o))) [(L + 1, .cell (.d (.int n)))] (fun c hc loc => ?_) (fun loc => ?_) _
      · refine as_name ?_
        (refine an_loc (by assumption) rfl ?_; (try dsimp only))
        refine ab_tests_nil ⟨rfl, rfl, fun _ => ?_⟩
        refine aw_bl fx hkC (v := .builtin "abs") (by decide) (by kernel_rfl) (.blt _) rfl ?_
        (refine al_cons ?_; refine aw_loc (by assumption) rfl rfl ?_; refine al_nil ?_)
        exact ac_abs ⟨rfl, rfl⟩
      refine ⟨[], [(L + 1, .cell (.d (.int n)))], rfl, rfl, fun aP => ?_⟩
      rw [List.filter_eq_self.mpr (fun _ _ => rfl), show cl.map (fun o => Dsc.d (.int (absI o))) = ((cl.map absI).map PV.int).map Dsc.d by simp [Function.comp_def]]
      refine ax_freeze (a := aP) (xs := (cl.map absI).map PV.int) (mu' := [(L + 1, .cell (.d (.int n)))]) (loc' := [("places", .d (.lst ((cl.map absI).map PV.int))), ("clause", .d (.lst (cl.map PV.int)))]) (List.Perm.refl _) (fun y D e => ?_) ?_
      · rw [List.lookup_cons] at e
        cases q3 : y == ("places" : Str) with
        | true => rw [q3] at e; obtain rfl := Option.some.inj e; rw [eq_of_beq q3]; exact .inr ⟨rfl, rfl⟩
        | false =>
          rw [q3] at e; dsimp only at e
          rw [List.lookup_cons] at e
          cases q4 : y == ("clause" : Str) with
          | true => rw [q4] at e; obtain rfl := Option.some.inj e; rw [eq_of_beq q4]; exact .inl rfl
          | false => rw [q4] at e; simp at e
      refine ax_l1 ?_; intro z7a; refine ax_cons (ax_ret (aw_and2 ?_))
      (refine aw_cmp ?_; refine aw_int ?_; refine aw_loc (by assumption) rfl rfl ?_)
      refine ao_notin_list (n := 0) (m := 0) (.int _ _) oks_ints (by show _ + 1 + 0 < 9900; exact ar369 un) ?_
      rw [any_zero]
      cases q5 : cl.contains 0 with
      | true =>
        rw [q5, Bool.not_true, Bool.false_and] at h
        refine ⟨false, rfl, ?_⟩
        first | refine ite_f ?_ | rw [if_neg (by decide)]
        exact fin _ _ _ h
      | false =>
        rw [q5, Bool.not_false, Bool.true_and] at h
        refine ⟨true, rfl, ?_⟩
        first | refine ite_t ?_ | rw [if_pos rfl]
        (refine aw_cmp ?_; refine aw_loc (by assumption) rfl rfl ?_)
        refine aw_sortset fx hk' rfl rfl (aw_loc hk' rfl rfl ⟨cl.map absI, rfl, by rw [List.length_map]; exact hcl, fun ms hp hs => ?_⟩)
        refine ao_eq (n := 1) (m := 1) (.lst oks_ints) (.lst oks_ints) (rm.less (by exact Nat.zero_le _)) (by show _ < 9900; exact ar371 un) ?_
        rw [sortset_eq hp hs]
        exact fin _ _ _ h
theorem PVoks.up {n m : Nat} {ds : List PV} (h : PVoks n ds) (k : n ≤ m) : PVoks m ds :=
  PVoks.rec (motive_1 := fun n d _ => ∀ m, n ≤ m → PVok m d) (motive_2 := fun n ds _ => ∀ m, n ≤ m → PVoks m ds) (fun _ _ _ => .none _) (fun _ i _ _ => .int _ i) (fun _ x h _ _ => .str _ x h) (fun {n ds} _ ih m k => by
      cases m with
      | zero => exact absurd k (Nat.not_succ_le_zero _)
      | succ m => exact .tup (ih m (Nat.le_of_succ_le_succ k))) (fun {n ds} _ ih m k => by
      cases m with
      | zero => exact absurd k (Nat.not_succ_le_zero _)
      | succ m => exact .lst (ih m (Nat.le_of_succ_le_succ k)))
    (fun _ _ _ => .nil _) (fun _ _ a r m k => .cons (a m k) (r m k)) h m k
theorem PVoks.app {n : Nat} {ds es : List PV} (h : PVoks n ds) (k : PVoks n es) : PVoks n (ds ++ es) :=
  PVoks.rec (motive_1 := fun _ _ _ => True) (motive_2 := fun n ds _ => PVoks n es → PVoks n (ds ++ es)) (fun _ => trivial) (fun _ _ => trivial) (fun _ _ _ => trivial) (fun _ _ => trivial) (fun _ _ => trivial) (fun _ k => k) (fun a _ _ r k => .cons a (r k)) h k
theorem opens_suf {p r : List Str} : opens r ≤ opens (p ++ r) := by simp [opens]
theorem opens_cons (w : Str) (r : List Str) : opens (w :: r) = (if w == ("(" : Str) then 1 else 0) + opens r := by
  unfold opens
  rw [List.filter_cons]
  split <;> simp; exact Nat.add_comm _ _
theorem thg_ok : ∀ (n : Nat) (b : Bool) (r : List Str) (acc ds : List PV) (r' : List Str) (D : Nat), thg n b r acc = some (ds, r') → (∀ y ∈ r, Asc y) → opens r ≤ D → PVoks D acc → PVoks D ds
  | 0, _, _, _, _, _, _, h, _, _, _ => by cases h
  | n + 1, b, [], acc, ds, r', D, h, _, _, k => by
    rw [thg_nil] at h
    split at h
    · exact no_ns h
    · cases h; exact k
  | n + 1, b, w :: r, acc, ds, r', D, h, ha, ho, k => by
    rw [thg_cons] at h
    rw [opens_cons] at ho
    have hr : ∀ y ∈ r, Asc y := fun y hy => ha y (.tail _ hy)
    by_cases q1 : (w == (")" : Str)) = true
    · rw [if_pos q1] at h
      split at h
      · cases h; exact k
      · exact no_ns h
    · rw [if_neg q1] at h
      by_cases q2 : (w == ("(" : Str)) = true
      · rw [if_pos q2] at h ho
        split at h
        · exact no_ns h
        · rename_i ds' r'' e
          obtain ⟨E, rfl⟩ : ∃ E, D = E + 1 := ⟨D - 1, by exact (Nat.sub_add_cancel (Nat.le_trans (Nat.le_add_right _ _) ho)).symm⟩
          have k1 := thg_ok n true r [] ds' r'' E e hr (by exact ar376 ho) (.nil _)
          obtain ⟨p, rfl⟩ := thg_suf _ _ _ _ _ _ e
          have := opens_suf (p := p) (r := r'')
          exact thg_ok n b r'' _ ds r' (E + 1) h (fun y hy => hr y (List.mem_append.mpr (.inr hy))) (by exact ar377 ho this) (k.app (.cons (.tup k1) (.nil _)))
      · rw [if_neg q2] at h ho
        split at h
        · exact thg_ok n b r _ ds r' D h hr (by exact Nat.le_trans (Nat.le_add_left _ _) ho) (k.app (.cons (.none _) (.nil _)))
        · refine thg_ok n b r _ ds r' D h hr (by exact Nat.le_trans (Nat.le_add_left _ _) ho) (k.app (.cons ?_ (.nil _)))
          unfold atom
          split
          · exact (ha w (.head _)).ok
          · exact .int _ _
theorem nread_ok {x : Str} (hsp : Asc (spaced x)) : PVoks (opens (lwords (spaced x))) (nread x) := by
  unfold nread
  split
  · rename_i ds r e
    split
    · exact thg_ok _ _ _ _ _ _ _ e (lwords_asc hsp) (Nat.le_refl _) (.nil _)
    · exact .nil _
  · exact .nil _
inductive LR where
  | bad (n : Int)
  | ok (v : PV)
theorem no_lr {n : Int} {v : PV} {P : Prop} (h : LR.bad n = LR.ok v) : P := nomatch h
noncomputable def lrD : LR → PV
  | .bad n => .int n
  | .ok v => v
noncomputable def stepV (c : Str) (cl ah : List Int) (note : PV) : PV := .tup [.str c, .tup (cl.map PV.int), .tup (ah.map PV.int), note]
noncomputable def lstepR (n : Nat) (row : Str) (wh : Int) : LR :=
  match cut row "|" with
  | [q0, q1, q2, q3] => (match lwords q0 with
    | [_, b, c] => if b == strI n then (match lnums q1 with
        | none => .bad wh
        | some cl => match lnums q2 with
          | none => .bad wh
          | some ah => match nread q3 with
            | [] => .bad wh
            | note :: _ => if isPut c cl ah n then .ok (stepV c cl ah note) else .bad n) else .bad wh
    | _ => .bad wh)
  | _ => .bad wh
structure Lo (row : Str) : Prop where
  len : row.length ≤ 30000
  asc : Asc row
  sp : ∀ q ∈ cut row "|", (spaced q).length ≤ 100000 - 1 ∧ Asc (spaced q) ∧ opens (lwords (spaced q)) ≤ 600 ∧ (lwords q).length < 64
noncomputable def isN : PV → Bool
  | .none => true
  | _ => false
theorem ao_isN {d : PV} (h : P σ (.d (.bool (isN d)))) : AO2 G pf k σ (compareOp .Is) (.d d) (.d .none) P F := ao_is_none (by cases d <;> exact h)
theorem c_lstep (fx : Fx G pf) (hk : k.Ok) {aS : Addr} {steps : List PV} {row : Str} {wh : Int} {own : List (Addr × MO)} (hmu : σ.mu.Perm ((aS, .lst (steps.map Dsc.d)) :: own)) (hr : Lo row) (hn : steps.length ≤ 100000) (room : Room k.A 607)
    (h : P ⟨σ.loc, (aS, .lst (steps.map Dsc.d)) :: own⟩ (.d (lrD (lstepR steps.length row wh)))) : AC G pf k σ (.ref 335) [.d (.str row), .m aS, .d (.int wh)] P F := by
  refine AC.perm (mu := own ++ [(aS, .lst (steps.map Dsc.d))]) (hmu.trans (List.perm_append_comm (l₁ := [_]))) ?_
  refine AC.post (ac_def fx.ok hk (fx.k (a := 335) (i := 32) (by decide)) (n := 606) room (own := own) (muIn := [(aS, .lst (steps.map Dsc.d))]) rfl ["row", "steps", "where"] (fun name doc pm an cdv ct vs hvs => ?_) rfl (by decide +kernel) (by decide +kernel) rfl rfl rfl fun L cd hk' hF' rm => ?_)
  · obtain ⟨a, b, c, rfl⟩ := len3 hvs; rfl
  have sl := sl_eq
  have rl := hr.len
  have un := rm.2
  have fin : ∀ (loc : List (Str × Dsc)) D, P ⟨σ.loc, (aS, .lst (steps.map Dsc.d)) :: own⟩ D → (Ex2 fun ext muOut => And3 ((⟨loc, [(aS, .lst (steps.map Dsc.d))]⟩ : St).mu = ext ++ muOut) (muOut.map (·.1) = [(aS, MO.lst (steps.map Dsc.d))].map (·.1)) (∃ mu', List.Perm (own ++ muOut) mu' ∧ P ⟨σ.loc, mu'⟩ D)) :=
    fun loc D p => ⟨[], [(aS, .lst (steps.map Dsc.d))], rfl, rfl, _, List.perm_append_comm, p⟩
  (refine ax_l4 ?_; intro z1a z1b z1c z1d; refine ax_cons ?_; refine ax_asgn ?_)
  refine aw_fn fx hk' (a := 294) (i := 25) (by decide) rfl rfl ?_
  (refine al_cons ?_; refine aw_loc (by assumption) rfl rfl ?_; refine al_cons ?_; refine aw_str ?_; refine al_nil ?_)
  refine c_cut fx hk' (by exact Nat.le_trans rl (by decide)) (rm.less (by exact Nat.succ_pos _)) ?_
  (refine an_loc (by assumption) rfl ?_; (try dsimp only); refine ax_cons ?_; refine ax_asgn ?_)
  have cl := cut_len (x := row) (m := "|")
  have ce := cut_each (x := row) (m := "|")
  have ca := cut_asc (m := "|") hr.asc
  have csp := hr.sp
  have cne : cut row "|" ≠ [] := by
    have : ∀ cs ds d, cutL "|" cs ds d ≠ [] := by
      intro cs
      induction cs with
      | nil => intro ds d; simp [cutL]
      | cons c cs ih => intro ds d; unfold cutL; split <;> exact ih _ _
    exact this _ _ _
  unfold lstepR at h
  generalize cut row "|" = parts at h cl ce ca csp cne ⊢
  obtain ⟨q0, rest, rfl⟩ : ∃ q0 rest, parts = q0 :: rest := by
    cases parts with
    | nil => exact absurd rfl cne
    | cons a b => exact ⟨a, b, rfl⟩
  refine aw_fn fx hk' (a := 299) (i := 26) (by decide) rfl rfl ?_
  (refine al_cons ?_; refine aw_sub ?_; refine aw_loc (by assumption) rfl rfl ?_; refine aw_int ?_)
  refine ao_item_list (d := .str q0) (by decide) (by decide) rfl ?_
  refine al_nil ?_
  refine c_words fx hk' (by have := ce q0 (.head _); exact Nat.le_trans this (Nat.le_trans rl (by decide))) (rm.less (by exact Nat.le_add_left _ _)) ?_
  (refine an_loc (by assumption) rfl ?_; (try dsimp only); refine ax_cons ?_; refine ax_if ?_; refine ab_bool ?_; refine ab_or ?_; refine ab_cmp ?_)
  refine aw_bl fx hk' (v := .builtin "len") (by decide) (by kernel_rfl) (.blt _) rfl ?_
  (refine al_cons ?_; refine aw_loc (by assumption) rfl rfl ?_; refine al_nil ?_)
  refine ac_lenl (by simp only [List.length_map]; exact Int.ofNat_lt.mpr (Nat.lt_of_le_of_lt cl (Nat.lt_of_le_of_lt (Nat.add_le_add_right rl _) (by decide)))) ?_
  refine aw_int ?_
  refine ao_nei (at_bool ?_)
  have lenN : ∀ l : List Str, ((((q0 :: l).map PV.str).length : Int) != 4) = decide (l.length ≠ 3) := fun l => by
    rw [Bool.eq_iff_iff]; simp; exact ar150
  rw [lenN]
  rcases rest with _ | ⟨q1, _ | ⟨q2, _ | ⟨q3, _ | ⟨q4, r⟩⟩⟩⟩
  · rw [if_pos (by rfl), if_pos rfl]; (refine ax_cons ?_; refine ax_l1 ?_; intro z7a; refine ax_ret ?_; refine aw_loc (by assumption) rfl rfl ?_); exact fin _ _ h
  · rw [if_pos (by rfl), if_pos rfl]; (refine ax_cons ?_; refine ax_l1 ?_; intro z8a; refine ax_ret ?_; refine aw_loc (by assumption) rfl rfl ?_); exact fin _ _ h
  · rw [if_pos (by rfl), if_pos rfl]; (refine ax_cons ?_; refine ax_l1 ?_; intro z9a; refine ax_ret ?_; refine aw_loc (by assumption) rfl rfl ?_); exact fin _ _ h
  · rw [if_neg (by simp)]
    have h0 := csp q0 (.head _)
    have h1 := csp q1 (.tail _ (.head _))
    have h2 := csp q2 (.tail _ (.tail _ (.head _)))
    have h3 := csp q3 (.tail _ (.tail _ (.tail _ (.head _))))
    have e0 := ce q0 (.head _)
    have e1 := ce q1 (.tail _ (.head _))
    have e2 := ce q2 (.tail _ (.tail _ (.head _)))
    have e3 := ce q3 (.tail _ (.tail _ (.tail _ (.head _))))
    have a0 := ca q0 (.head _)
    have a1 := ca q1 (.tail _ (.head _))
    have a2 := ca q2 (.tail _ (.tail _ (.head _)))
    have hw0 := lwords_asc a0
    (refine ab_or ?_; refine ab_cmp ?_)
    refine aw_bl fx hk' (v := .builtin "len") (by decide) (by kernel_rfl) (.blt _) rfl ?_
    (refine al_cons ?_; refine aw_loc (by assumption) rfl rfl ?_; refine al_nil ?_)
    refine ac_lenl (by have := lwords_len (x := q0); simp only [List.length_map]; exact ar385 h0.2.2.2) ?_
    refine aw_int ?_
    refine ao_nei (at_bool ?_)
    dsimp only at h
    generalize lwords q0 = hd at h hw0 ⊢
    have lenH : (((hd.map PV.str).length : Int) != 3) = decide (hd.length ≠ 3) := by
      rw [Bool.eq_iff_iff]; simp; exact ar151
    rw [lenH]
    rcases hd with _ | ⟨b0, _ | ⟨b1, _ | ⟨b2, _ | ⟨b3, r⟩⟩⟩⟩
    · rw [if_pos (by simp), if_pos rfl]; (refine ax_cons ?_; refine ax_l1 ?_; intro z10a; refine ax_ret ?_; refine aw_loc (by assumption) rfl rfl ?_); exact fin _ _ h
    · rw [if_pos (by simp), if_pos rfl]; (refine ax_cons ?_; refine ax_l1 ?_; intro z11a; refine ax_ret ?_; refine aw_loc (by assumption) rfl rfl ?_); exact fin _ _ h
    · rw [if_pos (by simp), if_pos rfl]; (refine ax_cons ?_; refine ax_l1 ?_; intro z12a; refine ax_ret ?_; refine aw_loc (by assumption) rfl rfl ?_); exact fin _ _ h
    · rw [if_neg (by simp)]
      dsimp only at h
      (refine ab_or ?_; refine ab_cmp ?_; refine aw_sub ?_; refine aw_loc (by assumption) rfl rfl ?_; refine aw_int ?_)
      refine ao_item_list (d := .str b1) (by decide) (by decide) rfl ?_
      refine aw_bl fx hk' (v := .type "str") (by decide) (by kernel_rfl) (.type _) rfl ?_
      refine al_cons (aw_bl fx hk' (v := .builtin "len") (by decide) (by kernel_rfl) (.blt _) rfl ?_)
      (refine al_cons ?_; refine aw_loc (by assumption) rfl rfl ?_; refine al_nil ?_)
      refine ac_lenm (.head _) (by simp; exact Int.ofNat_lt.mpr (Nat.lt_of_le_of_lt hn (by decide))) ?_
      rw [List.length_map]
      refine al_nil ?_
      refine ac_stri (log2_small (by exact hn)) ?_
      refine ao_nes (at_bool ?_)
      show if (b1 != strI steps.length) = true then _ else _
      cases qb : (b1 == strI steps.length) with
      | false =>
        rw [qb, if_neg (by decide)] at h
        rw [if_pos (by simp [bne, qb]), if_pos rfl]
        (refine ax_l1 ?_; intro z13a; refine ax_cons ?_; refine ax_ret ?_; refine aw_loc (by assumption) rfl rfl ?_)
        exact fin _ _ h
      | true =>
        rw [qb, if_pos rfl] at h
        rw [if_neg (by simp [bne, qb])]
        refine ab_or_nil ?_
        first | refine ite_f ?_ | rw [if_neg (by decide)]
        refine ax_nil ?_
        refine ax_l1 ?_; intro z15a; refine ax_cons (ax_unpack hk' ["clause", "ahead", "note"] ?_)
        refine al_cons (aw_fn fx hk' (a := 311) (i := 28) (by decide) rfl rfl ?_)
        (refine al_cons ?_; refine aw_sub ?_; refine aw_loc (by assumption) rfl rfl ?_; refine aw_int ?_)
        refine ao_item_list (d := .str q1) (by decide) (by decide) rfl ?_
        refine al_nil ?_
        refine c_numbers fx hk' (by exact Nat.le_trans e1 (Nat.le_trans rl (by decide))) a1 (rm.less (by exact Nat.le_add_left _ _)) ?_
        refine al_cons (aw_fn fx hk' (a := 311) (i := 28) (by decide) rfl rfl ?_)
        (refine al_cons ?_; refine aw_sub ?_; refine aw_loc (by assumption) rfl rfl ?_; refine aw_int ?_)
        refine ao_item_list (d := .str q2) (by decide) (by decide) rfl ?_
        refine al_nil ?_
        refine c_numbers fx hk' (by exact Nat.le_trans e2 (Nat.le_trans rl (by decide))) a2 (rm.less (by exact Nat.le_add_left _ _)) ?_
        refine al_cons (aw_fn fx hk' (a := 323) (i := 30) (by decide) rfl rfl ?_)
        (refine al_cons ?_; refine aw_sub ?_; refine aw_loc (by assumption) rfl rfl ?_; refine aw_int ?_)
        refine ao_item_list (d := .str q3) (by decide) (by decide) rfl ?_
        refine al_nil ?_
        refine c_note_read fx hk' (by exact Nat.le_trans e3 rl) h3.2.1 h3.1 (rm.less (by exact ar388 h3.2.2.1)) ?_
        refine al_nil ⟨rfl, by decide, ?_⟩
        show AN _ _ _ _ _ _
        refine an_loc hk' rfl ?_
        show AN _ _ _ _ _ _
        refine an_loc hk' rfl ?_
        show AN _ _ _ _ _ _
        refine an_loc hk' rfl ?_
        show AX _ _ _ _ _ _ _ _
        have hl1 : ∀ l, lnums q1 = some l → l.length < 64 := fun l e => by
          unfold lnums at e
          split at e
          · exact no_ns e
          · obtain rfl := Option.some.inj e
            refine Nat.lt_of_le_of_lt (List.length_filterMap_le _ _) ?_
            unfold lnumsF
            split
            · rw [List.length_map]; exact h1.2.2.2
            · decide
        have hl2 : ∀ l, lnums q2 = some l → l.length < 64 := fun l e => by
          unfold lnums at e
          split at e
          · exact no_ns e
          · obtain rfl := Option.some.inj e
            refine Nat.lt_of_le_of_lt (List.length_filterMap_le _ _) ?_
            unfold lnumsF
            split
            · rw [List.length_map]; exact h2.2.2.2
            · decide
        have no := nread_ok h3.2.1
        generalize hq1 : lnums q1 = r1 at h hl1 ⊢
        generalize hq2 : lnums q2 = r2 at h hl2 ⊢
        generalize nread q3 = r3 at h no ⊢
        (refine ax_l1 ?_; intro z16a; refine ax_cons ?_; refine ax_if ?_; refine ab_bool ?_; refine ab_or ?_; refine ab_cmp ?_; refine aw_loc (by assumption) rfl rfl ?_; refine aw_none ?_)
        refine ao_isN (at_bool ?_)
        cases r1 with
        | none =>
          rw [show isN (optL none) = true from rfl, if_pos rfl, if_pos rfl]; (refine ax_cons ?_; refine ax_ret ?_; refine aw_loc (by assumption) rfl rfl ?_); exact fin _ _ h
        | some cl =>
          dsimp only at h
          rw [show isN (optL (some cl)) = false from rfl, if_neg (by decide)]
          (refine ab_or ?_; refine ab_cmp ?_; refine aw_loc (by assumption) rfl rfl ?_; refine aw_none ?_)
          refine ao_isN (at_bool ?_)
          cases r2 with
          | none =>
            rw [show isN (optL none) = true from rfl, if_pos rfl, if_pos rfl]; (refine ax_cons ?_; refine ax_ret ?_; refine aw_loc (by assumption) rfl rfl ?_); exact fin _ _ h
          | some ah =>
            dsimp only at h
            rw [show isN (optL (some ah)) = false from rfl, if_neg (by decide)]
            (refine ab_or ?_; refine ab_cmp ?_; refine aw_loc (by assumption) rfl rfl ?_)
            refine aw_listD (al_nil ⟨[], rfl, Nat.zero_le _, ?_⟩)
            refine ao_eq (n := 601) (m := 1) (.lst (no.up (by exact h3.2.2.1))) (.lst (.nil _)) (rm.less (by exact Nat.zero_le _)) (by show _ < 9900; exact ar391 un) (at_bool ?_)
            cases r3 with
            | nil =>
              rw [eqb_self, if_pos rfl, if_pos rfl]; (refine ax_cons ?_; refine ax_ret ?_; refine aw_loc (by assumption) rfl rfl ?_); exact fin _ _ h
            | cons note r3 =>
              dsimp only at h
              rw [eqb_ne (by simp), if_neg (by decide)]
              refine ab_or_nil ?_
              first | refine ite_f ?_ | rw [if_neg (by decide)]
              refine ax_nil ?_
              refine ax_cons (ax_if (ab_not (ab_val (aw_fn fx hk' (a := 328) (i := 31) (by decide) rfl rfl ?_))))
              (refine al_cons ?_; refine aw_sub ?_; refine aw_loc (by assumption) rfl rfl ?_; refine aw_int ?_)
              refine ao_item_list (d := .str b2) (by decide) (by decide) rfl ?_
              (refine al_cons ?_; refine aw_loc (by assumption) rfl rfl ?_; refine al_cons ?_; refine aw_loc (by assumption) rfl rfl ?_; refine al_cons ?_)
              refine aw_bl fx hk' (v := .builtin "len") (by decide) (by kernel_rfl) (.blt _) rfl ?_
              (refine al_cons ?_; refine aw_loc (by assumption) rfl rfl ?_; refine al_nil ?_)
              refine ac_lenm (.head _) (by simp; exact Int.ofNat_lt.mpr (Nat.lt_of_le_of_lt hn (by decide))) ?_
              rw [List.length_map]
              refine al_nil ?_
              have l1 := hl1 cl rfl
              have l2 := hl2 ah rfl
              refine c_is_put fx hk' (rule := b2) (cl := cl) (ah := ah) (hw0 b2 (.tail _ (.tail _ (.head _)))) l1 (by exact ar392 l2) (rm.less (by exact Nat.le_add_left _ _)) (at_bool ?_)
              cases qi : isPut b2 cl ah steps.length with
              | false =>
                rw [qi, if_neg (by decide)] at h
                rw [if_pos (by rfl)]
                (refine ax_cons ?_; refine ax_ret ?_)
                refine aw_bl fx hk' (v := .builtin "len") (by decide) (by kernel_rfl) (.blt _) rfl ?_
                (refine al_cons ?_; refine aw_loc (by assumption) rfl rfl ?_; refine al_nil ?_)
                refine ac_lenm (.head _) (by simp; exact Int.ofNat_lt.mpr (Nat.lt_of_le_of_lt hn (by decide))) ?_
                rw [List.length_map]
                exact fin _ _ h
              | true =>
                rw [qi, if_pos rfl] at h
                first | refine ite_f ?_ | rw [if_neg (by decide)]
                refine ax_nil ?_
                (refine ax_cons ?_; refine ax_ret ?_; refine aw_tuple ?_; refine al_cons ?_; refine aw_sub ?_; refine aw_loc (by assumption) rfl rfl ?_; refine aw_int ?_)
                refine ao_item_list (d := .str b2) (by decide) (by decide) rfl ?_
                refine al_cons (aw_bl fx hk' (v := .type "tuple") (by decide) (by kernel_rfl) (.type _) rfl ?_)
                (refine al_cons ?_; refine aw_loc (by assumption) rfl rfl ?_; refine al_nil ?_)
                refine ac_tuple (xs := cl.map PV.int) (by rw [List.length_map]; exact ar394 sl l1) ?_
                refine al_cons (aw_bl fx hk' (v := .type "tuple") (by decide) (by kernel_rfl) (.type _) rfl ?_)
                (refine al_cons ?_; refine aw_loc (by assumption) rfl rfl ?_; refine al_nil ?_)
                refine ac_tuple (xs := ah.map PV.int) (by rw [List.length_map]; exact ar394 sl l2) ?_
                (refine al_cons ?_; refine aw_sub ?_; refine aw_loc (by assumption) rfl rfl ?_; refine aw_int ?_)
                refine ao_item_list (d := note) (by decide) (by decide) rfl ?_
                refine al_nil ?_
                refine ⟨[.str b2, .tup (cl.map PV.int), .tup (ah.map PV.int), note], rfl, by show 4 ≤ sizeLine; exact ar144 sl, ?_⟩
                exact fin _ _ h
    · rw [if_pos (by simp), if_pos rfl]; (refine ax_cons ?_; refine ax_l1 ?_; intro z26a; refine ax_ret ?_; refine aw_loc (by assumption) rfl rfl ?_); exact fin _ _ h
  · rw [if_pos (by simp), if_pos rfl]; (refine ax_cons ?_; refine ax_l1 ?_; intro z27a; refine ax_ret ?_; refine aw_loc (by assumption) rfl rfl ?_); exact fin _ _ h
noncomputable def AIter (G : Gl) (pf : Addr) (k : Kx) (σ : St) (iter : Expr) (K : St → List (PV × PV) → Prop) (F : Int → Prop) : Prop :=
  ∀ keep hid s g (Q : Value → Shared → Prop) (E : Value → Shared → Prop), Kp G k keep hid → Site G k keep hid σ s g →
    (∀ σ₁ g₁ s₁ xs I fp wr Pt Stt Mid s₂, K σ₁ xs → Le g g₁ → Site G k keep hid σ₁ s₁ g₁ → WalksT G.prog G.w k.A I fp wr xs.length Pt Stt Mid → Stt 0 s₂.heap → (∀ b o, s₁.heap.get? b = some o → s₂.heap.get? b = some o) → s₁.heap.objs.size ≤ s₂.heap.objs.size → s₂.gens = s₁.gens → s₂.os = s₁.os →
      (∀ b ∈ wr, s₁.heap.objs.size ≤ b) → (∀ b ∈ fp, b ∈ wr ∨ ∃ o, g₁ b = some o) → (∀ j h, Stt j h → ∀ b ∈ wr, ∃ o, h.get? b = some o) →
      (∀ i vals, i < xs.length → Pt i vals → (Ex3 fun u₁ u₂ d => And4 (vals = #[u₁, u₂]) (xs[i]? = some d) (Is g₁ u₁ (.d d.1)) (Is g₁ u₂ (.d d.2)))) → Q (.ref I) s₂) →
    (∀ n e s', F n → FSite G pf k keep g n e s' → E e s') → wpAny G.M k.A (eval iter k.env) (fun v s' => wpAny G.M k.A (pyIter v) Q E s') E s
noncomputable def ACm2 (G : Gl) (pf : Addr) (k : Kx) (elt : Expr) (x₁ x₂ : Str) (ifs : List Expr) (fin : St → List Dsc → Prop) : List (PV × PV) → St → List Dsc → Prop
  | [], σ, acc => fin σ acc
  | d :: ds, σ, acc => AN G k σ x₁ (.d d.1) fun σ₁ => AN G k σ₁ x₂ (.d d.2) fun σ' => AB G pf k σ' (tests ifs k.env) (fun σ'' b => if b = true then AW G pf k σ'' (eval elt k.env) (fun σ₃ D => ACm2 G pf k elt x₁ x₂ ifs fin ds σ₃ (acc ++ [D])) (fun _ => False) else ACm2 G pf k elt x₁ x₂ ifs fin ds σ'' acc) (fun _ => False)
theorem compLoop_pairT {prog : Program} {w : World} {A : Around} {s : Shared} {elt iter : Expr} {elts ifs : List Expr} {x1} {tp : Pos} {scope : Scope} {pos : Pos} {it acc : Value} {env : Env} {R : Result → Shared → Prop} (I : Nat → Shared → Prop)
    (turn : ∀ n s, I n s → wpAny (model prog w) A (pyNext it) (fun r s₁ => match r with
      | none => R (.ok .next) s₁
      | some v => wpAny (model prog w) A (letOwnedTupleGo (.Tuple elts x1 tp) it v) (fun _ s₁' => wpAny (model prog w) A (assign (.Tuple elts x1 tp) env v) (fun _ s₂ =>
          wpAny (model prog w) A (forIn ifs true fun c r => if r = true then do let ok ← PySem.isTrue c env (eval c env); pure (ForInStep.yield ok) else pure (ForInStep.yield r)) (fun ok s₃ =>
            if ok = true then wpAny (model prog w) A (eval elt env) (fun x s₄ =>
              wpAny (model prog w) A (call (.builtin "list.append") [acc, x]) (fun _ s₅ => ∃ m, m < n ∧ I m s₅) (notedBy (model prog w) A env fun e s' => R (.error e) s') s₄) (notedBy (model prog w) A env fun e s' => R (.error e) s') s₃
            else ∃ m, m < n ∧ I m s₃) (notedBy (model prog w) A env fun e s' => R (.error e) s') s₂)
          (notedBy (model prog w) A env fun e s' => R (.error e) s') s₁') (notedBy (model prog w) A env fun e s' => R (.error e) s') s₁) (notedBy (model prog w) A env fun e s' => R (.error e) s') s)
    (n : Nat) (h : I n s) : codeAny (model prog w) A (.compLoop (.ListComp elt [⟨.Tuple elts x1 tp, iter, ifs, 0⟩] scope pos) 0 it acc env) R s := by
  refine codeAny_loop rfl I (fun n s hI => ?_) n h
  show wpAny _ A ((compTurn (.ListComp elt [⟨.Tuple elts x1 tp, iter, ifs, 0⟩] scope pos) 0 it acc env).onRaise (fun x => do noteFrame x env; theTreesLotGoes x)) _ _ s
  refine wpAny_noted ?_
  rw [compTurn_list]
  refine wpAny_bind (wpAny_standAt (wpAny_bind (wpAny_mono (turn n s hI) (fun r s₁ h₁ => ?_) fun _ _ z => z)))
  cases r with
  | none => exact wpAny_pure h₁
  | some v =>
    refine wpAny_bind (wpAny_mono h₁ (fun _ s₁' h₁' => ?_) fun _ _ z => z)
    refine wpAny_bind (wpAny_mono h₁' (fun _ s₂ h₂ => wpAny_bind (wpAny_mono h₂ (fun ok s₃ h₃ => ?_) fun _ _ z => z)) fun _ _ z => z)
    cases ok with
    | false => exact wpAny_pure ⟨rfl, h₃⟩
    | true => exact wpAny_bind (wpAny_bind (wpAny_mono h₃ (fun x s₄ h₄ => wpAny_bind (wpAny_mono h₄ (fun _ s₅ h₅ => wpAny_pure (wpAny_pure ⟨rfl, h₅⟩)) fun _ _ z => z)) fun _ _ z => z))
theorem comp_loopE {elt iter : Expr} {x₁ x₂ : Str} {p₁ p₂ tp : Pos} {u : Nat} {ifs : List Expr} {sc : Scope} {pos : Pos} {xs : List (PV × PV)} {Pt : Nat → Array Value → Prop} {Mid : Nat → Addr → Heap → Prop} {fin : St → List Dsc → Prop} {keep : PH} {hid : Addr → Prop} {loc : List (Str × Dsc)} {mu : List (Addr × MO)} {s₁ s : Shared} {g₁ : PH} {fp wr : List Addr} {D C I : Addr} {kc : Kx} {keep' : PH} {hid' : Addr → Prop} {Stt : Nat → Heap → Prop} {R : Result → Shared → Prop}
    (CF : CompF G k kc keep hid mu s₁ g₁ fp wr D C keep' hid') (S₁ : Site G k keep hid ⟨loc, mu⟩ s₁ g₁) (S₄ : Site G kc keep' hid' ⟨[], mu⟩ s g₁) (st : Stt 0 s.heap) (hD : s.heap.get? D = some { cls := .type "list", dict := none, data := .seq ([] : List Value).toArray })
    (hfp : ∀ b ∈ fp, b ∈ wr ∨ ∃ o, g₁ b = some o) (hal : ∀ j h, Stt j h → ∀ b ∈ wr, ∃ o, h.get? b = some o) (hlen : xs.length ≤ sizeLine)
    (W' : WalksT G.prog G.w kc.A I fp wr xs.length Pt Stt Mid) (hPv : ∀ i vals, i < xs.length → Pt i vals → (Ex3 fun u₁ u₂ d => And4 (vals = #[u₁, u₂]) (xs[i]? = some d) (Is g₁ u₁ (.d d.1)) (Is g₁ u₂ (.d d.2))))
    (hkcOk : kc.Ok) (hturn : ACm2 G pf kc elt x₁ x₂ ifs fin xs ⟨[], mu⟩ [])
    (hend : ∀ σ' s' g' acc oD vsD, CEnd G kc keep' hid' g₁ D wr fin σ' s' g' acc oD vsD → R (.ok .next) s') : codeAny G.M kc.A (.compLoop (.ListComp elt [⟨.Tuple [.Name x₁ p₁, .Name x₂ p₂] u tp, iter, ifs, 0⟩] sc pos) 0 (.ref I) (.ref D) kc.env) R s := by
  refine compLoop_pairT (CInv G kc keep' hid' g₁ D wr xs.length (fun j σ' acc => ACm2 G pf kc elt x₁ x₂ ifs fin (xs.drop j) σ' acc) Stt) (fun n s' hI => ?_) xs.length (CInv.zero CF S₄ st hD (by simpa using hturn) (S₁.mu_apart CF))
  obtain ⟨j, σ', g', acc, hn, lg, S', hF', hst, ⟨oD, vsD, hoD, hsD, hacc⟩, hgw, hmw, hal'⟩ := hI
  by_cases hj : j < xs.length
  · refine W'.item j s' _ _ hj hst fun T vals hp tk hu _ hT hmid hkp0 => ?_
    dsimp only
    obtain ⟨u₁, u₂, d, rfl, hd, hdat₁, hdat₂⟩ := hPv j vals hj hu
    refine W'.go _ _ _ j T _ _ _ hmid fun h' hst' hkp1 => ?_
    have hTw : T ∉ wr := W'.apart _ _ _ hmid
    have hT' : h'.IsTuple T #[u₁, u₂] := hT.at fun o e => hkp1 T o hTw e
    have hkp : ∀ b o, b ∉ wr → s'.heap.get? b = some o → h'.get? b = some o := fun b o hb e => hkp1 b o hb (hkp0 b o hb e)
    have hdr : xs.drop j = d :: xs.drop (j + 1) := by
      rw [List.drop_eq_getElem_cons hj]
      rw [List.getElem?_eq_getElem hj] at hd
      obtain rfl := Option.some.inj hd; rfl
    rw [hdr, ACm2] at hF'
    have S₅ := S'.turn CF.kw CF.Lw hgw hmw (tk := tk) hkp
    obtain ⟨hK', S₅', le'⟩ := S₅.guard CF.hKc CF.kw hgw hmw CF.Lw
    have hoD' : h'.get? D = some oD := hkp D oD CF.Dwr hoD
    have back := fun {σ'' s'' g''} => comp_back (σ'' := σ'') (s'' := s'') (g'' := g'') hfp CF.hKc CF.kw CF.Lw S₅.gh lg le' hoD' (hal _ _ hst')
    refine assign_Tuple_tuple hkcOk.hand hT' rfl rfl fun hq heq => ?_
    have heq' : ∀ b o, h'.get? b = some o → hq.get? b = some o := fun b o e => heq b o (Nat.ne_of_lt (Heap.lt_size e)) e
    have S₅q := S₅'.same (s' := { s' with heap := hq, toks := tk }) hK' (.of heq')
    refine assignInOrder_cons (wpAny_assign_Name (hF' _ _ _ _ _ _ u₁ hK' S₅q (hdat₁.le lg) fun σ₅ s₅ g₅ h₅ l₅ S₅r => ?_))
    refine assignInOrder_cons (wpAny_assign_Name (h₅ _ _ _ _ _ _ u₂ hK' S₅r ((hdat₂.le lg).le l₅) fun σ₆ s₆ g₆ h₆ l₆' S₆ => ?_))
    refine assignInOrder_nil ?_
    have l₆ : Le g' g₆ := l₅.trans l₆'
    refine h₆ _ _ _ _ _ _ hK' S₆ (fun σ₇ b s₇ g₇ p₇ l₇ S₇ => ?_) fun _ _ _ f => f.elim
    cases b with
    | false =>
      rw [if_neg (by decide)] at p₇ ⊢
      obtain ⟨a1, a2, a3, a4, a6⟩ := back (l₆.trans l₇) S₇
      exact ⟨n - 1, ar3 hn hj, j + 1, σ₇, g₇, acc, ar4 hn hj, lg.trans (l₆.trans l₇), a1, p₇, W'.frame _ _ _ hst' a2, ⟨oD, vsD, a6, hsD, hacc.mono fun _ _ x => x.le (l₆.trans l₇)⟩, a3, a4, Nat.le_succ_of_le hal'⟩
    | true =>
      rw [if_pos rfl] at p₇ ⊢
      refine p₇ _ _ _ _ _ _ hK' S₇ (fun σ₈ D₈ v₈ s₈ g₈ p₈ l₈ S₈ i₈ => ?_) fun _ _ _ f => f.elim
      have l' := l₆.trans (l₇.trans l₈)
      obtain ⟨a1, a2, a3, a4, a6⟩ := back l' S₈
      refine wpAny_list_append_plain (hsD.plain a6) (fun h₉ hl₉ hs₉ => ?_) (by rw [List.size_toArray, hacc.length]; exact ar12 hlen hn hal')
      obtain ⟨o₉, q₉, so₉⟩ := SeqO.of_plain hl₉
      have S₉ := a1.other (s' := { s₈ with heap := h₉ }) (a3 D (.head _)) (CF.kw D (.head _)) (fun e => CF.Lw (e ▸ .head _)) (fun p hp e => a4 p hp (e ▸ .head _)) hs₉.extBut
      refine ⟨n - 1, ar3 hn hj, j + 1, σ₈, g₈, acc ++ [D₈], ar4 hn hj, lg.trans l', S₉, p₈, W'.frame _ _ _ (W'.frame _ _ _ hst' a2) fun b hb o e => hs₉.extBut b o (fun z => CF.Dfp b hb z) e, ⟨o₉, _, q₉, so₉, ?_⟩, a3, a4, by rw [List.length_append]; exact Nat.succ_le_succ hal'⟩
      rw [show (vsD.toArray.push v₈).toList = vsD ++ [v₈] by simp]
      exact (hacc.mono fun _ _ x => x.le l').append (.cons i₈ .nil)
  · have hj' : j = xs.length := ar5 hn hj
    subst hj'
    rw [List.drop_length, ACm2] at hF'
    exact W'.done s' _ _ hst fun h' tk hkp => hend _ _ _ _ _ _ ⟨lg, S'.turn CF.kw CF.Lw hgw hmw (tk := tk) hkp, hF', hkp D oD CF.Dwr hoD, hsD, hacc, hgw, hmw⟩
theorem ax_compE (hk : k.Ok) {y x₁ x₂ : Str} {py spos p₁ p₂ tp : Pos} {u : Nat} {elt iter : Expr} {ifs : List Expr} {sc : Scope} {pos : Pos} {cl : List (Str × Addr)} (hclos : closureFor sc k.env = pure cl)
    (h : AIter G pf k σ iter (fun σ₁ xs => xs.length ≤ sizeLine ∧ ∀ C, (k.comp sc cl C).Ok → ACm2 G pf (k.comp sc cl C) elt x₁ x₂ ifs
      (fun σ₂ acc => (Ex2 fun ext muOut => And3 (σ₂.mu = ext ++ muOut) (muOut.map (·.1) = σ₁.mu.map (·.1)) (∀ a, PX ⟨put y (.m a) σ₁.loc, (a, .lst acc) :: muOut⟩))) xs ⟨[], σ₁.mu⟩ []) F)
    (hy : k.env.kindOf y = some .local) (hsw : swapsWith (.ListComp elt [⟨.Tuple [.Name x₁ p₁, .Name x₂ p₂] u tp, iter, ifs, 0⟩] sc pos) (some (.Name y py)) spos.line k.env = pure true := by rfl)
    (hkind : sc.kind = .function := by rfl) (hs : foldedSetIterable iter k.env = pure := by rfl) (hnames : (sc.names.all fun x => !(x.2 == .local) || decide (sc.names.lookup x.1 = some .local)) = true := by rfl)
    (hcell : (sc.names.all fun x => decide (x.2 ≠ .cell)) = true := by rfl) : AX G pf k σ (exec (.Assign [.Name y py] (.ListComp elt [⟨.Tuple [.Name x₁ p₁, .Name x₂ p₂] u tp, iter, ifs, 0⟩] sc pos) spos) k.env) PX R F := by
  intro keep hid s g Q E hK S ok _ er
  rw [exec_Assign_Name_used _ _ _ _ hsw]
  refine wpAny_bind (wpAny_standAt (wpAny_bind ?_))
  show wpAny _ k.A (do let _ ← comprehension (.ListComp elt [⟨.Tuple [.Name x₁ p₁, .Name x₂ p₂] u tp, iter, ifs, 0⟩] sc pos) sc k.env _ (newList []) false (eval iter k.env) (some (assign (.Name y py) k.env))) _ _ s
  refine wpAny_bind (wpAny_mono (wpAny_comprehension_free (use := some (assign (.Name y py) k.env)) (Q := fun _ s' => Q .next s') rfl (congrFun hs) hclos hkind (fun x hx hl => ?_) ?_) (fun _ s' hq => wpAny_pure (wpAny_pure hq)) fun _ _ e => e)
  · have := List.all_eq_true.mp hnames x hx
    simpa [hl] using this
  refine h keep hid s g _ E hK S (fun σ₁ g₁ s₁ xs I fp wr Pt Stt Mid s₂ h₁ l₁ S₁ W st0 hgrow hsize hgen hos hwr hfp hal hPv => ?_) er
  obtain ⟨hlen, hturn⟩ := h₁
  obtain ⟨loc, mu⟩ := σ₁
  refine comp_start (R := fun D C => compPost G.M k.A E (some (assign (.Name y py) k.env)) (fun _ s' => Q .next s') (.ref D) C) hk hkind hcell hK S₁ W.frame W.self st0 hgrow hsize hgen hos hwr hfp hal fun kc D C h₄ keep' hid' hkc ok' CF S₄ st4 hD => ?_
  subst hkc
  refine comp_loopE CF S₁ S₄ st4 hD hfp hal hlen W hPv ok' (hturn C ok') fun σ' s' g' acc oD vsD Z => ?_
  exact comp_put hk hK S₁ hy CF Z fun s'' ext muOut m1 m2 m3 B => ok _ _ g' (m3 D) (l₁.trans Z.lg) B
noncomputable def enumL (xs : List PV) : List (PV × PV) := xs.zipIdx.map fun p => (.int p.2, p.1)
theorem enumL_len (xs : List PV) : (enumL xs).length = xs.length := by simp [enumL]
theorem enumL_get (xs : List PV) (i : Nat) (d : PV) (h : xs[i]? = some d) : (enumL xs)[i]? = some (.int i, d) := by
  unfold enumL
  rw [List.getElem?_map, List.getElem?_zipIdx, h]
  simp
theorem aiter_enum (fx : Fx G pf) (hk : k.Ok) {arg : Expr} {np cpos : Pos} {K : St → List (PV × PV) → Prop} (hx : k.env.kindOf ("enumerate" : Str) = some .globalImplicit)
    (h : AW G pf k σ (eval arg k.env) (fun σ₁ D => ∃ xs : List PV, D = .d (.lst xs) ∧ K σ₁ (enumL xs)) F)
    (hs₁ : starEach [arg] k.env = (false, eval arg k.env) :: starEach [] k.env := by rfl) (hp : (backTo cpos (starEach [arg] k.env)).any (·.1) = false := by rfl) :
    AIter G pf k σ (.Call (.Name ("enumerate" : Str) np) [arg] [] cpos) K F := by
  intro keep hid s g Q E hK S ok er
  refine wpAny_Call_NameR (aw_blt (v := .type "enumerate") (P := fun σ₁ D => σ₁ = σ ∧ D = .v (.type "enumerate")) (F := F) (pf := pf) fx.ok hk hx (fx.blt "enumerate" (by decide)) (by kernel_rfl) ⟨rfl, rfl⟩ (by decide) (by decide) keep hid s g _ E hK S (fun σ₁ D v s₁ g₁ h₁ l₁ S₁ i₁ => ?_) er)
  obtain ⟨rfl, rfl⟩ := h₁
  cases i₁
  have hal : AL G pf k σ₁ (spliced (backTo cpos (starEach [arg] k.env))) (fun σ₂ Ds => ∃ xs : List PV, Ds = [.d (.lst xs)] ∧ K σ₂ (enumL xs)) F :=
    al_cons (h.mono (fun σ' D ⟨xs, e, p⟩ => al_nil ⟨xs, by rw [e], p⟩) fun _ x => x) hs₁
  refine callWith_any fx.ok (.type _) hp (hal keep hid s₁ g₁ _ E hK S₁ (fun σ₂ Ds vs s₂ g₂ h₂ l₂ S₂ i₂ => ⟨S₂.stays, ?_⟩) fun n e s' f x => er n e s' f (x.le l₁))
  obtain ⟨xs, rfl, hKK⟩ := h₂
  cases i₂ with | cons i₂ r => cases r; cases i₂ with | @lst a o us _ ha hso hall =>
  have hL : s₂.heap.IsList a us.toArray := ⟨_, S₂.gh _ _ ha, hso.cls, hso.data⟩
  have alt := Heap.lt_size (S₂.gh _ _ ha)
  refine call_enumerate_list hL fun h' he hit hsz hkp => ?_
  refine wpAny_pyIter_enum he ?_
  have W := WalksT.enumerate (prog := G.prog) (w := G.w) hk.hand (s₂.heap.objs.size + 1) s₂.heap.objs.size a (Nat.succ_ne_self _) (Nat.ne_of_lt (Nat.lt_succ_of_lt alt)) (Nat.ne_of_lt alt) us.toArray
  have hlen : us.toArray.size = (enumL xs).length := by simp [hall.length, enumL_len]
  rw [hlen] at W
  refine ok σ₂ g₂ s₂ (enumL xs) _ _ _ _ _ _ _ hKK (l₁.trans l₂) S₂ W ⟨⟨_, he⟩, hit, hL.at fun o e => hkp a o e⟩ hkp (by show _ ≤ h'.objs.size; exact ar395 hsz) rfl rfl (fun b hb => ?_) (fun b hb => ?_) (fun j h hst b hb => ?_) fun i vals hi hPt => ?_
  · simp only [List.mem_cons, List.mem_nil_iff, or_false] at hb; rcases hb with rfl | rfl <;> first | exact Nat.le_add_right _ _ | exact Nat.le_refl _
  · simp only [List.mem_cons, List.mem_nil_iff, or_false] at hb
    rcases hb with rfl | rfl | rfl
    · exact .inl (by simp)
    · exact .inl (by simp)
    · exact .inr ⟨_, ha⟩
  · obtain ⟨⟨old, q1⟩, ⟨o2, q2, _⟩, _⟩ := hst
    simp only [List.mem_cons, List.mem_nil_iff, or_false] at hb
    rcases hb with rfl | rfl
    · exact ⟨_, q1⟩
    · exact ⟨_, q2⟩
  · obtain ⟨t, x, hx, rfl⟩ := hPt
    obtain ⟨d, h1, h2⟩ := hall.get' (show us[i]? = some x by simpa using hx)
    exact ⟨_, _, _, rfl, enumL_get xs i d h1, .int _ _, h2⟩
theorem acm2_pure {elt : Expr} {x₁ x₂ : Str} {ifs : List Expr} {fin : St → List Dsc → Prop} (b : PV × PV → Bool) (gg : PV × PV → Dsc) (mu₀ : List (Addr × MO)) {all : List (PV × PV)}
    (hturn : ∀ c ∈ all, ∀ loc, AN G k ⟨loc, mu₀⟩ x₁ (.d c.1) fun σ₁ => AN G k σ₁ x₂ (.d c.2) fun σ' => AB G pf k σ' (tests ifs k.env) (fun σ'' b' => b' = b c ∧ σ''.mu = mu₀ ∧ (b c = true → AW G pf k σ'' (eval elt k.env) (fun σ₃ D => σ₃.mu = mu₀ ∧ D = gg c) (fun _ => False))) (fun _ => False))
    (hfin : ∀ loc, fin ⟨loc, mu₀⟩ ((all.filter b).map gg)) : ∀ loc, ACm2 G pf k elt x₁ x₂ ifs fin all ⟨loc, mu₀⟩ [] := by
  have key : ∀ (cs : List (PV × PV)) (σ : St) (acc : List Dsc), σ.mu = mu₀ → acc ++ (cs.filter b).map gg = (all.filter b).map gg → (∀ c ∈ cs, c ∈ all) → ACm2 G pf k elt x₁ x₂ ifs fin cs σ acc := by
    intro cs
    induction cs with
    | nil =>
      rintro ⟨loc, mu⟩ acc rfl h _
      simp only [List.filter_nil, List.map_nil, List.append_nil] at h
      rw [ACm2, h]; exact hfin loc
    | cons c cs ih =>
      rintro ⟨loc, mu⟩ acc rfl h hm
      rw [ACm2]
      have h1 := hturn c (hm c (.head _)) loc
      intro keep hid s g' Q E v hK S i ok
      refine h1 keep hid s g' Q E v hK S i fun σ₁ s₁ g₁ p₁ l₁ S₁ => ok σ₁ s₁ g₁ (fun keep hid s g' Q E v hK S i ok => p₁ keep hid s g' Q E v hK S i fun σ' s' g'' p l S' => ok σ' s' g'' (fun keep hid s g Q E hK S ok er => p keep hid s g Q E hK S (fun σ'' b' s'' g'' p' l' S'' => ok σ'' b' s'' g'' ?_ l' S'') er) l S') l₁ S₁
      obtain ⟨rfl, e, p'⟩ := p'
      cases q : b c with
      | true =>
        first | refine ite_t ?_ | rw [if_pos rfl]
        refine (p' q).mono (fun σ₃ D ⟨e3, e4⟩ => ih σ₃ _ e3 ?_ fun c' h' => hm c' (.tail _ h')) fun _ x => x
        rw [← h, List.filter_cons, q]; simp [e4]
      | false =>
        first | refine ite_f ?_ | rw [if_neg (by decide)]
        refine ih σ'' acc e ?_ fun c' h' => hm c' (.tail _ h')
        rw [← h, List.filter_cons, q]; rfl
  exact fun loc => key all ⟨loc, mu₀⟩ [] rfl (by simp) fun _ h => h
inductive LS where
  | bad (n : Int)
  | ok (nm : List Int) (st : List PV)
theorem no_ls {n : Int} {a : List Int} {b : List PV} {P : Prop} (h : LS.bad n = LS.ok a b) : P := nomatch h
noncomputable def lrowOf (r : Str) : Str := (cut r ";").headD Str.empty
noncomputable def lrowR (nm : List Int) (st : List PV) (r : Str) (wh : Int) : LS :=
  match lwords (lrowOf r) with
  | [] => .ok nm st
  | w0 :: ws => if decide (ws.length = 2) && w0 == ("name" : Str) then
      (match lnum (ws.getD 0 Str.empty) with
        | none => .bad wh
        | some v => match lnum (ws.getD 1 Str.empty) with
          | none => .bad wh
          | some t => if v = nm.length + 1 then .ok (nm ++ [t]) st else .bad (-1))
    else if w0 == ("step" : Str) then (match lstepR st.length (lrowOf r) wh with | .bad n => .bad n | .ok v => .ok nm (st ++ [v])) else .bad wh
noncomputable def lrowsR : List Str → Int → List Int → List PV → LS
  | [], _, nm, st => .ok nm st
  | r :: rs, wh, nm, st => match lrowR nm st r wh with | .bad n => .bad n | .ok nm' st' => lrowsR rs (wh + 1) nm' st'
noncomputable def hollowB : PV → Bool
  | .tup [_, .tup [], _, _] => true
  | _ => false
noncomputable def holL (st : List PV) : List Int := (st.zipIdx.filter fun p => hollowB p.1).map fun p => (p.2 : Int)
noncomputable def lreadD (x : Str) : PV := match lrowsR (cut x "\n") 0 [] [] with
  | .bad n => .int n
  | .ok nm st => .tup [.lst (nm.map PV.int), .lst st, .int ((holL st).headD (-1))]
structure Lt (x : Str) : Prop where
  len : x.length ≤ 30000
  asc : Asc x
  row : ∀ r ∈ cut x "\n", Lo (lrowOf r)
theorem cut_ne (x m : Str) : cut x m ≠ [] := by
  have : ∀ cs ds d, cutL m cs ds d ≠ [] := by
    intro cs
    induction cs with
    | nil => intro ds d; simp [cutL]
    | cons c cs ih => intro ds d; unfold cutL; split <;> exact ih _ _
  exact this _ _ _
theorem lrowOf_mem (r : Str) : lrowOf r ∈ cut r ";" := by
  unfold lrowOf
  have := cut_ne r ";"
  cases q : cut r ";" with
  | nil => exact absurd q this
  | cons a b => exact .head _
noncomputable def IsStep (v : PV) : Prop := (Ex4 fun c cl ah note => And3 (v = stepV c cl ah note) (Asc c) (PVok 600 note))
theorem lstepR_step {n : Nat} {row : Str} {wh : Int} {v : PV} (hr : Lo row) (h : lstepR n row wh = .ok v) : IsStep v := by
  unfold lstepR at h
  have ca := cut_asc (m := "|") hr.asc
  have csp := hr.sp
  generalize cut row "|" = parts at h ca csp
  rcases parts with _ | ⟨q0, _ | ⟨q1, _ | ⟨q2, _ | ⟨q3, _ | ⟨q4, r⟩⟩⟩⟩⟩
  · exact no_lr h
  · exact no_lr h
  · exact no_lr h
  · exact no_lr h
  · dsimp only at h
    have hw0 := lwords_asc (ca q0 (.head _))
    have h3 := csp q3 (.tail _ (.tail _ (.tail _ (.head _))))
    have no := (nread_ok h3.2.1).up h3.2.2.1
    generalize lwords q0 = hd at h hw0
    rcases hd with _ | ⟨b0, _ | ⟨b1, _ | ⟨b2, _ | ⟨b3, r⟩⟩⟩⟩
    · exact no_lr h
    · exact no_lr h
    · exact no_lr h
    · dsimp only at h
      split at h
      · split at h
        · exact no_lr h
        · split at h
          · exact no_lr h
          · split at h
            · exact no_lr h
            · rename_i note _ e
              rw [e] at no
              cases no with | cons n1 _ =>
              split at h
              · cases h
                exact ⟨_, _, _, _, rfl, hw0 b2 (.tail _ (.tail _ (.head _))), n1⟩
              · exact no_lr h
      · exact no_lr h
    · exact no_lr h
  · exact no_lr h
theorem IsStep.ok {v : PV} (h : IsStep v) : PVok 601 v := by
  obtain ⟨c, cl, ah, note, rfl, hc, hn⟩ := h
  exact .tup (.cons hc.ok (.cons (.tup oks_ints) (.cons (.tup oks_ints) (.cons hn (.nil _)))))
theorem lrowR_keep {nm nm' : List Int} {st st' : List PV} {r : Str} {wh : Int} (hr : Lo (lrowOf r)) (h : lrowR nm st r wh = .ok nm' st') (hs : ∀ v ∈ st, IsStep v) :
    (∀ v ∈ st', IsStep v) ∧ st'.length ≤ st.length + 1 ∧ nm'.length ≤ nm.length + 1 := by
  unfold lrowR at h
  split at h
  · cases h; exact ⟨hs, by exact Nat.le_add_right _ _, by exact Nat.le_add_right _ _⟩
  · split at h
    · split at h
      · exact no_ls h
      · split at h
        · exact no_ls h
        · split at h
          · cases h; exact ⟨hs, by exact Nat.le_add_right _ _, by simp⟩
          · exact no_ls h
    · split at h
      · split at h
        · exact no_ls h
        · rename_i v e
          cases h
          refine ⟨fun u hu => ?_, by simp, by exact Nat.le_add_right _ _⟩
          rcases List.mem_append.mp hu with z | z
          · exact hs u z
          · rw [List.mem_singleton.mp z]; exact lstepR_step hr e
      · exact no_ls h
theorem lrowsR_keep : ∀ {rs : List Str} {wh : Int} {nm nm' : List Int} {st st' : List PV}, (∀ r ∈ rs, Lo (lrowOf r)) → lrowsR rs wh nm st = .ok nm' st' → (∀ v ∈ st, IsStep v) → ∀ v ∈ st', IsStep v
  | [], wh, nm, nm', st, st', _, h, hs => by cases h; exact hs
  | r :: rs, wh, nm, nm', st, st', hr, h, hs => by
    unfold lrowsR at h
    split at h
    · exact no_ls h
    · rename_i nm₁ st₁ e
      have k := lrowR_keep (hr r (.head _)) e hs
      exact lrowsR_keep (fun r' h' => hr r' (.tail _ h')) h k.1
theorem oks_of {n : Nat} : ∀ {ds : List PV}, (∀ v ∈ ds, PVok n v) → PVoks n ds
  | [], _ => .nil _
  | d :: ds, h => .cons (h d (.head _)) (oks_of fun v hv => h v (.tail _ hv))
theorem lreadD_ok {x : Str} (h : Lt x) : PVok 603 (lreadD x) := by
  unfold lreadD
  split
  · exact .int _ _
  · rename_i nm st e
    have k := lrowsR_keep h.row e (by simp)
    exact .tup (.cons (.lst oks_ints) (.cons (.lst (oks_of fun v hv => (k v hv).ok)) (.cons (.int _ _) (.nil _))))
noncomputable def FrzIn (a : Addr) (xs : List PV) (big : List (Str × Dsc)) : List (Str × Dsc) → Prop
  | [] => True
  | (x, D) :: r => (big.lookup x = some D ∨ (big.lookup x = some (.m a) ∧ D = .d (.lst xs))) ∧ FrzIn a xs big r
theorem FrzIn.sub {a : Addr} {xs : List PV} {big : List (Str × Dsc)} : ∀ {small : List (Str × Dsc)}, FrzIn a xs big small → ∀ x D, small.lookup x = some D → big.lookup x = some D ∨ (big.lookup x = some (.m a) ∧ D = .d (.lst xs))
  | [], _, x, D, h => by simp at h
  | (y, D') :: r, ⟨h1, h2⟩, x, D, h => by
    rw [List.lookup_cons] at h
    cases q : x == y with
    | true => rw [q] at h; obtain rfl := Option.some.inj h; rw [eq_of_beq q]; exact h1
    | false => rw [q] at h; exact h2.sub x D h
theorem hol_eq (st : List PV) : ((enumL st).filter fun c => hollowB c.2).map (fun c => Dsc.d c.1) = ((holL st).map PV.int).map Dsc.d := by
  simp [enumL, holL, List.filter_map, Function.comp_def]
set_option maxHeartbeats 4000000 in
theorem c_read (fx : Fx G pf) (hk : k.Ok) {x : Str} (hx : Lt x) (room : Room k.A 609) (h : P σ (.d (lreadD x))) : AC G pf k σ (.ref 340) [.d (.str x)] P F := by
  refine ac_def fx.ok hk (fx.k (a := 340) (i := 33) (by decide)) (n := 608) room (own := σ.mu) (muIn := []) (by simp) ["text"] (fun name doc pm an cdv ct vs hvs => ?_) rfl (by decide +kernel) (by decide +kernel) rfl rfl rfl fun L cd hk' hF' rm => ?_
  · obtain ⟨a, rfl⟩ := len1 hvs; rfl
  have sl := sl_eq
  have xl := hx.len
  have un := rm.2
  have cl := cut_len (x := x) (m := "\n")
  have ce := cut_each (x := x) (m := "\n")
  have ca := cut_asc (m := "\n") hx.asc
  have cr := hx.row
  refine ax_l4 ?_; intro z1a z1b z1c z1d; refine ax_cons (ax_unpack hk' ["names", "steps", "rows"] ?_)
  refine al_cons (aw_list (al_nil ⟨Nat.zero_le _, fun aN => ?_⟩))
  refine al_cons (aw_list (al_nil ⟨Nat.zero_le _, fun aS => ?_⟩))
  refine al_cons (aw_fn fx hk' (a := 294) (i := 25) (by decide) rfl rfl ?_)
  (refine al_cons ?_; refine aw_loc (by assumption) rfl rfl ?_; refine al_cons ?_; refine aw_str ?_; refine al_nil ?_)
  refine c_cut fx hk' (by exact Nat.le_trans xl (by decide)) (rm.less (by exact Nat.succ_pos _)) ?_
  refine al_nil ⟨rfl, by decide, ?_⟩
  show AN _ _ _ _ _ _
  refine an_loc hk' rfl ?_
  show AN _ _ _ _ _ _
  refine an_loc hk' rfl ?_
  show AN _ _ _ _ _ _
  refine an_loc hk' rfl ?_
  show AX _ _ _ _ _ _ _ _
  unfold lreadD at h
  generalize hrows : cut x "\n" = rows at h cl ce ca cr ⊢
  refine ax_l1 ?_; intro z2a; refine ax_cons (ax_for hk' hF' ?_)
  refine aw_bl fx hk' (v := .type "range") (by decide) (by kernel_rfl) (.type _) rfl ?_
  refine al_cons (aw_bl fx hk' (v := .builtin "len") (by decide) (by kernel_rfl) (.blt _) rfl ?_)
  (refine al_cons ?_; refine aw_loc (by assumption) rfl rfl ?_; refine al_nil ?_)
  refine ac_lenl (by simp only [List.length_map]; exact Int.ofNat_lt.mpr (Nat.lt_of_le_of_lt cl (Nat.lt_of_le_of_lt (Nat.add_le_add_right xl _) (by decide)))) ?_
  refine al_nil ?_
  refine ac_range fun o ho => ⟨_, src_range hk' ho (by simp only [List.length_map]; exact Int.ofNat_lt.mpr (Nat.lt_of_le_of_lt cl (Nat.lt_of_le_of_lt (Nat.add_le_add_right xl _) (by decide)))) (by simp only [List.length_map]; exact ar130), ?_⟩
  rw [show rngs ((rows.map PV.str).length : Int) = (List.range rows.length).map fun (i : Nat) => PV.int (i : Int) by unfold rngs; simp]
  refine af_ind (fun (i : Nat) => PV.int (i : Int)) (fun cs σ' => (Ex3 fun (n : Nat) (nm : List Int) (st : List PV) => And7 (cs = List.range' n (rows.length - n)) (n ≤ rows.length) (lrowsR (rows.drop n) n nm st = lrowsR rows 0 [] []) (st.length ≤ n) (nm.length ≤ n) ((∀ v ∈ st, IsStep v)) (σ' = ⟨[("names", .m aN), ("steps", .m aS), ("rows", .d (.lst (rows.map PV.str))), ("text", .d (.str x))], [(aS, .lst (st.map Dsc.d)), (aN, .lst ((nm.map PV.int).map Dsc.d))]⟩))) ?_ ?_ _ _ ⟨0, [], [], by rw [List.range_eq_range']; simp, Nat.zero_le _, rfl, Nat.le_refl _, Nat.le_refl _, by simp, rfl⟩
  · rintro σ' ⟨n, nm, st, hcs, hn, hrd, hp1, hp2, hst, rfl⟩
    have hn0 : rows.length - n = 0 := by
      have := congrArg List.length hcs
      simpa using this.symm
    rw [List.drop_eq_nil_of_le (by exact ar159 hn0)] at hrd
    rw [← hrd] at h
    have h : P σ (.d (.tup [.lst (nm.map PV.int), .lst st, .int ((holL st).headD (-1))])) := h
    refine ax_freeze (a := aS) (xs := st) (mu' := [(aN, .lst ((nm.map PV.int).map Dsc.d))]) (loc' := [("names", .m aN), ("steps", .d (.lst st)), ("rows", .d (.lst (rows.map PV.str))), ("text", .d (.str x))]) (List.Perm.refl _) (FrzIn.sub ⟨.inl rfl, .inr ⟨rfl, rfl⟩, .inl rfl, .inl rfl, trivial⟩) ?_
    refine ax_l1 ?_; intro z3a; refine ax_cons (ax_compE hk' (cl := []) rfl (aiter_enum fx hk' rfl (aw_loc hk' rfl rfl ⟨st, rfl, ?_⟩)) rfl)
    refine ⟨by rw [enumL_len]; exact ar399 sl xl cl hn hp1, fun C hkC => ?_⟩
    refine acm2_pure (fun c => hollowB c.2) (fun c => .d c.1) [(aN, .lst ((nm.map PV.int).map Dsc.d))] (fun c hc loc => ?_) (fun loc => ?_) _
    · obtain ⟨p, hp, rfl⟩ := List.mem_map.mp hc
      have hmem : p.1 ∈ st := by
        have := List.mem_zipIdx hp
        rw [this.2.2]; exact List.getElem_mem _
      obtain ⟨cc, ccl, cah, cnote, e, _, _⟩ := hst p.1 hmem
      dsimp only
      rw [e]
      (refine an_loc (by assumption) rfl ?_; (try dsimp only))
      (refine an_loc (by assumption) rfl ?_; (try dsimp only))
      refine ab_tests_one ?_
      (refine ab_cmp ?_; refine aw_sub ?_; refine aw_loc (by assumption) rfl rfl ?_; refine aw_int ?_)
      refine ao_item_tup (n := 1) (d := .tup (ccl.map PV.int)) (by decide) (by decide) (by rfl) rfl ?_
      (refine aw_tuple ?_; refine al_nil ?_)
      refine ⟨[], rfl, Nat.zero_le _, ?_⟩
      refine ao_eq (n := 1) (m := 1) (.tup oks_ints) (.tup (.nil _)) (rm.less (by exact Nat.zero_le _)) (by show (k.call (fnN topB 33) (fnS topB 33) L 340 cd []).A.units + 1 < 9900; exact ar401 un) (at_bool ⟨?_, rfl, fun _ => ?_⟩)
      · cases ccl with
        | nil => exact eqb_self _
        | cons a b => exact eqb_ne (by simp)
      · exact aw_loc hkC rfl rfl ⟨rfl, rfl⟩
    refine ⟨[], [(aN, .lst ((nm.map PV.int).map Dsc.d))], rfl, rfl, fun aH => ?_⟩
    rw [hol_eq]
    refine ax_freeze (a := aH) (xs := (holL st).map PV.int) (mu' := [(aN, .lst ((nm.map PV.int).map Dsc.d))]) (loc' := [("hollow", .d (.lst ((holL st).map PV.int))), ("names", .m aN), ("steps", .d (.lst st)), ("rows", .d (.lst (rows.map PV.str))), ("text", .d (.str x))]) (List.Perm.refl _) (FrzIn.sub ⟨.inr ⟨rfl, rfl⟩, .inl rfl, .inl rfl, .inl rfl, .inl rfl, trivial⟩) ?_
    refine ax_cons (ax_ret (aw_tuple ?_))
    refine al_cons (aw_freeze (aw_loc hk' rfl rfl ⟨aN, nm.map PV.int, [], rfl, List.Perm.refl _, ?_⟩))
    (refine al_cons ?_; refine aw_loc (by assumption) rfl rfl ?_; refine al_cons ?_)
    refine aw_same (.d (.int ((holL st).headD (-1)))) ?_ ?_
    · refine aw_ife ?_
      (refine ab_cmp ?_; refine aw_loc (by assumption) rfl rfl ?_)
      refine aw_listD (al_nil ⟨[], rfl, Nat.zero_le _, ?_⟩)
      refine ao_ne (n := 1) (m := 1) (.lst oks_ints) (.lst (.nil _)) (rm.less (by exact Nat.zero_le _)) (by show (k.call (fnN topB 33) (fnS topB 33) L 340 cd []).A.units + 1 < 9900; exact ar401 un) (at_bool ?_)
      generalize holL st = hl
      cases hl with
      | nil =>
        rw [show eqb (PV.lst (([] : List Int).map PV.int)) (.lst []) = true from eqb_self _, if_neg (by decide)]
        exact aw_m1 ⟨rfl, rfl⟩
      | cons a b =>
        rw [eqb_ne (by simp), if_pos (by rfl)]
        (refine aw_sub ?_; refine aw_loc (by assumption) rfl rfl ?_; refine aw_int ?_)
        exact ao_item_list (d := .int a) (by decide) (by decide) rfl ⟨rfl, rfl⟩
    refine al_nil ?_
    refine ⟨[.lst (nm.map PV.int), .lst st, .int ((holL st).headD (-1))], rfl, by show 3 ≤ sizeLine; exact ar179 sl, ?_⟩
    exact fin0 h
  · rintro i cs σ' ⟨n, nm, st, hcs, hn, hrd, hp1, hp2, hst, rfl⟩
    have hlt : n < rows.length := by
      rcases Nat.lt_or_ge n rows.length with z | z
      · exact z
      · rw [show rows.length - n = 0 by exact ar160 z] at hcs; cases hcs
    obtain ⟨hi, hcs'⟩ : i = n ∧ cs = List.range' (n + 1) (rows.length - (n + 1)) := by
      rw [show rows.length - n = (rows.length - (n + 1)) + 1 by exact ar161 hlt, List.range'_succ] at hcs
      exact ⟨(List.cons.inj hcs).1, (List.cons.inj hcs).2⟩
    subst hi
    obtain ⟨r, hr⟩ : ∃ r, rows[i]? = some r := ⟨rows[i], by simp [hlt]⟩
    have hrm := List.mem_of_getElem? hr
    have rl := ce r hrm
    have lo := cr r hrm
    have ra := ca r hrm
    have rowm := lrowOf_mem r
    have rowl := cut_each _ rowm
    have rowa := cut_asc ra _ rowm
    have hd : rows.drop i = r :: rows.drop (i + 1) := by
      rw [List.drop_eq_getElem_cons hlt]
      rw [List.getElem?_eq_getElem hlt] at hr
      obtain rfl := Option.some.inj hr; rfl
    rw [hd, lrowsR] at hrd
    have bad : ∀ n, lrowR nm st r i = .bad n → P σ (.d (.int n)) := fun n e => by
      rw [e] at hrd
      rw [← hrd] at h
      exact h
    have good : ∀ nm' st', lrowR nm st r i = .ok nm' st' → ∀ loc, AllIn loc [("names", .m aN), ("steps", .m aS), ("rows", .d (.lst (rows.map PV.str))), ("text", .d (.str x))] →
        AX G pf (k.call (fnN topB 33) (fnS topB 33) L 340 cd []) ⟨loc, [(aS, .lst (st'.map Dsc.d)), (aN, .lst ((nm'.map PV.int).map Dsc.d))]⟩ (execs [] (k.call (fnN topB 33) (fnS topB 33) L 340 cd []).env) (fun σ' => (Ex3 fun (n : Nat) (nm : List Int) (st : List PV) => And7 (cs = List.range' n (rows.length - n)) (n ≤ rows.length) (lrowsR (rows.drop n) n nm st = lrowsR rows 0 [] []) (st.length ≤ n) (nm.length ≤ n) ((∀ v ∈ st, IsStep v)) (σ' = ⟨[("names", .m aN), ("steps", .m aS), ("rows", .d (.lst (rows.map PV.str))), ("text", .d (.str x))], [(aS, .lst (st.map Dsc.d)), (aN, .lst ((nm.map PV.int).map Dsc.d))]⟩)))
          (fun σ' D => (Ex2 fun ext muOut => And3 (σ'.mu = ext ++ muOut) (List.map (fun x => x.fst) muOut = List.map (fun x => x.fst) ([] : List (Addr × MO))) (P ⟨σ.loc, σ.mu ++ muOut⟩ D))) F := fun nm' st' e loc hloc => by
      have k := lrowR_keep lo e hst
      rw [e] at hrd
      exact ax_nil_f (σ' := ⟨[("names", .m aN), ("steps", .m aS), ("rows", .d (.lst (rows.map PV.str))), ("text", .d (.str x))], _⟩) hloc rfl ⟨i + 1, nm', st', hcs', by exact hlt, by simpa using hrd, by exact ar169 hp1 k.2.1, by exact ar169 hp2 k.2.2, k.1, rfl⟩
    refine as_name ?_
    (refine an_loc (by assumption) rfl ?_; (try dsimp only))
    refine ax_l4 ?_; intro z5a z5b z5c z5d; refine ax_cons (ax_asgn (aw_sub (aw_fn fx hk' (a := 294) (i := 25) (by decide) rfl rfl ?_)))
    (refine al_cons ?_; refine aw_sub ?_; refine aw_loc (by assumption) rfl rfl ?_; refine aw_loc (by assumption) rfl rfl ?_)
    refine ao_item_list (d := .str r) (by exact ar68) (by exact ar402 xl cl hn) (by simpa using hr) ?_
    (refine al_cons ?_; refine aw_str ?_; refine al_nil ?_)
    refine c_cut fx hk' (by exact Nat.le_trans rl (Nat.le_trans xl (by decide))) (rm.less (by exact Nat.succ_pos _)) ?_
    refine aw_int ?_
    refine ao_item_list (d := .str (lrowOf r)) (by decide) (by decide) ?_ ?_
    · unfold lrowOf
      have := cut_ne r ";"
      cases q : cut r ";" with
      | nil => exact absurd q this
      | cons a b => rfl
    (refine an_loc (by assumption) rfl ?_; (try dsimp only); refine ax_cons ?_; refine ax_asgn ?_)
    refine aw_fn fx hk' (a := 299) (i := 26) (by decide) rfl rfl ?_
    (refine al_cons ?_; refine aw_loc (by assumption) rfl rfl ?_; refine al_nil ?_)
    refine c_words fx hk' (by exact Nat.le_trans rowl (Nat.le_trans rl (Nat.le_trans xl (by decide)))) (rm.less (by exact Nat.le_add_left _ _)) ?_
    (refine an_loc (by assumption) rfl ?_; (try dsimp only); refine ax_cons ?_; refine ax_if ?_; refine ab_bool ?_; refine ab_and ?_; refine ab_cmp ?_)
    have wl := lwords_len (x := lrowOf r)
    have wa := lwords_asc rowa
    have we := lwords_each (x := lrowOf r)
    have rowEq : lrowR nm st r i = match lwords (lrowOf r) with
      | [] => .ok nm st
      | w0 :: ws => if decide (ws.length = 2) && w0 == ("name" : Str) then
          (match lnum (ws.getD 0 Str.empty) with
            | none => .bad i
            | some v => match lnum (ws.getD 1 Str.empty) with
              | none => .bad i
              | some t => if v = nm.length + 1 then .ok (nm ++ [t]) st else .bad (-1))
        else if w0 == ("step" : Str) then (match lstepR st.length (lrowOf r) i with | .bad n => .bad n | .ok v => .ok nm (st ++ [v])) else .bad i := rfl
    generalize lwords (lrowOf r) = wds at rowEq wl wa we ⊢
    refine aw_bl fx hk' (v := .builtin "len") (by decide) (by kernel_rfl) (.blt _) rfl ?_
    (refine al_cons ?_; refine aw_loc (by assumption) rfl rfl ?_; refine al_nil ?_)
    refine ac_lenl (by simp only [List.length_map]; exact ar405 xl rl rowl wl) ?_
    refine aw_int ?_
    refine ao_eqi (at_bool ?_)
    rw [List.length_map]
    rcases wds with _ | ⟨w0, ws⟩
    · rw [show ((([] : List Str).length : Int) == 3) = false from rfl, if_neg (by decide), if_neg (by decide)]
      refine ax_cons (ax_if (ab_cmp (aw_lslice (aw_loc hk' rfl rfl ?_))))
      (refine aw_pnone ?_; refine aw_psome ?_; refine aw_int ?_)
      refine ⟨[], none, some (Int.ofNat 1), [], .inl rfl, rfl, rfl, Nat.zero_le _, rfl, ?_⟩
      refine aw_listD ?_
      (refine al_cons ?_; refine aw_str ?_; refine al_nil ?_)
      refine ⟨[.str "step"], rfl, by show 1 ≤ sizeLine; exact ar41 sl, ?_⟩
      refine ao_eq (n := 1) (m := 1) (.lst (.nil _)) (.lst (.cons (.str _ _ (by decide +kernel)) (.nil _))) (rm.less (by exact Nat.zero_le _)) (by show _ < 9900; exact ar401 un) (at_bool ?_)
      rw [eqb_ne (by simp), if_neg (by decide)]
      (refine ax_cons ?_; refine ax_l2 ?_; intro z12a z12b; refine ax_if ?_; refine ab_cmp ?_; refine aw_loc (by assumption) rfl rfl ?_)
      refine aw_listD (al_nil ⟨[], rfl, Nat.zero_le _, ?_⟩)
      refine ao_ne (n := 1) (m := 1) (.lst (.nil _)) (.lst (.nil _)) (rm.less (by exact Nat.zero_le _)) (by show _ < 9900; exact ar401 un) (at_bool ?_)
      rw [show eqb (PV.lst (([] : List Str).map PV.str)) (.lst []) = true from eqb_self _, if_neg (by decide)]
      refine ax_nil (ax_nil (ax_nil ?_))
      exact good nm st rowEq _ ⟨rfl, rfl, rfl, rfl, trivial⟩
    dsimp only at rowEq
    have a0 := wa w0 (.head _)
    rw [show (((w0 :: ws).length : Int) == 3) = decide (ws.length = 2) by rw [Bool.eq_iff_iff]; simp; exact ar166]
    have rest : ∀ PX' R', (∀ n, (if w0 == ("step" : Str) then (match lstepR st.length (lrowOf r) i with | .bad n => LS.bad n | .ok v => .ok nm (st ++ [v])) else .bad i) = .bad n → R' ⟨put "words" (.d (.lst ((w0 :: ws).map PV.str))) (put "row" (.d (.str (lrowOf r))) (put "where" (.d (.int i)) [("names", .m aN), ("steps", .m aS), ("rows", .d (.lst (rows.map PV.str))), ("text", .d (.str x))])), [(aS, .lst (st.map Dsc.d)), (aN, .lst ((nm.map PV.int).map Dsc.d))]⟩ (.d (.int n)) ∧ R' ⟨put "found" (.d (.int n)) (put "words" (.d (.lst ((w0 :: ws).map PV.str))) (put "row" (.d (.str (lrowOf r))) (put "where" (.d (.int i)) [("names", .m aN), ("steps", .m aS), ("rows", .d (.lst (rows.map PV.str))), ("text", .d (.str x))]))), [(aS, .lst (st.map Dsc.d)), (aN, .lst ((nm.map PV.int).map Dsc.d))]⟩ (.d (.int n))) →
        (∀ v, lstepR st.length (lrowOf r) i = .ok v → w0 = "step" → PX' ⟨put "found" (.d v) (put "words" (.d (.lst ((w0 :: ws).map PV.str))) (put "row" (.d (.str (lrowOf r))) (put "where" (.d (.int i)) [("names", .m aN), ("steps", .m aS), ("rows", .d (.lst (rows.map PV.str))), ("text", .d (.str x))]))), [(aS, .lst ((st ++ [v]).map Dsc.d)), (aN, .lst ((nm.map PV.int).map Dsc.d))]⟩) →
        AX G pf (k.call (fnN topB 33) (fnS topB 33) L 340 cd []) ⟨put "words" (.d (.lst ((w0 :: ws).map PV.str))) (put "row" (.d (.str (lrowOf r))) (put "where" (.d (.int i)) [("names", .m aN), ("steps", .m aS), ("rows", .d (.lst (rows.map PV.str))), ("text", .d (.str x))])), [(aS, .lst (st.map Dsc.d)), (aN, .lst ((nm.map PV.int).map Dsc.d))]⟩
          (execs (match (fnB topB 33)[1]? with | some (Stmt.For _ _ [_, _, Stmt.If _ _ o _] _ _) => o | _ => []) (k.call (fnN topB 33) (fnS topB 33) L 340 cd []).env) PX' R' F := fun PX' R' hbad hgood => by
      refine ax_l4 ?_; intro z13a z13b z13c z13d; refine ax_cons (ax_if (ab_cmp (aw_lslice (aw_loc hk' rfl rfl ?_))))
      (refine aw_pnone ?_; refine aw_psome ?_; refine aw_int ?_)
      refine ⟨(w0 :: ws).map PV.str, none, some (Int.ofNat 1), [.str w0], .inl rfl, rfl, rfl, by simp only [List.length_map]; exact ar406 sl xl rl rowl wl, rfl, ?_⟩
      refine aw_listD ?_
      (refine al_cons ?_; refine aw_str ?_; refine al_nil ?_)
      refine ⟨[.str "step"], rfl, by show 1 ≤ sizeLine; exact ar41 sl, ?_⟩
      refine ao_eq (n := 1) (m := 1) (.lst (.cons a0.ok (.nil _))) (.lst (.cons (.str _ _ (by decide +kernel)) (.nil _))) (rm.less (by exact Nat.zero_le _)) (by show _ < 9900; exact ar401 un) (at_bool ?_)
      rw [show eqb (PV.lst [PV.str w0]) (.lst [.str "step"]) = (w0 == ("step" : Str)) by rw [show PV.lst [PV.str w0] = PV.lst ([w0].map PV.str) from rfl, show PV.lst [PV.str "step"] = PV.lst ([("step" : Str)].map PV.str) from rfl, eqb_strs, Bool.eq_iff_iff]; simp]
      cases qs : (w0 == ("step" : Str)) with
      | true =>
        rw [qs, if_pos rfl] at hbad
        first | refine ite_t ?_ | rw [if_pos rfl]
        refine ax_cons (ax_asgn (aw_fn fx hk' (a := 335) (i := 32) (by decide) rfl rfl ?_))
        (refine al_cons ?_; refine aw_loc (by assumption) rfl rfl ?_; refine al_cons ?_; refine aw_loc (by assumption) rfl rfl ?_; refine al_cons ?_; refine aw_loc (by assumption) rfl rfl ?_; refine al_nil ?_)
        refine c_lstep fx hk' (own := [(aN, .lst ((nm.map PV.int).map Dsc.d))]) (List.Perm.refl _) lo (by exact ar407 xl cl hn hp1) (rm.less (by exact Nat.le_add_left _ _)) ?_
        (refine an_loc (by assumption) rfl ?_; (try dsimp only))
        refine ax_cons (ax_if (ab_val (aw_bl fx hk' (v := .builtin "isinstance") (by decide) (by kernel_rfl) (.blt _) rfl ?_)))
        (refine al_cons ?_; refine aw_loc (by assumption) rfl rfl ?_; refine al_cons ?_)
        refine aw_blt (v := .type "int") fx.ok hk' rfl (fx.blt "int" (by decide)) (by kernel_rfl) ?_
        refine al_nil ?_
        refine ac_isi_int (at_bool ?_)
        cases el : lstepR st.length (lrowOf r) i with
        | bad n =>
          rw [el] at hbad
          rw [if_pos (by rfl)]
          (refine ax_l1 ?_; intro z16a; refine ax_cons ?_; refine ax_ret ?_; refine aw_loc (by assumption) rfl rfl ?_)
          exact (hbad n rfl).2
        | ok v =>
          obtain ⟨c1, c2, c3, c4, e5, _⟩ := lstepR_step lo el
          rw [if_neg (by rw [e5]; simp [lrD, stepV])]
          refine ax_nil ?_
          refine ax_l1 ?_; intro z18a; refine ax_cons (ax_expr (aw_meth fx.ok PySem.F.plainAttrs_list PySem.F.slot_list_append (by kernel_rfl) (aw_loc hk' rfl rfl ⟨⟨rfl, _, .head _⟩, ?_⟩)))
          (refine al_cons ?_; refine aw_loc (by assumption) rfl rfl ?_; refine al_nil ?_)
          refine ac_append .head (by simp; exact ar399 sl xl cl hn hp1) ?_
          refine ax_nil (ax_nil ?_)
          have := hgood v el (eq_of_beq qs)
          rw [List.map_append] at this
          exact this
      | false =>
        rw [qs, if_neg (by decide)] at hbad
        first | refine ite_f ?_ | rw [if_neg (by decide)]
        (refine ax_cons ?_; refine ax_if ?_; refine ab_cmp ?_; refine aw_loc (by assumption) rfl rfl ?_)
        refine aw_listD (al_nil ⟨[], rfl, Nat.zero_le _, ?_⟩)
        refine ao_ne (n := 1) (m := 1) (.lst (oks_strs wa)) (.lst (.nil _)) (rm.less (by exact Nat.zero_le _)) (by show _ < 9900; exact ar401 un) (at_bool ?_)
        rw [eqb_ne (by simp), if_pos (by rfl)]
        (refine ax_cons ?_; refine ax_l2 ?_; intro z22a z22b; refine ax_ret ?_; refine aw_loc (by assumption) rfl rfl ?_)
        exact (hbad i rfl).1
    have elif : (decide (ws.length = 2) && w0 == ("name" : Str)) = false → AX G pf (k.call (fnN topB 33) (fnS topB 33) L 340 cd []) ⟨put "words" (.d (.lst ((w0 :: ws).map PV.str))) (put "row" (.d (.str (lrowOf r))) (put "where" (.d (.int i)) [("names", .m aN), ("steps", .m aS), ("rows", .d (.lst (rows.map PV.str))), ("text", .d (.str x))])), [(aS, .lst (st.map Dsc.d)), (aN, .lst ((nm.map PV.int).map Dsc.d))]⟩
          (execs (match (fnB topB 33)[1]? with | some (Stmt.For _ _ [_, _, Stmt.If _ _ o _] _ _) => o | _ => []) (k.call (fnN topB 33) (fnS topB 33) L 340 cd []).env) (fun σ' => AX G pf (k.call (fnN topB 33) (fnS topB 33) L 340 cd []) σ' (execs [] (k.call (fnN topB 33) (fnS topB 33) L 340 cd []).env) (fun σ' => (Ex3 fun (n : Nat) (nm : List Int) (st : List PV) => And7 (cs = List.range' n (rows.length - n)) (n ≤ rows.length) (lrowsR (rows.drop n) n nm st = lrowsR rows 0 [] []) (st.length ≤ n) (nm.length ≤ n) ((∀ v ∈ st, IsStep v)) (σ' = ⟨[("names", .m aN), ("steps", .m aS), ("rows", .d (.lst (rows.map PV.str))), ("text", .d (.str x))], [(aS, .lst (st.map Dsc.d)), (aN, .lst ((nm.map PV.int).map Dsc.d))]⟩)))
          (fun σ' D => (Ex2 fun ext muOut => And3 (σ'.mu = ext ++ muOut) (List.map (fun x => x.fst) muOut = List.map (fun x => x.fst) ([] : List (Addr × MO))) (P ⟨σ.loc, σ.mu ++ muOut⟩ D))) F) (fun σ' D => (Ex2 fun ext muOut => And3 (σ'.mu = ext ++ muOut) (List.map (fun x => x.fst) muOut = List.map (fun x => x.fst) ([] : List (Addr × MO))) (P ⟨σ.loc, σ.mu ++ muOut⟩ D))) F := fun q => by
      rw [q, if_neg (by decide)] at rowEq
      refine rest _ _ (fun n e => ?_) (fun v e1 e2 => ?_)
      · rw [e] at rowEq
        exact ⟨fin0 (bad n rowEq), fin0 (bad n rowEq)⟩
      · rw [e2, e1] at rowEq
        exact good nm (st ++ [v]) rowEq _ ⟨rfl, rfl, rfl, rfl, trivial⟩
    by_cases hl : ws.length = 2
    · rw [decide_eq_true hl, if_pos rfl]
      obtain ⟨w1, w2, rfl⟩ := len2 hl
      (refine ab_and ?_; refine ab_cmp ?_; refine aw_sub ?_; refine aw_loc (by assumption) rfl rfl ?_; refine aw_int ?_)
      refine ao_item_list (d := .str w0) (by decide) (by decide) rfl ?_
      refine aw_str ?_
      refine ao_eqs (at_bool ?_)
      cases qn : (w0 == ("name" : Str)) with
      | false =>
        rw [if_neg (by decide), if_neg (by decide)]
        exact elif (by rw [qn]; simp)
      | true =>
        first | refine ite_t ?_ | rw [if_pos rfl]
        refine ab_and_nil ?_
        first | refine ite_t ?_ | rw [if_pos rfl]
        rw [decide_eq_true hl, qn, Bool.true_and, if_pos rfl] at rowEq
        have rowEq : lrowR nm st r i = match lnum w1 with
            | none => .bad i
            | some v => match lnum w2 with
              | none => .bad i
              | some t => if v = nm.length + 1 then .ok (nm ++ [t]) st else .bad (-1) := rowEq
        have b1 := wa w1 (.tail _ (.head _))
        have b2 := wa w2 (.tail _ (.tail _ (.head _)))
        have f1 := we w1 (.tail _ (.head _))
        have f2 := we w2 (.tail _ (.tail _ (.head _)))
        refine ax_l1 ?_; intro z23a; refine ax_cons (ax_unpack hk' ["var", "term"] ?_)
        refine al_cons (aw_fn fx hk' (a := 306) (i := 27) (by decide) rfl rfl ?_)
        (refine al_cons ?_; refine aw_sub ?_; refine aw_loc (by assumption) rfl rfl ?_; refine aw_int ?_)
        refine ao_item_list (d := .str w1) (by decide) (by decide) rfl ?_
        refine al_nil ?_
        refine c_number fx hk' (by exact ar409 xl rl rowl f1) b1 (rm.less (by exact Nat.le_add_left _ _)) ?_
        refine al_cons (aw_fn fx hk' (a := 306) (i := 27) (by decide) rfl rfl ?_)
        (refine al_cons ?_; refine aw_sub ?_; refine aw_loc (by assumption) rfl rfl ?_; refine aw_int ?_)
        refine ao_item_list (d := .str w2) (by decide) (by decide) rfl ?_
        refine al_nil ?_
        refine c_number fx hk' (by exact ar409 xl rl rowl f2) b2 (rm.less (by exact Nat.le_add_left _ _)) ?_
        refine al_nil ⟨rfl, by decide, ?_⟩
        show AN _ _ _ _ _ _
        refine an_loc hk' rfl ?_
        show AN _ _ _ _ _ _
        refine an_loc hk' rfl ?_
        show AX _ _ _ _ _ _ _ _
        (refine ax_cons ?_; refine ax_if ?_; refine ab_bool ?_; refine ab_or ?_; refine ab_cmp ?_; refine aw_loc (by assumption) rfl rfl ?_; refine aw_none ?_)
        refine ao_isN (at_bool ?_)
        cases q1 : lnum w1 with
        | none =>
          rw [q1] at rowEq
          rw [show isN (opt none) = true from rfl, if_pos rfl, if_pos rfl]
          (refine ax_l1 ?_; intro z26a; refine ax_cons ?_; refine ax_ret ?_; refine aw_loc (by assumption) rfl rfl ?_)
          exact fin0 (bad i rowEq)
        | some v =>
          rw [q1] at rowEq
          dsimp only at rowEq
          rw [show isN (opt (some v)) = false from rfl, if_neg (by decide)]
          (refine ab_or ?_; refine ab_cmp ?_; refine aw_loc (by assumption) rfl rfl ?_; refine aw_none ?_)
          refine ao_isN (at_bool ?_)
          cases q2 : lnum w2 with
          | none =>
            rw [q2] at rowEq
            rw [show isN (opt none) = true from rfl, if_pos rfl, if_pos rfl]
            (refine ax_l1 ?_; intro z28a; refine ax_cons ?_; refine ax_ret ?_; refine aw_loc (by assumption) rfl rfl ?_)
            exact fin0 (bad i rowEq)
          | some tm =>
            rw [q2] at rowEq
            dsimp only at rowEq
            rw [show isN (opt (some tm)) = false from rfl, if_neg (by decide)]
            refine ab_or_nil ?_
            first | refine ite_f ?_ | rw [if_neg (by decide)]
            refine ax_nil ?_
            (refine ax_l1 ?_; intro z30a; refine ax_cons ?_; refine ax_if ?_; refine ab_cmp ?_; refine aw_loc (by assumption) rfl rfl ?_; refine aw_bin ?_)
            refine aw_bl fx hk' (v := .builtin "len") (by decide) (by kernel_rfl) (.blt _) rfl ?_
            (refine al_cons ?_; refine aw_loc (by assumption) rfl rfl ?_; refine al_nil ?_)
            refine ac_lenm (.tail _ (.head _)) (by simp; exact ar410 xl cl hn hp2) ?_
            rw [List.length_map, List.length_map]
            refine aw_int ?_
            refine ao_add ?_
            refine ao_nei (at_bool ?_)
            by_cases hv : v = nm.length + 1
            · rw [if_pos hv] at rowEq
              rw [show (v != (nm.length : Int) + 1) = false by simp [hv], if_neg (by decide)]
              refine ax_nil ?_
              refine ax_cons (ax_expr (aw_meth fx.ok PySem.F.plainAttrs_list PySem.F.slot_list_append (by kernel_rfl) (aw_loc hk' rfl rfl ⟨⟨rfl, _, .tail _ (.head _)⟩, ?_⟩)))
              (refine al_cons ?_; refine aw_loc (by assumption) rfl rfl ?_; refine al_nil ?_)
              refine ac_append (.tail .head) (by simp; exact ar399 sl xl cl hn hp2) ?_
              refine ax_nil ?_
              have := good (nm ++ [tm]) st rowEq
              rw [List.map_append, List.map_append] at this
              exact this _ ⟨rfl, rfl, rfl, rfl, trivial⟩
            · rw [if_neg hv] at rowEq
              rw [show (v != (nm.length : Int) + 1) = true by simp [hv], if_pos rfl]
              (refine ax_cons ?_; refine ax_l2 ?_; intro z34a z34b; refine ax_ret ?_; refine aw_m1 ?_)
              exact fin0 (bad (-1) rowEq)
    · rw [decide_eq_false hl, if_neg (by decide), if_neg (by decide)]
      exact elif (by rw [decide_eq_false hl]; rfl)
noncomputable def Drawn (x : Str) : Prop := (Ex2 fun names steps => And5 ((∀ r ∈ names, NameRow r)) (names.length ≤ 2) ((∀ r ∈ steps, StepRow r)) (steps.length ≤ 4) (x = Txt.join "\n" (names ++ steps)))
theorem Drawn.len {x : Str} (h : Drawn x) : x.length ≤ 3700 := by
  obtain ⟨names, steps, h1, h2, h3, h4, rfl⟩ := h
  have a := join_le "\n" (names ++ steps)
  have sm := sum_le (l := names ++ steps) (n := 600) (fun y hy => by
    rcases List.mem_append.mp hy with z | z
    · have := (h1 y z).len; exact Nat.le_trans this (by decide)
    · exact (h3 y z).len)
  have e : ("\n" : Str).length = 1 := rfl
  rw [List.length_append] at sm a
  rw [e] at a
  exact ar411 h2 h4 a sm
structure Plain : Prop where
  note : ∀ d, NoteP 3 d → noteFrom (noteT d) = some d ∧ Wds (spread (noteT d)) ∧ (Txt.replace (noteT d) "(" " ( ").length ≤ 1000000
  text : ∀ x n y, Drawn x → n ≤ 2 → Bchain x n y → Tx y ∧ Lt y ∧ heardD y = lreadD y
theorem note_ok : ∀ {n : Nat} {d : PV}, NoteP n d → PVok n d
  | _, _, .none _ => .none _
  | _, _, .int _ i _ => .int _ _
  | _, _, .str _ x h => .str _ _ ((show ∀ x ∈ ([("a" : Str), "x!1", "le", "b-"]), PyData.strOk x = true by decide +kernel) x h)
  | _ + 1, _, .tup h _ => .tup (oks_of fun v hv => note_ok (h v hv))
noncomputable def kLaw (A : Around) (L fa : Addr) (cd : Value) : Kx := ⟨A, envX ("law" : Str) (fnS topB 35) L fa cd [], [envX ("law" : Str) (fnS topB 35) L fa cd []]⟩
set_option maxHeartbeats 4000000 in
theorem ax_law (fx : Fx G pf) (pl : Plain) {A : Around} {L fa : Addr} {cd : Value} (hk : (kLaw A L fa cd).Ok) (hF : (kLaw A L fa cd).Fun) (room : Room A 620) {ns : List Int} (hn : ns.length ≤ 63) :
    AX G pf (kLaw A L fa cd) ⟨[("script", .d (.lst (ns.map PV.int)))], []⟩ (execs (fnB topB 35) (kLaw A L fa cd).env) (fun _ => False) (fun _ D => D = .d (.bool true)) (fun _ => False) := by
  have sl := sl_eq
  have un := room.2
  have rm : Room (kLaw A L fa cd).A 620 := room
  refine ax_l4 ?_; intro z1a z1b z1c z1d; refine ax_cons (ax_asgn (aw_dict2 (by decide) fun s => ?_))
  refine aw_freeze (aw_comp hk (cl := []) rfl ?_)
  refine aw_lslice (aw_loc hk rfl rfl ?_)
  (refine aw_pnone ?_; refine aw_psome ?_; refine aw_int ?_)
  refine ⟨ns.map PV.int, none, some (Int.ofNat 60), (ns.take 60).map PV.int, .inl rfl, rfl, rfl, by rw [List.length_map]; exact ar412 hn sl, by rw [List.map_take]; rfl, ?_⟩
  refine ⟨_, src_list hk, by rw [List.length_map, List.length_take]; exact ar413 sl, fun C hkC => ?_⟩
  refine acm_map PV.int (fun y => true) (fun c => .d (.int (Int.fmod (if c < 0 then -c else c) 1000003))) [(s, .map [])] (fun c hc loc => ?_) (fun loc => ?_) _
  · refine as_name ?_
    (refine an_loc (by assumption) rfl ?_; (try dsimp only))
    refine ab_tests_nil ⟨rfl, rfl, fun _ => ?_⟩
    refine aw_bin (aw_bl fx hkC (v := .builtin "abs") (by decide) (by kernel_rfl) (.blt _) rfl ?_)
    (refine al_cons ?_; refine aw_loc (by assumption) rfl rfl ?_; refine al_nil ?_)
    refine ac_abs ?_
    refine aw_int ?_
    exact ao_mod (by decide) ⟨rfl, rfl⟩
  generalize hcs : (ns.take 60).map (fun c => Int.fmod (if c < 0 then -c else c) 1000003) = cs
  have csl : cs.length ≤ 60 := by rw [← hcs, List.length_map, List.length_take]; exact ar414
  refine ⟨[], [(s, .map [])], rfl, rfl, fun a => ⟨a, cs.map PV.int, [(s, .map [])], rfl, ?_, ?_⟩⟩
  · rw [List.filter_eq_self.mpr (fun _ _ => rfl), ← hcs]
    simp [Function.comp_def]
  refine aw_int ?_
  refine ⟨[(s, srcM cs 0)], .head, ?_⟩
  (refine an_loc (by assumption) rfl ?_; (try dsimp only))
  refine ax_l1 ?_; intro z2a; refine ax_cons (ax_asgn (aw_fn fx hk (a := 280) (i := 23) (by decide) rfl rfl ?_))
  (refine al_cons ?_; refine aw_loc (by assumption) rfl rfl ?_; refine al_nil ?_)
  refine c_text fx hk (own := []) (List.Perm.refl _) (by exact Nat.le_trans csl (by decide)) (by exact Nat.zero_le _) (rm.less (by exact Nat.le_add_left _ _)) fun at₁ names steps h1 h2 h3 h4 hat₁ => ?_
  have dw : Drawn (Txt.join "\n" (names ++ steps)) := ⟨names, steps, h1, h2, h3, h4, rfl⟩
  generalize Txt.join "\n" (names ++ steps) = x at dw ⊢
  have xl := dw.len
  (refine an_loc (by assumption) rfl ?_; (try dsimp only))
  refine ax_l1 ?_; intro z3a; refine ax_cons (ax_asgn (aw_fn fx hk (a := 265) (i := 20) (by decide) rfl rfl ?_))
  (refine al_cons ?_; refine aw_loc (by assumption) rfl rfl ?_; refine al_cons ?_; refine aw_int ?_; refine al_nil ?_)
  refine c_note fx 3 hk (own := []) (List.Perm.refl _) (by exact Nat.le_trans csl (by decide)) (by show _ + 80 ≤ _; exact Nat.le_trans (Nat.add_le_add_right hat₁ _) (by decide)) (rm.less (by exact Nat.le_add_left _ _)) fun at₂ d hd hat₂ => ?_
  have e80 : dr 3 = 80 := rfl
  rw [e80] at hat₂
  have pn := pl.note d hd
  have dl := noteT_len4 hd (by exact Nat.le_add_left _ _)
  (refine an_loc (by assumption) rfl ?_; (try dsimp only))
  refine ax_l1 ?_; intro z4a; refine ax_cons (ax_if (ab_bool (ab_or (ab_cmp (aw_fn fx hk (a := 220) (i := 10) (by decide) rfl rfl ?_)))))
  (refine al_cons ?_; refine aw_loc (by assumption) rfl rfl ?_; refine al_nil ?_)
  refine c_note_text fx 3 hk (by exact Nat.le_add_left _ _) hd (rm.less (by exact Nat.le_add_left _ _)) ?_
  refine aw_fn fx hk (a := 270) (i := 21) (by decide) rfl rfl ?_
  (refine al_cons ?_; refine aw_loc (by assumption) rfl rfl ?_; refine al_nil ?_)
  refine c_lnote_text fx 3 hk (by exact Nat.le_add_left _ _) hd (rm.less (by exact Nat.le_add_left _ _)) ?_
  refine ao_nes (at_bool ?_)
  rw [show (noteT d != noteT d) = false by simp, if_neg (by decide)]
  refine ab_or (ab_cmp (aw_fn fx hk (a := 237) (i := 13) (by decide) rfl rfl ?_))
  refine al_cons (aw_fn fx hk (a := 270) (i := 21) (by decide) rfl rfl ?_)
  (refine al_cons ?_; refine aw_loc (by assumption) rfl rfl ?_; refine al_nil ?_)
  refine c_lnote_text fx 3 hk (by exact Nat.le_add_left _ _) hd (rm.less (by exact Nat.le_add_left _ _)) ?_
  (refine al_cons ?_; refine aw_int ?_; refine al_nil ?_)
  refine c_note_from fx hk (by exact Nat.le_trans dl (by decide)) pn.2.2 pn.2.1 (rm.less (by exact Nat.le_add_left _ _)) ?_
  rw [pn.1]
  refine aw_loc (by assumption) rfl rfl ?_
  refine ao_ne (n := 3) (m := 3) (note_ok hd) (note_ok hd) (rm.less (by exact Nat.zero_le _)) (by show A.units + 3 < 9900; exact ar424 un) (at_bool ?_)
  rw [eqb_self, if_neg (by decide)]
  refine ab_or_nil ?_
  first | refine ite_f ?_ | rw [if_neg (by decide)]
  refine ax_nil ?_
  refine ax_cons (ax_for hk hF (aw_tuple ?_))
  (refine al_cons ?_; refine aw_loc (by assumption) rfl rfl ?_; refine al_cons ?_)
  refine aw_fn fx hk (a := 287) (i := 24) (by decide) rfl rfl ?_
  (refine al_cons ?_; refine aw_loc (by assumption) rfl rfl ?_; refine al_cons ?_; refine aw_loc (by assumption) rfl rfl ?_; refine al_nil ?_)
  refine c_bent fx hk (own := []) (List.Perm.refl _) (by exact Nat.le_trans csl (by decide)) (by exact Nat.le_trans hat₂ (Nat.le_trans (Nat.add_le_add_right hat₁ _) (by decide))) (by exact Nat.le_trans xl (by decide)) (rm.less (by exact Nat.le_add_left _ _)) fun at₃ n y _ hn2 hb => ?_
  refine al_nil ⟨[.str x, .str y], rfl, by show 2 ≤ sizeLine; exact ar48 sl, [.str x, .str y], src_tup hk, ?_⟩
  refine af_ind PV.str (fun cs' σ' => (∀ z ∈ cs', Tx z ∧ Lt z ∧ heardD z = lreadD z) ∧ ∃ loc, σ' = ⟨loc, [(s, srcM cs at₃)]⟩) ?_ ?_ [x, y] _ ⟨fun z hz => ?_, _, rfl⟩
  · rintro σ' ⟨_, loc, rfl⟩
    (refine ax_cons ?_; refine ax_ret ?_; refine aw_bool ?_)
    exact rfl
  · rintro z cs' σ' ⟨hz, loc, rfl⟩
    obtain ⟨z1, z2, z3⟩ := hz z (.head _)
    refine as_name ?_
    (refine an_loc (by assumption) rfl ?_; (try dsimp only))
    refine ax_l4 ?_; intro z8a z8b z8c z8d; refine ax_cons (ax_if (ab_cmp (aw_fn fx hk (a := 347) (i := 34) (by decide) rfl rfl ?_)))
    (refine al_cons ?_; refine aw_loc (by assumption) rfl rfl ?_; refine al_nil ?_)
    refine c_heard fx hk z1 (rm.less (by exact Nat.le_add_left _ _)) ?_
    refine aw_fn fx hk (a := 340) (i := 33) (by decide) rfl rfl ?_
    (refine al_cons ?_; refine aw_loc (by assumption) rfl rfl ?_; refine al_nil ?_)
    refine c_read fx hk z2 (rm.less (by exact Nat.le_add_left _ _)) ?_
    have ok := lreadD_ok z2
    rw [z3]
    refine ao_ne (n := 603) (m := 603) ok ok (rm.less (by exact Nat.zero_le _)) (by show A.units + 603 < 9900; exact ar430 un) (at_bool ?_)
    rw [eqb_self, if_neg (by decide)]
    refine ax_nil (ax_nil ⟨fun z' h' => hz z' (.tail _ h'), _, rfl⟩)
  · simp only [List.mem_cons, List.mem_nil_iff, or_false] at hz
    rcases hz with rfl | rfl
    · exact pl.text _ 0 _ dw (by exact Nat.zero_le _) .nil
    · exact pl.text _ n _ dw hn2 hb
end
section
set_option linter.unusedVariables false
set_option maxRecDepth 100000
open PySem PySem.W PySem.Spec PySem.Calls PyProof.Rows PyProof.V
noncomputable def mkS (l : List Nat) : Str := ⟨l.toArray⟩
theorem mkS_l (l : List Nat) : (mkS l).cps.toList = l := by simp [mkS]
theorem l_mkS (x : Str) : mkS x.cps.toList = x := by cases x; simp [mkS]
theorem str_eq {x y : Str} (h : x.cps.toList = y.cps.toList) : x = y := Str.ext' (Array.toList_inj.mp h)
theorem l_app (x y : Str) : (x ++ y).cps.toList = x.cps.toList ++ y.cps.toList := by
  rw [Str.cps_append, Array.toList_append]
theorem mk1_inj (a c : Nat) : ((⟨#[a]⟩ : Str) == ⟨#[c]⟩) = decide (a = c) := by
  by_cases h : a = c
  · subst h; simp
  · simp [h]
noncomputable def spl (c : Nat) : List Nat → List (List Nat)
  | [] => [[]]
  | x :: xs => if x = c then [] :: spl c xs else (x :: (spl c xs).headD []) :: (spl c xs).tail
theorem spl_cons (c x : Nat) (xs : List Nat) : spl c (x :: xs) = if x = c then [] :: spl c xs else (x :: (spl c xs).headD []) :: (spl c xs).tail := rfl
theorem spl_ne (c : Nat) : ∀ l, spl c l ≠ []
  | [] => by simp [spl]
  | x :: xs => by
    unfold spl
    split <;> simp
theorem spl_ht (c : Nat) (l : List Nat) : (spl c l).headD [] :: (spl c l).tail = spl c l := by
  rcases h : spl c l with _ | ⟨a, b⟩
  · exact absurd h (spl_ne c l)
  · rfl
theorem spl_app_sep (c : Nat) (b : List Nat) : ∀ a, spl c (a ++ c :: b) = spl c a ++ spl c b
  | [] => by simp [spl]
  | x :: xs => by
    have ih := spl_app_sep c b xs
    rw [List.cons_append, spl, spl, ih]
    split
    · rfl
    · rcases h : spl c xs with _ | ⟨u, v⟩
      · exact absurd h (spl_ne c xs)
      · rfl
theorem spl_free (c : Nat) : ∀ a : List Nat, c ∉ a → spl c a = [a]
  | [], _ => rfl
  | x :: xs, h => by
    rw [spl, if_neg (fun e => h (by rw [e]; exact .head _)), spl_free c xs (fun e => h (.tail _ e))]
    rfl
theorem spl_infix (c : Nat) : ∀ (l p : List Nat), p ∈ spl c l → ∃ a b, l = a ++ p ++ b ∧ c ∉ p
  | [], p, h => by
    simp [spl] at h
    subst h
    exact ⟨[], [], rfl, by simp⟩
  | x :: xs, p, h => by
    unfold spl at h
    split at h
    · rcases List.mem_cons.mp h with rfl | h
      · exact ⟨[], x :: xs, rfl, by simp⟩
      · obtain ⟨a, b, e, f⟩ := spl_infix c xs p h
        exact ⟨x :: a, b, by rw [e]; rfl, f⟩
    · rename_i hx
      rcases List.mem_cons.mp h with rfl | h
      · have hm : (spl c xs).headD [] ∈ spl c xs := by
          rcases h2 : spl c xs with _ | ⟨u, v⟩
          · exact absurd h2 (spl_ne c xs)
          · exact .head _
        have hp : ∀ ys : List Nat, ∃ b, ys = (spl c ys).headD [] ++ b := by
          intro ys
          induction ys with
          | nil => exact ⟨[], rfl⟩
          | cons y ys ih =>
            unfold spl
            split
            · exact ⟨_, rfl⟩
            · obtain ⟨b, e⟩ := ih
              refine ⟨b, ?_⟩
              show y :: ys = y :: (_ ++ b)
              rw [← e]
        obtain ⟨b, e⟩ := hp xs
        obtain ⟨_, _, _, f⟩ := spl_infix c xs _ hm
        exact ⟨[], b, by
          show x :: xs = x :: (_ ++ b)
          rw [← e], fun q => by
          rcases List.mem_cons.mp q with q | q
          · exact hx q.symm
          · exact f q⟩
      · obtain ⟨a, b, e, f⟩ := spl_infix c xs p (List.mem_of_mem_tail h)
        exact ⟨x :: a, b, by rw [e]; rfl, f⟩
theorem cutL_spl (c : Nat) : ∀ (cs : List Nat) (ds : List Str) (d : Str), cutL ⟨#[c]⟩ cs ds d = ds ++ mkS (d.cps.toList ++ (spl c cs).headD []) :: (spl c cs).tail.map mkS
  | [], ds, d => by simp [cutL, spl, l_mkS]
  | a :: cs, ds, d => by
    unfold cutL spl
    rw [mk1_inj]
    by_cases h : a = c
    · rw [if_pos (by simpa using h), if_pos h, cutL_spl c cs, List.append_assoc]
      have e : spl c cs = (spl c cs).headD [] :: (spl c cs).tail := (spl_ht c cs).symm
      simp only [List.headD_cons, List.tail_cons, List.append_nil, List.cons_append, List.nil_append, Str.empty]
      conv => rhs; rw [e, List.map_cons]
      simp [l_mkS]
    · rw [if_neg (by simpa using h), if_neg h, cutL_spl c cs, app_cps]
      simp
theorem cut_spl (x : Str) (c : Nat) : cut x ⟨#[c]⟩ = (spl c x.cps.toList).map mkS := by
  unfold cut
  rw [cutL_spl, List.nil_append]
  conv => rhs; rw [← spl_ht, List.map_cons]
  rfl
noncomputable def jn (s : List Nat) : List (List Nat) → List Nat
  | [] => []
  | [x] => x
  | x :: y :: r => x ++ s ++ jn s (y :: r)
theorem join_jn (s : Str) : ∀ ps : List Str, (Str.join s ps).cps.toList = jn s.cps.toList (ps.map fun p => p.cps.toList)
  | [] => rfl
  | [x] => rfl
  | x :: y :: r => by
    have ih := join_jn s (y :: r)
    show (x ++ s ++ Str.join s (y :: r)).cps.toList = x.cps.toList ++ s.cps.toList ++ jn _ _
    rw [l_app, l_app, ih]
    rfl
theorem spl_jn (c : Nat) : ∀ ps : List (List Nat), ps ≠ [] → (∀ p ∈ ps, c ∉ p) → spl c (jn [c] ps) = ps
  | [], h, _ => absurd rfl h
  | [x], _, h => spl_free c x (h x (.head _))
  | x :: y :: r, _, h => by
    have ih := spl_jn c (y :: r) (by simp) (fun p hp => h p (.tail _ hp))
    show spl c (x ++ [c] ++ jn [c] (y :: r)) = _
    rw [List.append_assoc, List.singleton_append, spl_app_sep, ih, spl_free c x (h x (.head _))]
    rfl
theorem jn_spl (c : Nat) (s : List Nat) : ∀ l : List Nat, jn s (spl c l) = l.flatMap fun a => if a = c then s else [a]
  | [] => rfl
  | x :: xs => by
    have ih := jn_spl c s xs
    rw [List.flatMap_cons, ← ih, spl_cons]
    rcases h : spl c xs with _ | ⟨u, v⟩
    · exact absurd h (spl_ne c xs)
    · split
      · rfl
      · cases v <;> rfl
theorem split_ne (x : Str) (c : Nat) : Txt.split x ⟨#[c]⟩ ≠ [] := by
  unfold Txt.split
  split
  · simp
  · split
    · simp
    · rw [StrLaws.partsBetween_eq]
      obtain ⟨p, r, e⟩ := StrLaws.partsFrom_ne x (⟨#[c]⟩ : Str).length 0 (Builtin.Str.occurrences x ⟨#[c]⟩ 0 x.length (x.length + 1))
      rw [e]
      simp
theorem split_cut (x : Str) (c : Nat) : Txt.split x ⟨#[c]⟩ = cut x ⟨#[c]⟩ := by
  have h1 := StrLaws.join_split x ⟨#[c]⟩
  have h2 := StrLaws.split_free x c
  have h3 := split_ne x c
  rw [cut_spl]
  generalize Txt.split x ⟨#[c]⟩ = ps at h1 h2 h3
  rw [← h1, join_jn, spl_jn c _ (by simpa using h3) (fun p hp => by
    obtain ⟨q, hq, rfl⟩ := List.mem_map.mp hp
    exact h2 q hq), List.map_map]
  have : (mkS ∘ fun p : Str => p.cps.toList) = id := funext fun p => l_mkS p
  rw [this, List.map_id]
theorem words_go : ∀ (l : List Nat) (ws : List Str) (run : Str), (∀ c ∈ l, Unicode.isSpace c = decide (c = 32)) →
    KWd.fin (l.foldl KWd.step (ws, run)) = ws ++ ((((run.cps.toList ++ (spl 32 l).headD []) :: (spl 32 l).tail).filter fun q => q != []).map mkS)
  | [], ws, run, _ => by
    show (if run.length = 0 then ws else ws ++ [run]) = _
    simp only [spl, List.headD_cons, List.append_nil, List.tail_cons, List.filter_cons, List.filter_nil]
    by_cases h : run.length = 0
    · have e : run.cps.toList = [] := by
        rw [len_of_toList] at h
        exact List.eq_nil_of_length_eq_zero h
      simp [h, e]
    · have e : run.cps.toList ≠ [] := by
        intro e
        rw [len_of_toList, e] at h
        exact h rfl
      rw [if_neg h]
      simp [e, l_mkS]
  | a :: l, ws, run, h => by
    have st : ∀ z : KWd.St, KWd.step z a = if Unicode.isSpace a = true then (if z.2.length = 0 then z else (z.1 ++ [z.2], Str.empty)) else (z.1, z.2 ++ ⟨#[a]⟩) := fun z => rfl
    rw [List.foldl_cons, st, spl_cons]
    have ha := h a (.head _)
    have hl : ∀ c ∈ l, Unicode.isSpace c = decide (c = 32) := fun c hc => h c (.tail _ hc)
    by_cases e : a = 32
    · have e1 : Unicode.isSpace a = true := by rw [ha]; simpa using e
      rw [if_pos e, if_pos e1]
      by_cases hr : run.length = 0
      · have e' : run.cps.toList = [] := by
          rw [len_of_toList] at hr
          exact List.eq_nil_of_length_eq_zero hr
        rw [if_pos hr, words_go l ws run hl, e']
        simp only [List.headD_cons, List.tail_cons, List.nil_append]
        rw [spl_ht]
        simp
      · have e' : run.cps.toList ≠ [] := by
          intro e'
          rw [len_of_toList, e'] at hr
          exact hr rfl
        rw [if_neg hr, words_go l _ _ hl]
        simp only [List.headD_cons, List.tail_cons, List.append_nil, Str.empty, List.nil_append]
        rw [spl_ht]
        simp [e', l_mkS]
    · have e1 : ¬ Unicode.isSpace a = true := by rw [ha]; simpa using e
      rw [if_neg e, if_neg e1, words_go l _ _ hl, app_cps]
      simp
noncomputable def Sp (l : List Nat) : Prop := ∀ c ∈ l, Unicode.isSpace c = decide (c = 32)
theorem words_l {x : Str} (h : Sp x.cps.toList) : Txt.words x = ((spl 32 x.cps.toList).filter fun q => q != []).map mkS := by
  rw [KWd.words_scan]
  unfold KWd.scan
  rw [words_go _ _ _ h]
  simp only [Str.empty, List.nil_append]
  rw [spl_ht]
theorem lwords_l (x : Str) : lwords x = ((spl 32 x.cps.toList).filter fun q => q != []).map mkS := by
  unfold lwords
  have e : (" " : Str) = ⟨#[32]⟩ := rfl
  rw [e, cut_spl, List.filter_map]
  congr 2
  funext q
  show (mkS q != Str.empty) = (q != [])
  by_cases hq : q = []
  · subst hq; rfl
  · have : mkS q ≠ Str.empty := fun h => hq (by rw [← mkS_l q, h]; rfl)
    rw [bne_iff_ne.mpr this, bne_iff_ne.mpr hq]
theorem words_lwords {x : Str} (h : Sp x.cps.toList) : Txt.words x = lwords x := by rw [words_l h, lwords_l]
noncomputable def sprL (l : List Nat) : List Nat := l.flatMap fun a => if a = 40 ∨ a = 41 then [32, a, 32] else [a]
theorem repl_l (x : Str) (c : Nat) (z : Str) : (Txt.replace x ⟨#[c]⟩ z).cps.toList = x.cps.toList.flatMap fun a => if a = c then z.cps.toList else [a] := by
  rw [StrLaws.replace_one, split_cut, cut_spl, join_jn, List.map_map]
  have : ((fun p : Str => p.cps.toList) ∘ mkS) = id := funext fun p => mkS_l p
  rw [this, List.map_id, jn_spl]
theorem spread_l (x : Str) : (spread x).cps.toList = sprL x.cps.toList := by
  have e1 : ("(" : Str) = ⟨#[40]⟩ := rfl
  have e2 : (")" : Str) = ⟨#[41]⟩ := rfl
  have e3 : (" ( " : Str).cps.toList = [32, 40, 32] := rfl
  have e4 : (" ) " : Str).cps.toList = [32, 41, 32] := rfl
  unfold spread
  rw [e2, repl_l, e1, repl_l, e3, e4]
  unfold sprL
  generalize x.cps.toList = l
  induction l with
  | nil => rfl
  | cons a l ih =>
    rw [List.flatMap_cons, List.flatMap_append, ih, List.flatMap_cons]
    congr 1
    by_cases h : a = 40
    · subst h; rfl
    · by_cases h' : a = 41
      · subst h'; rfl
      · simp [h, h']
theorem isParen_eq (c : Nat) : isParen c = decide (c = 40 ∨ c = 41) := by
  unfold isParen
  rw [StrLaws.found_one]
  have e : ("()" : Str).cps.toList = [40, 41] := rfl
  rw [e]
  simp
theorem spaced_l (x : Str) : (spaced x).cps.toList = sprL x.cps.toList := by
  unfold spaced sprL
  have e0 : ∀ ps : List Str, (Txt.join "" ps) = Str.join "" ps := fun ps => StrLaws.glued_eq_join "" ps
  rw [e0, join_jn]
  have e : ("" : Str).cps.toList = [] := rfl
  rw [e, List.map_map]
  have j : ∀ ps : List (List Nat), jn [] ps = ps.flatten := by
    intro ps
    induction ps with
    | nil => rfl
    | cons a r ih =>
      cases r with
      | nil => simp [jn]
      | cons b r => rw [jn, ih]; simp
  rw [j, ← List.flatMap_def]
  congr 1
  funext a
  show (spell a).cps.toList = _
  unfold spell
  rw [isParen_eq]
  by_cases h : a = 40 ∨ a = 41
  · rw [if_pos (by simpa using h), if_pos h, l_app, l_app]; rfl
  · rw [if_neg (by simpa using h), if_neg h]
theorem spread_spaced (x : Str) : spread x = spaced x := str_eq (by rw [spread_l, spaced_l])
noncomputable def dgB (c : Nat) : Bool := decide (48 ≤ c ∧ c ≤ 57)
theorem isDig_eq (c : Nat) : isDig c = dgB c := by
  unfold isDig dgB
  rw [StrLaws.lt_cons_cons, StrLaws.lt_cons_cons, StrLaws.lt_nil_nil]
  by_cases h1 : c < 48
  · have : ¬ (48 ≤ c ∧ c ≤ 57) := by exact ar432 h1
    simp [h1]
    exact ar433 h1
  · by_cases h2 : 57 < c
    · have : ¬ (c ≤ 57) := by exact ar434 h2
      simp [h2]
    · have a : 48 ≤ c := by exact ar435 h1
      have b : c ≤ 57 := by exact ar436 h2
      simp [a, b]
theorem notFig_eq (c : Nat) : notFig c = !dgB c := by
  unfold notFig
  rw [StrLaws.found_one]
  have e : ("0123456789" : Str).cps.toList = [48, 49, 50, 51, 52, 53, 54, 55, 56, 57] := rfl
  rw [e]
  unfold dgB
  congr 1
  apply decide_eq_decide.mpr
  simp
  exact ar437
theorem all_dig {cs : List Nat} : cs.all dgB = true ↔ PySem.NumText.AllDigits cs := by
  rw [List.all_eq_true]
  exact ⟨fun h c hc => by simpa [dgB] using h c hc, fun h c hc => by simpa [dgB] using h c hc⟩
theorem lval_eq : ∀ (cs : List Nat) (a : Nat), lval cs (a : Int) = if cs.all dgB then some ((cs.foldl (fun acc c => acc * 10 + (c - 48)) a : Nat) : Int) else none
  | [], a => rfl
  | c :: cs, a => by
    unfold lval
    rw [isDig_eq, List.all_cons]
    by_cases h : dgB c = true
    · rw [h, if_pos rfl, Bool.true_and]
      have h' : 48 ≤ c ∧ c ≤ 57 := by simpa [dgB] using h
      have e : (10 * (a : Int) + (c : Int) - 48) = ((a * 10 + (c - 48) : Nat) : Int) := by exact ar438 h'.1
      rw [e, lval_eq cs]
      rfl
    · have h' : dgB c = false := by simpa using h
      rw [h', if_neg (by simp), Bool.false_and, if_neg (by simp)]
noncomputable def bod : List Nat → List Nat
  | [] => []
  | c :: cs => if c = 45 then cs else c :: cs
theorem slice1 (c : Nat) (cs : List Nat) : Txt.slice (mkS (c :: cs)) none (some 1) = mkS [c] := by
  refine (StrLaws.sliceText_to (x := mkS (c :: cs)) (j := 1) ⟨by decide, by rw [mkS_l]; simp; exact ar439⟩).trans ?_
  rw [mkS_l]; rfl
theorem slice2 (c : Nat) (cs : List Nat) : Txt.slice (mkS (c :: cs)) (some 1) none = mkS cs := by
  refine (StrLaws.sliceText_from (x := mkS (c :: cs)) (i := 1) ⟨by decide, by rw [mkS_l]; simp; exact ar439⟩).trans ?_
  rw [mkS_l]
  have : (1 : Int).toNat = 1 := rfl
  rw [this, List.drop_succ_cons, List.drop_zero, List.take_of_length_le (by simp)]
  rfl
theorem mk_eq {a b : List Nat} : (mkS a == mkS b) = decide (a = b) := by
  by_cases h : a = b
  · subst h; simp
  · have : mkS a ≠ mkS b := fun e => h (by rw [← mkS_l a, e, mkS_l])
    simp [h, this]
theorem lbody_l : ∀ l, lbody (mkS l) = mkS (bod l)
  | [] => rfl
  | c :: cs => by
    unfold lbody
    have e : ("-" : Str) = mkS [45] := rfl
    rw [slice1, slice2, e, mk_eq]
    unfold bod
    by_cases h : c = 45
    · subst h; rfl
    · simp [h]
theorem figs_l : ∀ l, figs (mkS l) = mkS (bod l)
  | [] => rfl
  | c :: cs => by
    unfold figs Txt.startswith
    have e : ("-" : Str).cps.toList = [45] := rfl
    have e1 : ("-" : Str).length = 1 := rfl
    rw [slice2, StrLaws.subAt_eq, mkS_l, e, e1]
    unfold bod
    have : 0 + 1 ≤ (mkS (c :: cs)).length := by rw [len_of_toList, mkS_l]; simp
    by_cases h : c = 45
    · subst h; simp [this]
    · simp [this, h]
theorem isnum_l (l : List Nat) : isnum (mkS l) = (decide (bod l ≠ []) && (bod l).all dgB) := by
  unfold isnum
  rw [figs_l, len_of_toList, mkS_l]
  congr 1
  · cases bod l <;> simp <;> omega
  · rw [Bool.eq_iff_iff, beq_iff_eq]
    constructor
    · intro h
      have h' : ((bod l).filter notFig).length = 0 := by exact ar440 h
      have h2 := List.eq_nil_of_length_eq_zero h'
      rw [List.all_eq_true]
      intro c hc
      by_cases hd : dgB c = true
      · exact hd
      · exfalso
        have : c ∈ (bod l).filter notFig := List.mem_filter.mpr ⟨hc, by rw [notFig_eq]; simpa using hd⟩
        rw [h2] at this
        cases this
    · intro h
      have h2 : (bod l).filter notFig = [] := by
        apply List.filter_eq_nil_iff.mpr
        intro c hc
        rw [notFig_eq, List.all_eq_true.mp h c hc]
        decide
      rw [h2]; rfl
theorem item0 (c : Nat) (cs : List Nat) : Txt.item (mkS (c :: cs)) 0 = mkS [c] := by
  unfold Txt.item Txt.charAt
  have : seqIndex? 0 (mkS (c :: cs)).length = some 0 := by
    rw [StrLaws.seqIndex_nonneg (by decide) (by rw [len_of_toList, mkS_l]; simp <;> omega)]
    rfl
  rw [this]
  show (⟨#[((mkS (c :: cs)).cps[0]?).getD 0]⟩ : Str) = _
  simp [mkS]
theorem num_spec (l : List Nat) (hl : l.length ≤ 4300) : (isnum (mkS l) = true → PySem.intText? (mkS l) = some (pint (mkS l)) ∧ lnum (mkS l) = some (pint (mkS l)) ∧ (pint (mkS l)).natAbs = PySem.NumText.digitsVal (bod l)) ∧ (isnum (mkS l) = false → lnum (mkS l) = none) := by
  have e0 : ("" : Str) = mkS [] := rfl
  have e1 : ("-" : Str) = mkS [45] := rfl
  have z : ∀ cs : List Nat, lval cs 0 = if cs.all dgB then some ((PySem.NumText.digitsVal cs : Nat) : Int) else none := fun cs => lval_eq cs 0
  rw [isnum_l]
  unfold lnum
  rw [lbody_l, mkS_l, z, e0, e1, mk_eq, mk_eq]
  rcases l with _ | ⟨c, cs⟩
  · refine ⟨fun h => absurd h (by decide), fun _ => rfl⟩
  rw [item0, mk_eq]
  by_cases hc : c = 45
  · subst hc
    have eb : bod (45 :: cs) = cs := rfl
    rw [eb]
    constructor
    · intro h
      rw [Bool.and_eq_true, decide_eq_true_eq] at h
      have ad := all_dig.mp h.2
      have it := PySem.intText_neg (x := mkS (45 :: cs)) (cs := cs) (by rw [mkS_l]) ad h.1 (by rw [len_of_toList, mkS_l]; exact hl)
      have hp : pint (mkS (45 :: cs)) = -((PySem.NumText.digitsVal cs : Nat) : Int) := by unfold pint; rw [it]; rfl
      rw [hp]
      refine ⟨it, ?_, by exact ar441⟩
      rw [h.2]
      simp [h.1]
    · intro h
      by_cases hd : cs.all dgB = true
      · have : cs = [] := by simpa [hd] using h
        subst this
        rfl
      · rw [if_neg hd]; rfl
  · have eb : bod (c :: cs) = c :: cs := if_neg hc
    rw [eb]
    constructor
    · intro h
      rw [Bool.and_eq_true, decide_eq_true_eq] at h
      have ad := all_dig.mp h.2
      have it := PySem.intText_digits (x := mkS (c :: cs)) (by rw [mkS_l]; exact ad) (by rw [mkS_l]; exact h.1) (by rw [len_of_toList, mkS_l]; exact hl)
      rw [mkS_l] at it
      have hp : pint (mkS (c :: cs)) = ((PySem.NumText.digitsVal (c :: cs) : Nat) : Int) := by unfold pint; rw [it]; rfl
      rw [hp]
      refine ⟨it, ?_, by exact ar442⟩
      rw [h.2]
      simp [hc]
    · intro h
      have hd : ¬ (c :: cs).all dgB = true := by
        intro hd
        rw [hd] at h
        simp at h
      rw [if_neg hd]; rfl
theorem foldl_lt : ∀ (cs : List Nat) (a k : Nat), a < 10 ^ k → PySem.NumText.AllDigits cs → cs.foldl (fun acc c => acc * 10 + (c - 48)) a < 10 ^ (k + cs.length)
  | [], a, k, h, _ => h
  | c :: cs, a, k, h, hd => by
    have hc := hd c (.head _)
    have := foldl_lt cs (a * 10 + (c - 48)) (k + 1) (by rw [Nat.pow_succ]; exact ar443 h hc.2) (fun d hd' => hd d (.tail _ hd'))
    rw [List.length_cons]
    have e : k + (cs.length + 1) = k + 1 + cs.length := by exact ar444
    rw [e]
    exact this
set_option exponentiation.threshold 4000 in
theorem log_digits {cs : List Nat} (h : PySem.NumText.AllDigits cs) (hl : cs.length ≤ 511) : Nat.log2 (PySem.NumText.digitsVal cs) < 1920 := by
  have h1 := foldl_lt cs 0 0 (by decide) h
  rw [Nat.zero_add] at h1
  have h2 : (10 : Nat) ^ cs.length ≤ 10 ^ 511 := Nat.pow_le_pow_right (by decide) hl
  have h3 : PySem.NumText.digitsVal cs < 2 ^ 1920 := Nat.lt_of_lt_of_le h1 (Nat.le_trans h2 (by decide +kernel))
  by_cases h0 : PySem.NumText.digitsVal cs = 0
  · rw [h0]; decide
  · exact (Nat.log2_lt h0).mpr h3
noncomputable def Wrd (l : List Nat) : Prop := (l.filter dgB).length ≤ 510
theorem word_num {l : List Nat} (hw : Wrd l) (h : isnum (mkS l) = true) : PySem.intText? (mkS l) = some (pint (mkS l)) ∧ lnum (mkS l) = some (pint (mkS l)) ∧ Nat.log2 (Int.natAbs (pint (mkS l))) < 1920 ∧ l.length ≤ 511 := by
  have h0 := h
  rw [isnum_l, Bool.and_eq_true] at h
  have ad : (bod l).filter dgB = bod l := List.filter_eq_self.mpr fun c hc => List.all_eq_true.mp h.2 c hc
  have hb : (bod l).length ≤ 510 ∧ l.length ≤ (bod l).length + 1 := by
    unfold Wrd at hw
    rcases l with _ | ⟨c, cs⟩
    · exact ⟨by simp [bod], by simp [bod]⟩
    · by_cases hc : c = 45
      · subst hc
        have eb : bod (45 :: cs) = cs := rfl
        rw [eb] at ad ⊢
        have e45 : dgB 45 = false := rfl
        rw [List.filter_cons, e45, ad] at hw
        simpa using hw
      · have eb : bod (c :: cs) = c :: cs := if_neg hc
        rw [eb] at ad ⊢
        rw [ad] at hw
        exact ⟨hw, by exact Nat.le_add_right _ _⟩
  have ns := (num_spec l (by exact Nat.le_trans hb.2 (Nat.le_trans (Nat.add_le_add_right hb.1 _) (by decide)))).1 h0
  refine ⟨ns.1, ns.2.1, ?_, by exact Nat.le_trans hb.2 (Nat.le_trans (Nat.add_le_add_right hb.1 _) (by decide))⟩
  rw [ns.2.2]
  exact log_digits (all_dig.mp h.2) (by exact Nat.le_succ_of_le hb.1)
theorem word_not {l : List Nat} (h : isnum (mkS l) = false) : lnum (mkS l) = none := by
  have e0 : ("" : Str) = mkS [] := rfl
  have e1 : ("-" : Str) = mkS [45] := rfl
  have z : ∀ cs : List Nat, lval cs 0 = if cs.all dgB then some ((PySem.NumText.digitsVal cs : Nat) : Int) else none := fun cs => lval_eq cs 0
  rw [isnum_l] at h
  unfold lnum
  rw [lbody_l, mkS_l, z, e0, e1, mk_eq, mk_eq]
  by_cases hd : (bod l).all dgB = true
  · have hb : bod l = [] := by simpa [hd] using h
    rw [if_pos hd]
    rcases l with _ | ⟨c, cs⟩
    · rfl
    · by_cases hc : c = 45
      · subst hc
        have : cs = [] := hb
        subst this
        rfl
      · rw [bod, if_neg hc] at hb
        exact absurd hb (by simp)
  · rw [if_neg hd]; rfl
theorem lnum_eq {l : List Nat} (hw : Wrd l) : lnum (mkS l) = if isnum (mkS l) then some (pint (mkS l)) else none := by
  by_cases h : isnum (mkS l) = true
  · rw [if_pos h]; exact (word_num hw h).2.1
  · rw [if_neg h]; exact word_not (by simpa using h)
theorem nf_open (r : List Str) (st : List (List PV)) : nf (("(" : Str) :: r) st = nf r ([] :: st) := by
  conv => lhs; unfold nf
  rfl
theorem nf_close (r : List Str) (d e : List PV) (st : List (List PV)) : nf ((")" : Str) :: r) (d :: e :: st) = nf r ((e ++ [.tup d]) :: st) := by
  conv => lhs; unfold nf
  rfl
theorem nf_close1 (r : List Str) (d : List PV) : nf ((")" : Str) :: r) [d] = none := by
  conv => lhs; unfold nf
  rfl
theorem nf_dash (r : List Str) (d : List PV) (st : List (List PV)) : nf (("-" : Str) :: r) (d :: st) = nf r ((d ++ [.none]) :: st) := by
  conv => lhs; unfold nf
  rfl
theorem nf_word {w : Str} (h1 : ¬ (w == (")" : Str)) = true) (h2 : ¬ (w == ("(" : Str)) = true) (h3 : ¬ (w == ("-" : Str)) = true) (r : List Str) (d : List PV) (st : List (List PV)) : nf (w :: r) (d :: st) = nf r ((d ++ [nfAtom w]) :: st) := by
  conv => lhs; unfold nf
  rw [if_neg h2, if_neg h1]
  exact if_neg h3
theorem nf_thg : ∀ (n : Nat) (r : List Str) (acc e : List PV) (st : List (List PV)), r.length < n → (∀ w ∈ r, atom w = nfAtom w) →
    match thg n true r acc with
    | some (ds, r') => nf r (acc :: e :: st) = nf r' ((e ++ [.tup ds]) :: st)
    | none => ∃ stk, nf r (acc :: e :: st) = some stk ∧ 2 ≤ stk.length
  | 0, _, _, _, _, h, _ => absurd h (Nat.not_lt_zero _)
  | n + 1, [], acc, e, st, _, _ => ⟨_, rfl, by simp⟩
  | n + 1, w :: r, acc, e, st, h, hw => by
    simp only [List.length_cons] at h
    have hr : ∀ w ∈ r, atom w = nfAtom w := fun w h => hw w (.tail _ h)
    rw [thg_cons]
    by_cases b1 : (w == (")" : Str)) = true
    · rw [if_pos b1, eq_of_beq b1, nf_close]
      rfl
    · rw [if_neg b1]
      by_cases b2 : (w == ("(" : Str)) = true
      · rw [if_pos b2, eq_of_beq b2, nf_open]
        have ih := nf_thg n r [] acc (e :: st) (by exact Nat.le_of_lt_succ h) hr
        cases q : thg n true r [] with
        | none => rw [q] at ih; exact ih
        | some z =>
          obtain ⟨ds, r'⟩ := z
          rw [q] at ih
          obtain ⟨p, rfl⟩ := thg_suf _ _ _ _ _ _ q
          simp only [List.length_append] at h
          have ih2 := nf_thg n r' (acc ++ [.tup ds]) e st (by exact ar62 h) (fun w h => hr w (List.mem_append.mpr (.inr h)))
          have ih1 : nf (p ++ r') ([] :: acc :: e :: st) = nf r' ((acc ++ [.tup ds]) :: e :: st) := ih
          rw [ih1]
          exact ih2
      · rw [if_neg b2]
        by_cases b3 : (w == ("-" : Str)) = true
        · rw [if_pos b3, eq_of_beq b3, nf_dash]
          exact nf_thg n r _ e st (by exact Nat.le_of_lt_succ h) hr
        · rw [if_neg b3, hw w (.head _), nf_word b1 b2 b3]
          exact nf_thg n r _ e st (by exact Nat.le_of_lt_succ h) hr
theorem nf_thg0 : ∀ (n : Nat) (r : List Str) (acc : List PV), r.length < n → (∀ w ∈ r, atom w = nfAtom w) →
    match thg n false r acc with
    | some (ds, r') => nf r [acc] = some [ds]
    | none => nf r [acc] = none ∨ ∃ stk, nf r [acc] = some stk ∧ 2 ≤ stk.length
  | 0, _, _, h, _ => absurd h (Nat.not_lt_zero _)
  | n + 1, [], acc, _, _ => rfl
  | n + 1, w :: r, acc, h, hw => by
    simp only [List.length_cons] at h
    have hr : ∀ w ∈ r, atom w = nfAtom w := fun w h => hw w (.tail _ h)
    rw [thg_cons]
    by_cases b1 : (w == (")" : Str)) = true
    · rw [if_pos b1, eq_of_beq b1, nf_close1]
      exact .inl rfl
    · rw [if_neg b1]
      by_cases b2 : (w == ("(" : Str)) = true
      · rw [if_pos b2, eq_of_beq b2, nf_open]
        have ih := nf_thg n r [] acc [] (by exact Nat.le_of_lt_succ h) hr
        cases q : thg n true r [] with
        | none => rw [q] at ih; exact .inr ih
        | some z =>
          obtain ⟨ds, r'⟩ := z
          rw [q] at ih
          obtain ⟨p, rfl⟩ := thg_suf _ _ _ _ _ _ q
          simp only [List.length_append] at h
          have ih2 := nf_thg0 n r' (acc ++ [.tup ds]) (by exact ar62 h) (fun w h => hr w (List.mem_append.mpr (.inr h)))
          have ih1 : nf (p ++ r') [[], acc] = nf r' [acc ++ [.tup ds]] := ih
          rw [ih1]
          exact ih2
      · rw [if_neg b2]
        by_cases b3 : (w == ("-" : Str)) = true
        · rw [if_pos b3, eq_of_beq b3, nf_dash]
          exact nf_thg0 n r _ (by exact Nat.le_of_lt_succ h) hr
        · rw [if_neg b3, hw w (.head _), nf_word b1 b2 b3]
          exact nf_thg0 n r _ (by exact Nat.le_of_lt_succ h) hr
theorem note_read_eq {x : Str} (hs : Txt.words (spread x) = lwords (spaced x)) (hw : ∀ w ∈ lwords (spaced x), atom w = nfAtom w) :
    noteFrom x = match nread x with | [] => none | v :: _ => some v := by
  unfold noteFrom nread
  rw [hs]
  have h := nf_thg0 ((lwords (spaced x)).length + 1) (lwords (spaced x)) [] (Nat.lt_succ_self _) hw
  cases q : thg ((lwords (spaced x)).length + 1) false (lwords (spaced x)) [] with
  | none =>
    rw [q] at h
    rcases h with h | ⟨stk, h, hl⟩
    · rw [h]
    · rw [h]
      rcases stk with _ | ⟨a, _ | ⟨b, c⟩⟩
      · simp at hl
      · simp at hl
      · rcases a with _ | ⟨v, _ | ⟨u, a⟩⟩ <;> rfl
  | some z =>
    obtain ⟨ds, r'⟩ := z
    rw [q] at h
    have h1 : nf (lwords (spaced x)) [[]] = some [ds] := h
    rw [h1]
    rcases ds with _ | ⟨a, _ | ⟨b, c⟩⟩
    · rfl
    · rfl
    · have : ¬ (((a :: b :: c).length : Int) == 1) = true := by
        rw [beq_iff_eq]
        simp only [List.length_cons]
        exact ar448
      show none = match (if (((a :: b :: c).length : Int) == 1) = true then a :: b :: c else []) with | [] => none | v :: _ => some v
      rw [if_neg this]
theorem atom_eq {l : List Nat} (hw : Wrd l) : atom (mkS l) = nfAtom (mkS l) := by
  unfold atom nfAtom
  rw [lnum_eq hw]
  by_cases h : isnum (mkS l) = true
  · rw [if_pos h, if_pos h]
  · rw [if_neg h, if_neg h]
theorem foldl_tidy (l : List Int) : ∀ (n i : Nat), i + n = l.length → tidyF l (List.range' i n) = true → ∀ j, i ≤ j → j < l.length → l.getD j 0 ≠ 0 ∧ (0 < j → absI (l.getD (j - 1) 0) < absI (l.getD j 0))
  | 0, i, h, _, j, h1, h2 => by exact ar449 h h1 h2
  | n + 1, i, h, ht, j, h1, h2 => by
    rw [List.range'_succ, tidyF] at ht
    by_cases a : (l.getD i 0 == 0) = true
    · rw [if_pos a] at ht; exact absurd ht (by decide)
    · rw [if_neg a] at ht
      by_cases b : (decide (0 < i) && decide (absI (l.getD (i - 1) 0) ≥ absI (l.getD i 0))) = true
      · rw [if_pos b] at ht; exact absurd ht (by decide)
      · rw [if_neg b] at ht
        by_cases e : j = i
        · subst e
          refine ⟨by simpa using a, fun hj => ?_⟩
          simp [hj] at b
          simpa using b
        · exact foldl_tidy l n (i + 1) (by exact ar450 h) ht j (by exact ar451 h1 e) h2
theorem foldl_tidy' (l : List Int) : ∀ (n i : Nat), i + n = l.length → (∀ j, i ≤ j → j < l.length → l.getD j 0 ≠ 0 ∧ (0 < j → absI (l.getD (j - 1) 0) < absI (l.getD j 0))) → tidyF l (List.range' i n) = true
  | 0, i, h, _ => rfl
  | n + 1, i, h, hj => by
    rw [List.range'_succ, tidyF]
    have hi := hj i (Nat.le_refl _) (by exact ar452 h)
    have a : ¬ (l.getD i 0 == 0) = true := by simpa using hi.1
    have b : ¬ (decide (0 < i) && decide (absI (l.getD (i - 1) 0) ≥ absI (l.getD i 0))) = true := by
      intro h
      rw [Bool.and_eq_true, decide_eq_true_eq, decide_eq_true_eq] at h
      have := hi.2 h.1
      exact ar453 hi.2 h.1 h.2
    rw [if_neg a, if_neg b]
    exact foldl_tidy' l n (i + 1) (by exact ar450 h) (fun j h1 h2 => hj j (by exact Nat.le_of_lt h1) h2)
theorem pw_adj : ∀ (l : List Int), (∀ j, 0 < j → j < l.length → absI (l.getD (j - 1) 0) < absI (l.getD j 0)) → (l.map absI).Pairwise (· < ·)
  | [], _ => List.Pairwise.nil
  | [a], _ => by simp
  | a :: b :: r, h => by
    have ih := pw_adj (b :: r) (fun j h1 h2 => by
      have := h (j + 1) (by exact Nat.succ_pos _) (by simp at h2 ⊢; exact h2)
      obtain ⟨i, rfl⟩ : ∃ i, j = i + 1 := ⟨j - 1, by exact (Nat.sub_add_cancel h1).symm⟩
      simpa using this)
    have ab : absI a < absI b := by simpa using h 1 (by decide) (by simp)
    rw [List.map_cons]
    refine List.pairwise_cons.mpr ⟨fun c hc => ?_, ih⟩
    rw [List.map_cons] at ih hc
    rcases List.mem_cons.mp hc with rfl | hc
    · exact ab
    · exact Int.lt_trans ab ((List.pairwise_cons.mp ih).1 c hc)
theorem adj_pw {l : List Int} (h : (l.map absI).Pairwise (· < ·)) (j : Nat) (h1 : 0 < j) (h2 : j < l.length) : absI (l.getD (j - 1) 0) < absI (l.getD j 0) := by
  have := List.pairwise_iff_getElem.mp h (j - 1) j (by simp; exact Nat.lt_of_le_of_lt (Nat.sub_le _ _) h2) (by simpa using h2) (by exact Nat.sub_lt h1 Nat.one_pos)
  rw [List.getElem_map, List.getElem_map] at this
  rw [List.getD_eq_getElem?_getD, List.getD_eq_getElem?_getD, List.getElem?_eq_getElem h2, List.getElem?_eq_getElem (by exact Nat.lt_of_le_of_lt (Nat.sub_le _ _) h2)]
  exact this
theorem tidy_eq (l : List Int) : tidy l = (!l.contains 0 && decide ((l.map absI).Pairwise (· < ·))) := by
  rw [Bool.eq_iff_iff]
  unfold tidy
  rw [List.range_eq_range']
  constructor
  · intro h
    have hj := foldl_tidy l l.length 0 (by exact Nat.add_comm _ _) h
    rw [Bool.and_eq_true]
    constructor
    · rw [Bool.not_eq_true', List.contains_eq_mem, decide_eq_false_iff_not]
      intro hm
      obtain ⟨j, hl, e⟩ := List.mem_iff_getElem.mp hm
      have := (hj j (by exact Nat.zero_le _) hl).1
      rw [List.getD_eq_getElem?_getD, List.getElem?_eq_getElem hl] at this
      exact this e
    · rw [decide_eq_true_eq]
      exact pw_adj l (fun j h1 h2 => (hj j (by exact Nat.zero_le _) h2).2 h1)
  · intro h
    rw [Bool.and_eq_true, Bool.not_eq_true', List.contains_eq_mem, decide_eq_false_iff_not, decide_eq_true_eq] at h
    refine foldl_tidy' l l.length 0 (by exact Nat.add_comm _ _) (fun j _ h2 => ⟨fun e => h.1 ?_, fun h1 => adj_pw h.2 j h1 h2⟩)
    rw [List.getD_eq_getElem?_getD, List.getElem?_eq_getElem h2] at e
    exact List.mem_iff_getElem.mpr ⟨j, h2, e⟩
theorem addOk_eq (p : PrS) (rule : Str) (cl pr : List Int) : addOk p rule cl pr = isPut rule cl pr p.steps.length := by
  unfold addOk isPut
  rw [tidy_eq]
  cases rulesL.contains rule <;> cases (pr.all fun o => decide (0 ≤ o) && decide (o < (p.steps.length : Int))) <;> cases cl.contains 0 <;> simp
theorem holL_snoc (st : List PV) (v : PV) : holL (st ++ [v]) = holL st ++ (if hollowB v then [(st.length : Int)] else []) := by
  unfold holL
  rw [List.zipIdx_append, List.filter_append, List.map_append]
  congr 1
  have e : [v].zipIdx (0 + st.length) = [(v, st.length)] := by simp
  rw [e, List.filter_cons]
  cases hollowB v <;> rfl
theorem hollow_stepV (c : Str) (cl ah : List Int) (note : PV) : hollowB (stepV c cl ah note) = decide (cl.length = 0) := by
  unfold stepV
  cases cl <;> rfl
theorem empty_ok (st : List PV) (c : Str) (cl ah : List Int) (note : PV) : (holL (st ++ [stepV c cl ah note])).headD (-1) = if cl.length = 0 ∧ (holL st).headD (-1) < 0 then (st.length : Int) else (holL st).headD (-1) := by
  rw [holL_snoc, hollow_stepV]
  have pos : ∀ a ∈ holL st, 0 ≤ a := by
    intro a ha
    unfold holL at ha
    obtain ⟨q, _, rfl⟩ := List.mem_map.mp ha
    exact ar68
  rcases h : holL st with _ | ⟨a, r⟩
  · by_cases hc : cl.length = 0 <;> simp [hc]
  · have := pos a (by rw [h]; exact .head _)
    have : ¬ a < 0 := by exact ar459 this
    simp [this]
noncomputable abbrev Sg (c : Nat) : Prop := c < 128 ∧ (c ≠ 10 → Unicode.isSpace c = decide (c = 32))
noncomputable def fgB (c : Nat) : Bool := dgB c || c == 40
noncomputable def Cn (l : List Nat) : Nat := l.countP fgB
noncomputable def Bl (k : Nat) (l : List Nat) : Prop := ∀ a p b, l = a ++ p ++ b → 10 ∉ p → 124 ∉ p → p.count 32 ≤ k
structure Mz (k d : Nat) (l : List Nat) : Prop where
  sg : ∀ c ∈ l, Sg c
  ct : Cn l ≤ d
  bl : Bl k l
theorem Cn_app (a b : List Nat) : Cn (a ++ b) = Cn a + Cn b := List.countP_append
theorem Bl.of_count {k : Nat} {l : List Nat} (h : l.count 32 ≤ k) : Bl k l := fun a p b e _ _ => by
  subst e
  rw [List.count_append, List.count_append] at h
  exact Nat.le_trans (Nat.le_trans (Nat.le_add_left _ _) (Nat.le_add_right _ _)) h
theorem Bl.up {k m : Nat} {l : List Nat} (h : Bl k l) (hm : k ≤ m) : Bl m l := fun a p b e h1 h2 => Nat.le_trans (h a p b e h1 h2) hm
theorem Bl.infix {k : Nat} {a p b : List Nat} (h : Bl k (a ++ p ++ b)) : Bl k p := fun a' q b' e h1 h2 => by
  subst e
  exact h (a ++ a') q (b' ++ b) (by simp only [List.append_assoc]) h1 h2
theorem infix_app {a b x p y : List Nat} (h : a ++ b = x ++ p ++ y) : (Ex6 fun p1 p2 x1 y1 x2 y2 => And5 (p = p1 ++ p2) (a = x1 ++ p1 ++ y1) (b = x2 ++ p2 ++ y2) ((p2 = [] ∨ y1 = [] )) ((p1 = [] ∨ x2 = []))) := by
  rw [List.append_assoc] at h
  rcases List.append_eq_append_iff.mp h with ⟨c, e1, e2⟩ | ⟨c, e1, e2⟩
  · exact ⟨[], p, a, [], c, y, rfl, by simp, by rw [e2]; simp, .inr rfl, .inl rfl⟩
  · rcases List.append_eq_append_iff.mp e2 with ⟨d, f1, f2⟩ | ⟨d, f1, f2⟩
    · exact ⟨p, [], x, d, [], b, by simp, by rw [e1, f1]; simp, by simp, .inl rfl, .inr rfl⟩
    · exact ⟨c, d, x, [], [], y, f1, by rw [e1]; simp, by rw [f2]; simp, .inr rfl, .inr rfl⟩
theorem Bl.app {k m : Nat} {a b : List Nat} (ha : Bl k a) (hb : Bl m b) : Bl (k + m) (a ++ b) := fun x p y e h1 h2 => by
  obtain ⟨p1, p2, x1, y1, x2, y2, rfl, e1, e2, _, _⟩ := infix_app e
  have := ha x1 p1 y1 e1 (fun h => h1 (List.mem_append.mpr (.inl h))) (fun h => h2 (List.mem_append.mpr (.inl h)))
  have := hb x2 p2 y2 e2 (fun h => h1 (List.mem_append.mpr (.inr h))) (fun h => h2 (List.mem_append.mpr (.inr h)))
  rw [List.count_append]
  lia
theorem Bl.sep {k s : Nat} {a b : List Nat} (hs : s = 10 ∨ s = 124) (ha : Bl k a) (hb : Bl k b) : Bl k (a ++ s :: b) := fun x p y e h1 h2 => by
  obtain ⟨p1, p2, x1, y1, x2, y2, rfl, e1, e2, h3, h4⟩ := infix_app e
  have q1 := ha x1 p1 y1 e1 (fun h => h1 (List.mem_append.mpr (.inl h))) (fun h => h2 (List.mem_append.mpr (.inl h)))
  rcases p2 with _ | ⟨c, p2⟩
  · rw [List.append_nil]; exact q1
  · rcases h4 with rfl | rfl
    · rcases x2 with _ | ⟨z, x2⟩
      · simp only [List.nil_append, List.cons_append, List.cons.injEq] at e2
        exfalso
        rcases hs with rfl | rfl
        · exact h1 (by rw [← e2.1]; simp)
        · exact h2 (by rw [← e2.1]; simp)
      · simp only [List.cons_append, List.cons.injEq] at e2
        exact hb x2 (c :: p2) y2 e2.2 h1 h2
    · simp only [List.nil_append, List.cons_append, List.cons.injEq] at e2
      exfalso
      rcases hs with rfl | rfl
      · exact h1 (by rw [← e2.1]; simp)
      · exact h2 (by rw [← e2.1]; simp)
theorem Mz.app {k d k' d' : Nat} {a b : List Nat} (ha : Mz k d a) (hb : Mz k' d' b) : Mz (k + k') (d + d') (a ++ b) :=
  ⟨fun c hc => (List.mem_append.mp hc).elim (ha.sg c) (hb.sg c), by rw [Cn_app]; have := ha.ct; have := hb.ct; lia, ha.bl.app hb.bl⟩
theorem Mz.up {k d k' d' : Nat} {a : List Nat} (ha : Mz k d a) (h1 : k ≤ k') (h2 : d ≤ d') : Mz k' d' a := ⟨ha.sg, Nat.le_trans ha.ct h2, ha.bl.up h1⟩
theorem Mz.infix {k d : Nat} {a p b : List Nat} (h : Mz k d (a ++ p ++ b)) : Mz k d p :=
  ⟨fun c hc => h.sg c (by simp [hc]), by have := h.ct; rw [Cn_app, Cn_app] at this; exact Nat.le_trans (Nat.le_trans (Nat.le_add_left _ _) (Nat.le_add_right _ _)) this, h.bl.infix⟩
theorem Mz.take {k d : Nat} {l : List Nat} (h : Mz k d l) (n : Nat) : Mz k d (l.take n) := by
  have e : [] ++ l.take n ++ l.drop n = l := by simp
  rw [← e] at h; exact h.infix
theorem Mz.drop {k d : Nat} {l : List Nat} (h : Mz k d l) (n : Nat) : Mz k d (l.drop n) := by
  have e : l.take n ++ l.drop n ++ [] = l := by simp
  rw [← e] at h; exact h.infix
theorem Mz.nil : Mz 0 0 [] := ⟨fun c hc => absurd hc (by simp), Nat.le_refl _, .of_count (Nat.le_refl _)⟩
theorem Mz.jnl {k : Nat} : ∀ {ps : List (List Nat)} {d : Nat}, (∀ p ∈ ps, (∀ c ∈ p, Sg c) ∧ Bl k p) → (ps.map Cn).sum ≤ d → Mz k d (jn [10] ps)
  | [], d, _, _ => Mz.nil.up (Nat.zero_le _) (Nat.zero_le _)
  | [x], d, h, hd => ⟨(h x (.head _)).1, by
      have : Cn x + 0 ≤ d := hd
      exact this, (h x (.head _)).2⟩
  | x :: y :: r, d, h, hd => by
    have hx := h x (.head _)
    have e : jn [10] (x :: y :: r) = x ++ 10 :: jn [10] (y :: r) := by
      show x ++ [10] ++ jn [10] (y :: r) = _
      simp
    rw [List.map_cons, List.sum_cons] at hd
    have ih := Mz.jnl (ps := y :: r) (d := d - Cn x) (fun p hp => h p (.tail _ hp)) (by exact ar461 hd)
    rw [e]
    refine ⟨fun c hc => ?_, ?_, hx.2.sep (.inl rfl) ih.bl⟩
    · rcases List.mem_append.mp hc with hc | hc
      · exact hx.1 c hc
      · rcases List.mem_cons.mp hc with rfl | hc
        · decide +kernel
        · exact ih.sg c hc
    · have e2 : Cn (10 :: jn [10] (y :: r)) = Cn (jn [10] (y :: r)) := List.countP_cons_of_neg (by decide)
      rw [Cn_app, e2]
      have := ih.ct
      exact ar462 hd this
theorem Cn_spl (c : Nat) : ∀ l, ((spl c l).map Cn).sum ≤ Cn l
  | [] => by simp [spl, Cn]
  | x :: xs => by
    have ih := Cn_spl c xs
    have hx : Cn (x :: xs) = Cn [x] + Cn xs := Cn_app [x] xs
    rw [spl_cons]
    split
    · rw [List.map_cons, List.sum_cons]
      have : Cn [] = 0 := rfl
      exact ar463 ih hx this
    · rcases h : spl c xs with _ | ⟨u, v⟩
      · exact absurd h (spl_ne c xs)
      · rw [h, List.map_cons, List.sum_cons] at ih
        have hu : Cn (x :: u) = Cn [x] + Cn u := Cn_app [x] u
        simp only [List.headD_cons, List.tail_cons, List.map_cons, List.sum_cons]
        exact ar464 hx ih hu
theorem putM : ∀ m ∈ putL14, Mz 2 9 m.cps.toList := fun m hm => by
  have h : ∀ m ∈ putL14, (∀ c ∈ m.cps.toList, Sg c) ∧ Cn m.cps.toList ≤ 9 ∧ m.cps.toList.count 32 ≤ 2 := by decide +kernel
  obtain ⟨h1, h2, h3⟩ := h m hm
  exact ⟨h1, h2, .of_count h3⟩
theorem slice_to {x : Str} {i : Int} (h0 : 0 ≤ i) (h : i ≤ x.length) : (Txt.slice x none (some i)).cps.toList = x.cps.toList.take i.toNat := by
  have e := StrLaws.sliceText_to (x := x) (j := i) ⟨h0, by rw [← len_of_toList]; exact h⟩
  have e' : Txt.slice x none (some i) = _ := e
  rw [e', List.drop_zero, Int.sub_zero]
theorem slice_from {x : Str} {i : Int} (h0 : 0 ≤ i) (h : i ≤ x.length) : (Txt.slice x (some i) none).cps.toList = x.cps.toList.drop i.toNat := by
  have e := StrLaws.sliceText_from (x := x) (i := i) ⟨h0, by rw [← len_of_toList]; exact h⟩
  have e' : Txt.slice x (some i) none = _ := e
  rw [e']
  show List.take _ _ = _
  exact List.take_of_length_le (by rw [List.length_drop]; exact ar465)
theorem slice_over {x : Str} {i : Int} (h0 : 0 ≤ i) (h : i ≤ x.length) : ∃ n, (Txt.slice x (some (i + 1)) none).cps.toList = x.cps.toList.drop n := by
  by_cases hi : i + 1 ≤ x.length
  · exact ⟨_, slice_from (by exact ar466 h0) hi⟩
  · refine ⟨x.length, ?_⟩
    have e : i = x.length := by exact ar467 h hi
    subst e
    have f : Txt.slice x (some ((x.length : Int) + 1)) none = Txt.slice x (some (x.length : Int)) none := by
      unfold Txt.slice
      have g : Builtin.Str.strSliceIndices (some ((x.length : Int) + 1)) none 1 x.length = Builtin.Str.strSliceIndices (some (x.length : Int)) none 1 x.length := by
        have a1 : ¬ ((x.length : Int) + 1 < 0) := by exact ar468
        have a2 : ¬ ((x.length : Int) < 0) := by exact ar469
        have a3 : min ((x.length : Int) + 1) x.length = min (x.length : Int) x.length := by exact ar470
        simp [Builtin.Str.strSliceIndices, a1, a2, a3]
      rw [g]
    rw [f, slice_from (by exact ar68) (Int.le_refl _)]
    rfl
theorem Bend.mz {x y : Str} {k d : Nat} (h : Bend x y) (hx : Mz k d x.cps.toList) : Mz (2 * k + 2) (2 * d + 9) y.cps.toList := by
  cases h with
  | put i m h0 h1 hm =>
    rw [l_app, l_app, slice_to h0 h1, slice_from h0 h1]
    exact (((hx.take _).app (putM m hm)).app (hx.drop _)).up (by exact ar471) (by exact ar472)
  | del i h0 h1 =>
    obtain ⟨n, e⟩ := slice_over h0 h1
    rw [l_app, slice_to h0 h1, e]
    exact ((hx.take _).app (hx.drop _)).up (by exact ar473) (by exact ar474)
  | row a b =>
    have e1 : ("\n" : Str) = ⟨#[10]⟩ := rfl
    have e2 : ("\n" : Str).cps.toList = [10] := rfl
    have e0 : ∀ s ps, (Txt.join s ps) = Str.join s ps := fun s ps => StrLaws.glued_eq_join s ps
    rw [e0, join_jn, e2, e1, cut_spl, ← List.map_take, ← List.map_drop, ← List.map_append, List.map_map]
    have e3 : ((fun p : Str => p.cps.toList) ∘ mkS) = id := funext fun p => mkS_l p
    rw [e3, List.map_id]
    have hp : ∀ p ∈ spl 10 x.cps.toList, (∀ c ∈ p, Sg c) ∧ Bl k p := fun p hp => by
      obtain ⟨u, v, e, _⟩ := spl_infix _ _ _ hp
      rw [e] at hx
      exact ⟨hx.infix.sg, hx.infix.bl⟩
    have hc := Cn_spl 10 x.cps.toList
    have c1 := sum_take ((spl 10 x.cps.toList).map Cn) a
    have c2 := sum_drop ((spl 10 x.cps.toList).map Cn) b
    have := hx.ct
    refine (Mz.jnl (k := k) (d := d + d) (fun p hp' => ?_) ?_).up (by exact ar475) (by exact ar474)
    · rcases List.mem_append.mp hp' with h | h
      · exact hp p (List.mem_of_mem_take h)
      · exact hp p (List.mem_of_mem_drop h)
    · rw [List.map_append, List.sum_append, List.map_take, List.map_drop]
      exact ar476 hc c1 c2 this
theorem Bchain.mz {x y : Str} {n k d : Nat} (h : Bchain x n y) (hx : Mz k d x.cps.toList) (hn : n ≤ 2) : Mz (4 * k + 6) (4 * d + 27) y.cps.toList := by
  cases h with
  | nil => exact hx.up (by exact ar477) (by exact ar478)
  | snoc h1 h2 =>
    cases h1 with
    | nil => exact (h2.mz hx).up (by exact ar479) (by exact ar480)
    | snoc h3 h4 =>
      cases h3 with
      | nil => exact (h2.mz (h4.mz hx)).up (by exact ar481) (by exact ar482)
      | snoc _ _ => exact (ar483 hn).elim
theorem int_mz {i : Int} (h : i.natAbs ≤ 9) : Mz 0 1 (strZ i).cps.toList := by
  have q : ∀ n < 19, (∀ c ∈ (strZ ((n : Nat) - 9 : Int)).cps.toList, Sg c) ∧ Cn (strZ ((n : Nat) - 9 : Int)).cps.toList ≤ 1 ∧ (strZ ((n : Nat) - 9 : Int)).cps.toList.count 32 ≤ 0 := by decide +kernel
  have q := q (i + 9).toNat (by exact ar484 h)
  have e : (((i + 9).toNat : Nat) - 9 : Int) = i := by exact ar485 h
  rw [e] at q
  exact ⟨q.1, q.2.1, .of_count q.2.2⟩
theorem lit_mz {k d : Nat} {l : List Nat} (h : (∀ c ∈ l, Sg c) ∧ Cn l ≤ d ∧ l.count 32 ≤ k) : Mz k d l := ⟨h.1, h.2.1, .of_count h.2.2⟩
theorem rule_mz : ∀ w ∈ rulesL, Mz 0 0 w.cps.toList := fun w hw => by
  have h : ∀ m ∈ rulesL, (∀ c ∈ m.cps.toList, Sg c) ∧ Cn m.cps.toList ≤ 0 ∧ m.cps.toList.count 32 ≤ 0 := by decide +kernel
  exact lit_mz (h w hw)
theorem jn32_mz {k d : Nat} : ∀ ps : List (List Nat), (∀ p ∈ ps, Mz k d p) → Mz (ps.length * (k + 1)) (ps.length * d) (jn [32] ps)
  | [], _ => Mz.nil.up (Nat.zero_le _) (Nat.zero_le _)
  | [x], h => (h x (.head _)).up (by simp) (by simp)
  | x :: y :: r, h => by
    have ih := jn32_mz (y :: r) (fun p hp => h p (.tail _ hp))
    have s : Mz 1 0 [32] := lit_mz (by decide +kernel)
    have := ((h x (.head _)).app s).app ih
    refine Mz.up (a := jn [32] (x :: y :: r)) this ?_ ?_
    · simp only [List.length_cons, Nat.add_mul]; exact ar486
    · simp only [List.length_cons, Nat.add_mul]; exact ar487
theorem rowT_mz {l : List Int} {m : Nat} (hm : l.length ≤ m) (hs : ∀ i ∈ l, i.natAbs ≤ 9) : Mz m m (rowT l).cps.toList := by
  unfold rowT
  split
  · exact Mz.up (k := 0) (d := 0) (lit_mz (by decide +kernel)) (Nat.zero_le _) (Nat.zero_le _)
  · have e0 : ∀ s ps, (Txt.join s ps) = Str.join s ps := fun s ps => StrLaws.glued_eq_join s ps
    have e3 : (" " : Str).cps.toList = [32] := rfl
    rw [e0, join_jn, e3]
    have := jn32_mz (k := 0) (d := 1) ((l.map strZ).map fun p => p.cps.toList) (fun p hp => by
      obtain ⟨q, hq, rfl⟩ := List.mem_map.mp hp
      obtain ⟨i, hi, rfl⟩ := List.mem_map.mp hq
      exact int_mz (hs i hi))
    simp only [List.length_map] at this
    exact this.up (by exact ar488 hm) (by exact ar489 hm)
noncomputable def fN : Nat → Nat
  | 0 => 0
  | n + 1 => 3 * (fN n + 1)
noncomputable def hN : Nat → Nat
  | 0 => 1
  | n + 1 => 3 * hN n + 1
theorem fN_s (n : Nat) : fN (n + 1) = 3 * (fN n + 1) := rfl
theorem hN_s (n : Nat) : hN (n + 1) = 3 * hN n + 1 := rfl
theorem hN_pos : ∀ n, 1 ≤ hN n
  | 0 => Nat.le_refl _
  | n + 1 => by unfold hN; exact Nat.succ_pos _
theorem note_mz {n : Nat} {d : PV} (h : NoteP n d) : Mz (fN n) (hN n) (noteT d).cps.toList := by
  induction h with
  | none n =>
    rw [noteT]
    exact Mz.up (k := 0) (d := 0) (lit_mz (by decide +kernel)) (Nat.zero_le _) (Nat.zero_le _)
  | int n i hi =>
    rw [noteT]
    exact (int_mz hi).up (Nat.zero_le _) (hN_pos n)
  | str n x hx =>
    rw [noteT]
    have h : ∀ x ∈ ([("a" : Str), "x!1", "le", "b-"]), (∀ c ∈ x.cps.toList, Sg c) ∧ Cn x.cps.toList ≤ 1 ∧ x.cps.toList.count 32 ≤ 0 := by decide +kernel
    exact (lit_mz (h x hx)).up (Nat.zero_le _) (hN_pos n)
  | @tup n ds hd hl ih =>
    rw [noteT, noteTs_map]
    have e0 : ∀ s ps, (Txt.join s ps) = Str.join s ps := fun s ps => StrLaws.glued_eq_join s ps
    have e1 : ("(" : Str).cps.toList = [40] := rfl
    have e2 : (")" : Str).cps.toList = [41] := rfl
    have e3 : (" " : Str).cps.toList = [32] := rfl
    rw [l_app, l_app, e0, join_jn, e1, e2, e3]
    have a : Mz 0 1 [40] := lit_mz (by decide +kernel)
    have b : Mz 0 0 [41] := lit_mz (by decide +kernel)
    have c := jn32_mz (k := fN n) (d := hN n) ((ds.map noteT).map fun p => p.cps.toList) (fun p hp => by
      obtain ⟨q, hq, rfl⟩ := List.mem_map.mp hp
      obtain ⟨i, hi, rfl⟩ := List.mem_map.mp hq
      exact ih i hi)
    simp only [List.length_map] at c
    have m1 := Nat.mul_le_mul_right (fN n + 1) hl
    have m2 := Nat.mul_le_mul_right (hN n) hl
    refine ((a.app c).app b).up ?_ ?_
    · rw [fN_s]; exact ar491 m1
    · rw [hN_s]; exact ar492 m2
structure RowM (l : List Nat) : Prop where
  sg : ∀ c ∈ l, Sg c
  ct : Cn l ≤ 20
  bl : Bl 14 l
theorem NameRow.mz {r : Str} (h : NameRow r) : RowM r.cps.toList := by
  obtain ⟨a, b, ha, hb, rfl⟩ := h
  rw [l_app, l_app, l_app, l_app]
  have a1 : Mz 1 0 ("name " : Str).cps.toList := lit_mz (by decide +kernel)
  have a2 : Mz 1 0 (" " : Str).cps.toList := lit_mz (by decide +kernel)
  have a3 : Mz 2 0 (" ; and" : Str).cps.toList := lit_mz (by decide +kernel)
  have m := (((a1.app (int_mz ha)).app a2).app (int_mz hb)).app a3
  have m' := m.up (k' := 14) (d' := 20) (by decide) (by decide)
  exact ⟨m'.sg, m'.ct, m'.bl⟩
theorem StepRow.mz {r : Str} (h : StepRow r) : RowM r.cps.toList := by
  obtain ⟨n, w, cl, ah, d, hn, hw, hcl, hcs, hah, has, hd, rfl⟩ := h
  have e0 : ∀ s ps, (Txt.join s ps) = Str.join s ps := fun s ps => StrLaws.glued_eq_join s ps
  have e3 : (" | " : Str).cps.toList = [32, 124, 32] := rfl
  rw [e0, join_jn, e3]
  have a1 : Mz 1 0 ("step " : Str).cps.toList := lit_mz (by decide +kernel)
  have a2 : Mz 1 0 (" " : Str).cps.toList := lit_mz (by decide +kernel)
  have s : Mz 1 0 [32] := lit_mz (by decide +kernel)
  have p0 : Mz 2 1 (stepHd n w).cps.toList := by
    unfold stepHd
    rw [l_app, l_app, l_app]
    exact (((a1.app (int_mz hn)).app a2).app (rule_mz w hw)).up (by decide) (by decide)
  have p1 := rowT_mz hcl hcs
  have p2 := rowT_mz hah has
  have p3 := note_mz hd
  have f2 : fN 2 = 12 := rfl
  have h2 : hN 2 = 13 := rfl
  rw [f2, h2] at p3
  have e : jn [32, 124, 32] ((stepParts n w cl ah d).map fun p => p.cps.toList) = ((stepHd n w).cps.toList ++ [32]) ++ 124 :: (([32] ++ (rowT cl).cps.toList ++ [32]) ++ 124 :: (([32] ++ (rowT ah).cps.toList ++ [32]) ++ 124 :: ([32] ++ (noteT d).cps.toList))) := by
    simp [stepParts, jn]
  rw [e]
  have q0 := p0.app s
  have q1 := (s.app p1).app s
  have q2 := (s.app p2).app s
  have q3 := s.app p3
  have c124 : ∀ a b, Cn (a ++ 124 :: b) = Cn a + Cn b := fun a b => by
    rw [Cn_app]
    congr 1
  refine ⟨fun c hc => ?_, ?_, ?_⟩
  · have g : Sg 124 := by decide +kernel
    rcases List.mem_append.mp hc with hc | hc
    · exact q0.sg c hc
    · rcases List.mem_cons.mp hc with rfl | hc
      · exact g
      · rcases List.mem_append.mp hc with hc | hc
        · exact q1.sg c hc
        · rcases List.mem_cons.mp hc with rfl | hc
          · exact g
          · rcases List.mem_append.mp hc with hc | hc
            · exact q2.sg c hc
            · rcases List.mem_cons.mp hc with rfl | hc
              · exact g
              · exact q3.sg c hc
  · have c0 := q0.ct
    have c1 := q1.ct
    have c2 := q2.ct
    have c3 := q3.ct
    rw [c124, c124, c124]
    exact ar493 c0 c1 c2 c3
  · exact (q0.bl.up (by decide)).sep (.inr rfl) ((q1.bl.up (by decide)).sep (.inr rfl) ((q2.bl.up (by decide)).sep (.inr rfl) (q3.bl.up (by decide))))
theorem sum20 : ∀ ps : List (List Nat), (∀ p ∈ ps, Cn p ≤ 20) → (ps.map Cn).sum ≤ 20 * ps.length
  | [], _ => Nat.zero_le _
  | p :: ps, h => by
    have := sum20 ps (fun q hq => h q (.tail _ hq))
    have := h p (.head _)
    rw [List.map_cons, List.sum_cons, List.length_cons]
    lia
theorem Drawn.mz {x : Str} (h : Drawn x) : Mz 14 120 x.cps.toList := by
  obtain ⟨names, steps, h1, h2, h3, h4, rfl⟩ := h
  have e0 : ∀ s ps, (Txt.join s ps) = Str.join s ps := fun s ps => StrLaws.glued_eq_join s ps
  have e3 : ("\n" : Str).cps.toList = [10] := rfl
  rw [e0, join_jn, e3]
  have hr : ∀ p ∈ ((names ++ steps).map fun p : Str => p.cps.toList), RowM p := fun p hp => by
    obtain ⟨q, hq, rfl⟩ := List.mem_map.mp hp
    rcases List.mem_append.mp hq with hq | hq
    · exact (h1 q hq).mz
    · exact (h3 q hq).mz
  refine Mz.jnl (fun p hp => ⟨(hr p hp).sg, (hr p hp).bl⟩) ?_
  have := sum20 _ (fun p hp => (hr p hp).ct)
  rw [List.length_map, List.length_append] at this
  exact ar494 h2 h4 this
theorem chain_mz {x y : Str} {n : Nat} (h : Drawn x) (hc : Bchain x n y) (hn : n ≤ 2) : Mz 62 507 y.cps.toList ∧ y.length ≤ 15000 := by
  refine ⟨hc.mz h.mz hn, ?_⟩
  have a := hc.len
  have b := h.len
  have : (2 : Nat) ^ n ≤ 4 := by
    have := Nat.pow_le_pow_right (n := 2) (by decide) hn
    exact this
  have := Nat.mul_le_mul_right (x.length + 20) this
  exact ar495 a b this
noncomputable def Wl (l : List Nat) : List Str := ((spl 32 l).filter fun q => q != []).map mkS
theorem Wl_sep (a b : List Nat) : Wl (a ++ 32 :: b) = Wl a ++ Wl b := by
  unfold Wl
  rw [spl_app_sep, List.filter_append, List.map_append]
theorem sprL_app (a b : List Nat) : sprL (a ++ b) = sprL a ++ sprL b := List.flatMap_append
theorem Wl_open (a : List Nat) : Wl (sprL (40 :: a)) = ("(" : Str) :: Wl (sprL a) := by
  have e : sprL (40 :: a) = [] ++ 32 :: ([40] ++ 32 :: sprL a) := rfl
  rw [e, Wl_sep, Wl_sep]
  rfl
theorem Wl_close (a : List Nat) : Wl (sprL (a ++ [41])) = Wl (sprL a) ++ [(")" : Str)] := by
  have e : sprL (a ++ [41]) = sprL a ++ 32 :: ([41] ++ 32 :: []) := by rw [sprL_app]; rfl
  rw [e, Wl_sep, Wl_sep]
  rfl
theorem Wl_jn : ∀ ps : List (List Nat), Wl (sprL (jn [32] ps)) = ps.flatMap fun p => Wl (sprL p)
  | [] => rfl
  | [x] => by simp [jn]
  | x :: y :: r => by
    have ih := Wl_jn (y :: r)
    have e : sprL (jn [32] (x :: y :: r)) = sprL x ++ 32 :: sprL (jn [32] (y :: r)) := by
      show sprL (x ++ [32] ++ jn [32] (y :: r)) = _
      rw [sprL_app, sprL_app, List.append_assoc]
      rfl
    rw [e, Wl_sep, ih]
    rfl
noncomputable def Prs (d : PV) : Prop := ∀ r acc st, nf (Wl (sprL (noteT d).cps.toList) ++ r) (acc :: st) = nf r ((acc ++ [d]) :: st)
noncomputable def AtomW (w : Str) (d : PV) : Prop := Wl (sprL w.cps.toList) = [w] ∧ ¬ (w == (")" : Str)) = true ∧ ¬ (w == ("(" : Str)) = true ∧ ¬ (w == ("-" : Str)) = true ∧ nfAtom w = d
theorem AtomW.prs {w : Str} {d : PV} (h : AtomW w d) (r : List Str) (acc : List PV) (st : List (List PV)) : nf (Wl (sprL w.cps.toList) ++ r) (acc :: st) = nf r ((acc ++ [d]) :: st) := by
  obtain ⟨h1, h2, h3, h4, h5⟩ := h
  rw [h1, List.singleton_append, nf_word h2 h3 h4, h5]
theorem int_atoms : ∀ n < 19, Wl (sprL (strZ ((n : Nat) - 9 : Int)).cps.toList) = [strZ ((n : Nat) - 9 : Int)] ∧ ¬ (strZ ((n : Nat) - 9 : Int) == (")" : Str)) = true ∧ ¬ (strZ ((n : Nat) - 9 : Int) == ("(" : Str)) = true ∧ ¬ (strZ ((n : Nat) - 9 : Int) == ("-" : Str)) = true ∧ isnum (strZ ((n : Nat) - 9 : Int)) = true ∧ pint (strZ ((n : Nat) - 9 : Int)) = ((n : Nat) - 9 : Int) := by decide +kernel
theorem int_atom {i : Int} (h : i.natAbs ≤ 9) : AtomW (strZ i) (.int i) := by
  have q := int_atoms (i + 9).toNat (by exact ar484 h)
  have e : (((i + 9).toNat : Nat) - 9 : Int) = i := by exact ar485 h
  rw [e] at q
  obtain ⟨h1, h2, h3, h4, h5, h6⟩ := q
  refine ⟨h1, h2, h3, h4, ?_⟩
  unfold nfAtom
  rw [if_pos h5, h6]
theorem str_atoms : ∀ x ∈ ([("a" : Str), "x!1", "le", "b-"]), Wl (sprL x.cps.toList) = [x] ∧ ¬ (x == (")" : Str)) = true ∧ ¬ (x == ("(" : Str)) = true ∧ ¬ (x == ("-" : Str)) = true ∧ isnum x = false := by decide +kernel
theorem prs_list : ∀ (ds : List PV), (∀ d ∈ ds, Prs d) → ∀ r acc st, nf ((ds.flatMap fun d => Wl (sprL (noteT d).cps.toList)) ++ r) (acc :: st) = nf r ((acc ++ ds) :: st)
  | [], _, r, acc, st => by simp
  | d :: ds, h, r, acc, st => by
    rw [List.flatMap_cons, List.append_assoc, h d (.head _), prs_list ds (fun d hd => h d (.tail _ hd))]
    simp
theorem notes_prs {n : Nat} {d : PV} (h : NoteP n d) : Prs d := by
  induction h with
  | none n =>
    intro r acc st
    have e : Wl (sprL (noteT PV.none).cps.toList) = [("-" : Str)] := by rw [noteT]; rfl
    rw [e, List.singleton_append, nf_dash]
  | int n i hi =>
    intro r acc st
    rw [noteT]
    exact (int_atom hi).prs r acc st
  | str n x hx =>
    intro r acc st
    rw [noteT]
    obtain ⟨h1, h2, h3, h4, h5⟩ := str_atoms x hx
    refine AtomW.prs ⟨h1, h2, h3, h4, ?_⟩ r acc st
    unfold nfAtom
    rw [h5]; rfl
  | @tup n ds hd hl ih =>
    intro r acc st
    rw [noteT, noteTs_map]
    have e0 : ∀ s ps, (Txt.join s ps) = Str.join s ps := fun s ps => StrLaws.glued_eq_join s ps
    have e1 : ("(" : Str).cps.toList = [40] := rfl
    have e2 : (")" : Str).cps.toList = [41] := rfl
    have e3 : (" " : Str).cps.toList = [32] := rfl
    rw [l_app, l_app, e0, join_jn, e1, e2, e3, List.append_assoc, List.singleton_append, Wl_open, Wl_close, Wl_jn, List.map_map, List.flatMap_map, List.cons_append, nf_open, List.append_assoc]
    have := prs_list ds ih ([(")" : Str)] ++ r) [] (acc :: st)
    refine this.trans ?_
    rw [List.singleton_append, nf_close]
    rfl
theorem noteFrom_noteT {n : Nat} {d : PV} (h : NoteP n d) (hs : Sp (spread (noteT d)).cps.toList) : noteFrom (noteT d) = some d := by
  unfold noteFrom
  rw [words_l hs, spread_l]
  have := notes_prs h [] [] []
  rw [List.append_nil] at this
  have e : nf (((spl 32 (sprL (noteT d).cps.toList)).filter fun q => q != []).map mkS) [[]] = some [[d]] := this
  rw [e]
theorem spl_cnt (c : Nat) : ∀ l : List Nat, (spl c l).length = l.count c + 1
  | [] => rfl
  | x :: xs => by
    have ih := spl_cnt c xs
    rw [spl_cons]
    by_cases h : x = c
    · subst h
      rw [if_pos rfl, List.length_cons, ih, List.count_cons_self]
    · rw [if_neg h, List.length_cons, List.length_tail, ih, List.count_cons_of_ne h]
      rfl
theorem cntP_infix {p : Nat → Bool} {a q b : List Nat} : q.countP p ≤ (a ++ q ++ b).countP p := by
  rw [List.countP_append, List.countP_append]; exact ar497
structure Gw (l : List Nat) : Prop where
  asc : ∀ c ∈ l, c < 128
  sp : Sp l
  ct : Cn l ≤ 507
  len : l.length ≤ 99000
theorem Gw.infix {a p b : List Nat} (h : Gw (a ++ p ++ b)) : Gw p :=
  ⟨fun c hc => h.asc c (by simp [hc]), fun c hc => h.sp c (by simp [hc]), Nat.le_trans cntP_infix h.ct, by have := h.len; simp only [List.length_append] at this; exact Nat.le_trans (Nat.le_trans (Nat.le_add_left _ _) (Nat.le_add_right _ _)) this⟩
theorem Gw.wrd {l : List Nat} (h : Gw l) : Wrd l := by
  unfold Wrd
  rw [← List.countP_eq_length_filter]
  have := h.ct
  have q : l.countP dgB ≤ l.countP fgB := List.countP_mono_left (fun c _ hc => by unfold fgB; rw [hc]; rfl)
  unfold Cn at this
  exact Nat.le_trans q (Nat.le_trans this (by decide))
theorem Gw.words {x : Str} (h : Gw x.cps.toList) : Txt.words x = lwords x := words_lwords h.sp
theorem Gw.word {x w : Str} (h : Gw x.cps.toList) (hw : w ∈ lwords x) : Gw w.cps.toList := by
  rw [lwords_l] at hw
  obtain ⟨p, hp, rfl⟩ := List.mem_map.mp hw
  obtain ⟨a, b, e, _⟩ := spl_infix _ _ _ (List.mem_filter.mp hp).1
  rw [e] at h
  rw [mkS_l]
  exact h.infix
theorem Gw.num {w : Str} (h : Gw w.cps.toList) : lnum w = if isnum w then some (pint w) else none := by
  have := lnum_eq h.wrd
  rw [l_mkS] at this
  exact this
theorem Gw.isn {w : Str} (h : Gw w.cps.toList) (hn : isnum w = true) : PySem.intText? w = some (pint w) ∧ Nat.log2 (Int.natAbs (pint w)) < 1920 ∧ w.length ≤ 511 := by
  have q := word_num h.wrd (by rw [l_mkS]; exact hn)
  rw [l_mkS] at q
  exact ⟨q.1, q.2.2.1, by rw [len_of_toList]; exact q.2.2.2⟩
theorem Gw.wds {x : Str} (h : Gw x.cps.toList) : Wds x ∧ ∀ w ∈ Txt.words x, isnum w = true → Nat.log2 (Int.natAbs (pint w)) < 1920 := by
  have hl : x.length ≤ 99000 := by rw [len_of_toList]; exact h.len
  rw [h.words]
  refine ⟨⟨by exact Nat.le_trans hl (by decide), ?_, ?_, ?_⟩, ?_⟩
  · rw [h.words]; have := lwords_len (x := x); exact Nat.le_trans this (Nat.le_trans (Nat.add_le_add_right hl _) (by decide))
  · rw [h.words]
    intro w hw
    have := lwords_each w hw
    exact ⟨(h.word hw).asc, by exact Nat.le_trans this (Nat.le_trans hl (by decide))⟩
  · rw [h.words]
    intro w hw hn
    have := (h.word hw).isn hn
    exact ⟨this.1, by exact Nat.le_trans this.2.2 (by decide)⟩
  · intro w hw hn
    exact ((h.word hw).isn hn).2.1
theorem atoms_ok {x : Str} (h : Gw x.cps.toList) : ∀ w ∈ lwords x, atom w = nfAtom w := fun w hw => by
  have := atom_eq (h.word hw).wrd
  rw [l_mkS] at this
  exact this
theorem opens_go : ∀ ps : List (List Nat), opens ((ps.filter fun q => q != []).map mkS) ≤ (ps.map Cn).sum
  | [] => Nat.le_refl _
  | p :: ps => by
    have ih := opens_go ps
    rw [List.map_cons, List.sum_cons, List.filter_cons]
    split
    · rw [List.map_cons, opens_cons]
      by_cases e : (mkS p == ("(" : Str)) = true
      · have e' : mkS p = ("(" : Str) := eq_of_beq e
        have : p = [40] := by rw [← mkS_l p, e']; rfl
        subst this
        have c : Cn [40] = 1 := by decide
        rw [if_pos e, c]
        exact ar504 ih
      · rw [if_neg e]; exact ar505 ih
    · exact ar506 ih
theorem opens_le (x : Str) : opens (lwords x) ≤ Cn x.cps.toList := by
  rw [lwords_l]
  exact Nat.le_trans (opens_go _) (Cn_spl 32 _)
theorem sprL_mem {l : List Nat} {c : Nat} (h : c ∈ sprL l) : c ∈ l ∨ c = 32 := by
  obtain ⟨a, ha, hc⟩ := List.mem_flatMap.mp h
  split at hc
  · rcases List.mem_cons.mp hc with rfl | hc
    · exact .inr rfl
    · rcases List.mem_cons.mp hc with rfl | hc
      · exact .inl ha
      · exact .inr (List.mem_singleton.mp hc)
  · rw [List.mem_singleton.mp hc]; exact .inl ha
theorem sprL_len (l : List Nat) : (sprL l).length ≤ 3 * l.length := by
  induction l with
  | nil => exact Nat.le_refl _
  | cons a l ih =>
    have : sprL (a :: l) = sprL [a] ++ sprL l := sprL_app [a] l
    rw [this, List.length_append, List.length_cons]
    have : (sprL [a]).length ≤ 3 := by
      unfold sprL
      rw [List.flatMap_cons, List.flatMap_nil, List.append_nil]
      split <;> simp
    exact ar507 ih this
theorem sprL_cn (l : List Nat) : Cn (sprL l) = Cn l := by
  induction l with
  | nil => rfl
  | cons a l ih =>
    have e : sprL (a :: l) = sprL [a] ++ sprL l := sprL_app [a] l
    have e2 : Cn (a :: l) = Cn [a] + Cn l := Cn_app [a] l
    rw [e, Cn_app, ih, e2]
    congr 1
    unfold sprL
    rw [List.flatMap_cons, List.flatMap_nil, List.append_nil]
    split
    · have e3 : Cn [32, a, 32] = Cn [32] + Cn [a] + Cn [32] := by
        rw [← Cn_app, ← Cn_app]; rfl
      rw [e3]
      have : Cn [32] = 0 := by decide
      exact ar508 this
    · rfl
theorem Gw.spr {l : List Nat} (h : Gw l) (hl : l.length ≤ 33000) : Gw (sprL l) := by
  refine ⟨fun c hc => ?_, fun c hc => ?_, by rw [sprL_cn]; exact h.ct, by have := sprL_len l; exact Nat.le_trans this (Nat.le_trans (Nat.mul_le_mul_left _ hl) (by decide))⟩
  · rcases sprL_mem hc with h' | rfl
    · exact h.asc c h'
    · decide
  · rcases sprL_mem hc with h' | rfl
    · exact h.sp c h'
    · decide +kernel
theorem repl_len (x : Str) : (Txt.replace x "(" " ( ").length ≤ 3 * x.length := by
  have e1 : ("(" : Str) = ⟨#[40]⟩ := rfl
  have e3 : (" ( " : Str).cps.toList = [32, 40, 32] := rfl
  rw [len_of_toList, e1, repl_l, e3, len_of_toList]
  generalize x.cps.toList = l
  induction l with
  | nil => exact Nat.le_refl _
  | cons a l ih =>
    rw [List.flatMap_cons, List.length_append, List.length_cons]
    have : (if a = 40 then [32, 40, 32] else [a]).length ≤ 3 := by split <;> simp
    exact ar507 ih this
structure Gd (l : List Nat) : Prop where
  gw : Gw l
  len : l.length ≤ 30000
  bl : Bl 62 l
  nl : 10 ∉ l
theorem Gd.infix {a p b : List Nat} (h : Gd (a ++ p ++ b)) : Gd p :=
  ⟨h.gw.infix, by have := h.len; simp only [List.length_append] at this; exact Nat.le_trans (Nat.le_trans (Nat.le_add_left _ _) (Nat.le_add_right _ _)) this, h.bl.infix, fun e => h.nl (by simp [e])⟩
theorem cut_bar {x q : Str} (c : Nat) (hq : q ∈ cut x ⟨#[c]⟩) : ∃ a b, x.cps.toList = a ++ q.cps.toList ++ b ∧ c ∉ q.cps.toList := by
  rw [cut_spl] at hq
  obtain ⟨p, hp, rfl⟩ := List.mem_map.mp hq
  rw [mkS_l]
  exact spl_infix _ _ _ hp
theorem Gd.part {x q : Str} {c : Nat} (h : Gd x.cps.toList) (hq : q ∈ cut x ⟨#[c]⟩) : Gd q.cps.toList := by
  obtain ⟨a, b, e, _⟩ := cut_bar c hq
  rw [e] at h
  exact h.infix
theorem Gd.spr {x : Str} (h : Gd x.cps.toList) : Gw (spread x).cps.toList := by
  rw [spread_l]
  exact h.gw.spr (by have := h.len; exact Nat.le_trans this (by decide))
theorem bar : ("|" : Str) = ⟨#[124]⟩ := rfl
theorem semi : (";" : Str) = ⟨#[59]⟩ := rfl
theorem newl : ("\n" : Str) = ⟨#[10]⟩ := rfl
theorem Gd.ro {x : Str} (h : Gd x.cps.toList) : Ro x := by
  have hl : x.length ≤ 30000 := by rw [len_of_toList]; exact h.len
  refine ⟨by exact Nat.le_trans hl (by decide), ?_, ?_, ?_⟩
  · rw [bar, split_cut]; have := cut_len (x := x) (m := ⟨#[124]⟩); exact Nat.le_trans this (Nat.le_trans (Nat.add_le_add_right hl _) (by decide))
  · rw [bar]; exact split_ne x 124
  · rw [bar, split_cut]
    intro q hq
    have g := h.part hq
    have hql : q.length ≤ 30000 := by rw [len_of_toList]; exact g.len
    have := repl_len q
    exact ⟨g.gw.wds.1, g.spr.wds.1, by exact Nat.le_trans this (Nat.le_trans (Nat.mul_le_mul_left _ hql) (by decide)), g.gw.wds.2⟩
theorem Gd.lo {x : Str} (h : Gd x.cps.toList) : Lo x := by
  have hl : x.length ≤ 30000 := by rw [len_of_toList]; exact h.len
  refine ⟨hl, h.gw.asc, ?_⟩
  rw [bar]
  intro q hq
  have g := h.part hq
  obtain ⟨a, b, e, f⟩ := cut_bar 124 hq
  have s := g.spr
  rw [spread_spaced] at s
  refine ⟨?_, s.asc, ?_, ?_⟩
  · rw [len_of_toList, spaced_l]
    have := sprL_len q.cps.toList
    have := g.len
    lia
  · have := opens_le (spaced q)
    have := s.ct
    lia
  · have b := g.bl [] q.cps.toList [] (by simp) g.nl f
    rw [lwords_l, List.length_map]
    have := List.length_filter_le (fun q => q != []) (spl 32 q.cps.toList)
    rw [spl_cnt] at this
    exact ar514 b this
theorem gd_row {y r : Str} (h : Mz 62 507 y.cps.toList) (hl : y.length ≤ 15000) (hr : r ∈ cut y "\n") : Gd r.cps.toList := by
  rw [newl] at hr
  obtain ⟨a, b, e, f⟩ := cut_bar 10 hr
  rw [e] at h
  have m := h.infix
  rw [len_of_toList, e] at hl
  simp only [List.length_append] at hl
  exact ⟨⟨fun c hc => (m.sg c hc).1, fun c hc => (m.sg c hc).2 (fun e => f (e ▸ hc)), m.ct, by exact ar515 hl⟩, by exact ar516 hl, m.bl, f⟩
theorem rowOf_eq (r : Str) : rowOf r = lrowOf r := by
  unfold rowOf lrowOf
  rw [semi, split_cut]
theorem gd_rowOf {r : Str} (h : Gd r.cps.toList) : Gd (lrowOf r).cps.toList := by
  have := lrowOf_mem r
  rw [semi] at this
  exact h.part this
theorem rowsOf_sub (y : Str) : ∀ r ∈ rowsOf y, r ∈ cut y "\n" := fun r hr => by
  unfold rowsOf at hr
  split at hr
  · rw [newl, split_cut] at hr
    rw [newl]; exact hr
  · cases hr
theorem tx_of {y : Str} (h : Mz 62 507 y.cps.toList) (hl : y.length ≤ 15000) : Tx y := by
  refine ⟨by exact Nat.le_trans hl (by decide), ?_, fun r hr => ?_⟩
  · unfold rowsOf
    split
    · rw [newl, split_cut]
      have := cut_len (x := y) (m := ⟨#[10]⟩)
      exact Nat.le_trans this (Nat.le_trans (Nat.add_le_add_right hl _) (by decide))
    · exact Nat.zero_le _
  · have g := gd_row h hl (rowsOf_sub y r hr)
    have gr := gd_rowOf g
    have hrl : r.length ≤ 30000 := by rw [len_of_toList]; exact g.len
    rw [rowOf_eq]
    refine ⟨?_, ?_, by exact Nat.le_trans hrl (by decide), gr.ro, gr.gw.wds.1, gr.gw.wds.2⟩
    · rw [semi]; exact split_ne r 59
    · rw [semi, split_cut]
      have := cut_len (x := r) (m := ⟨#[59]⟩)
      exact Nat.le_trans this (Nat.le_trans (Nat.add_le_add_right hrl _) (by decide))
theorem lt_of {y : Str} (h : Mz 62 507 y.cps.toList) (hl : y.length ≤ 15000) : Lt y :=
  ⟨by exact Nat.le_trans hl (by decide), fun c hc => (h.sg c hc).1, fun r hr => (gd_rowOf (gd_row h hl hr)).lo⟩
theorem nums_go : ∀ ws : List Str, (∀ w ∈ ws, lnum w = if isnum w then some (pint w) else none) →
    (if ((ws.map lnum).contains none) = true then none else some ((ws.map lnum).filterMap id)) = if ws.all isnum = true then some (ws.map pint) else none
  | [], _ => rfl
  | w :: ws, h => by
    have ih := nums_go ws (fun w hw => h w (.tail _ hw))
    have hw := h w (.head _)
    rw [List.map_cons, hw, List.all_cons, List.map_cons]
    by_cases a : isnum w = true
    · rw [if_pos a, a, Bool.true_and]
      have e1 : (some (pint w) :: ws.map lnum).contains none = (ws.map lnum).contains none := by
        rw [List.contains_cons]; rfl
      have e2 : (some (pint w) :: ws.map lnum).filterMap id = pint w :: (ws.map lnum).filterMap id := rfl
      rw [e1, e2]
      by_cases b : ws.all isnum = true
      · rw [if_pos b] at ih ⊢
        split at ih
        · exact no_ns ih
        · rename_i c
          rw [if_neg c, Option.some.inj ih]
      · rw [if_neg b] at ih ⊢
        split at ih
        · rename_i c
          rw [if_pos c]
        · exact no_sn ih
    · have a' : isnum w = false := by simpa using a
      rw [if_neg a, a', Bool.false_and]
      have e1 : ((none : Option Int) :: ws.map lnum).contains none = true := by
        rw [List.contains_cons]; rfl
      rw [e1]
      rfl
theorem numsIn_eq {x : Str} (h : Gw x.cps.toList) : numsIn x = lnums x := by
  unfold numsIn lnums lnumsF
  rw [h.words]
  by_cases e : lwords x = [("-" : Str)]
  · rw [e]; rfl
  · have e1 : ¬ (lwords x == [("-" : Str)]) = true := by rw [beq_iff_eq]; exact e
    have e2 : (lwords x != [("-" : Str)]) = true := by rw [bne_iff_ne]; exact e
    rw [if_neg e1, if_pos e2]
    exact (nums_go _ (fun w hw => (h.word hw).num)).symm
theorem note_eq {x : Str} (h : Gd x.cps.toList) : noteFrom x = match nread x with | [] => none | v :: _ => some v := by
  have s := h.spr
  have w := s.words
  rw [spread_spaced] at s
  refine note_read_eq ?_ (atoms_ok s)
  rw [w, spread_spaced]
noncomputable def Rl (p : PrS) (nm : List Int) (st : List PV) : Prop := p.named = 0 :: nm ∧ p.steps = st ∧ p.empty = (holL st).headD (-1)
noncomputable def SSame (nm : List Int) (st : List PV) (X : StepR) (Y : LR) : Prop := (∃ n, X = .bad n ∧ Y = .bad n) ∨ (Ex2 fun p' v => And3 (X = .ok p') (Y = .ok v) (Rl p' nm (st ++ [v])))
theorem step_eq {p : PrS} {nm : List Int} {st : List PV} {x : Str} {wh : Int} (h : Gd x.cps.toList) (hr : Rl p nm st) : SSame nm st (stepR p x wh) (lstepR st.length x wh) := by
  obtain ⟨h1, h2, h3⟩ := hr
  unfold stepR lstepR
  rw [bar, split_cut]
  have hq : ∀ q ∈ cut x ⟨#[124]⟩, Gd q.cps.toList := fun q hq => h.part hq
  generalize cut x ⟨#[124]⟩ = qs at hq
  rcases qs with _ | ⟨q0, _ | ⟨q1, _ | ⟨q2, _ | ⟨q3, _ | ⟨q4, r⟩⟩⟩⟩⟩
  · exact .inl ⟨_, rfl, rfl⟩
  · exact .inl ⟨_, rfl, rfl⟩
  · exact .inl ⟨_, rfl, rfl⟩
  · exact .inl ⟨_, rfl, rfl⟩
  · simp only []
    rw [(hq q0 (by simp)).gw.words, numsIn_eq (hq q1 (by simp)).gw, numsIn_eq (hq q2 (by simp)).gw, note_eq (hq q3 (by simp)), h2]
    rcases lwords q0 with _ | ⟨a, _ | ⟨b, _ | ⟨c, _ | ⟨d, r⟩⟩⟩⟩
    · exact .inl ⟨_, rfl, rfl⟩
    · exact .inl ⟨_, rfl, rfl⟩
    · exact .inl ⟨_, rfl, rfl⟩
    · simp only []
      by_cases hb : (b == strI st.length) = true
      · rw [if_pos hb, if_pos hb]
        cases lnums q1 with
        | none => exact .inl ⟨_, rfl, rfl⟩
        | some cl =>
          simp only []
          cases lnums q2 with
          | none => exact .inl ⟨_, rfl, rfl⟩
          | some ah =>
            simp only []
            rcases nread q3 with _ | ⟨note, r⟩
            · exact .inl ⟨_, rfl, rfl⟩
            · simp only []
              rw [addOk_eq, h2]
              by_cases hp : isPut c cl ah st.length = true
              · rw [if_pos hp, if_pos hp]
                refine .inr ⟨_, _, rfl, rfl, h1, ?_, ?_⟩
                · show p.steps ++ _ = _
                  rw [h2]; rfl
                · show (if cl.length = 0 ∧ p.empty < 0 then (p.steps.length : Int) else p.empty) = _
                  rw [empty_ok, h3, h2]
              · rw [if_neg hp, if_neg hp]
                exact .inl ⟨_, rfl, rfl⟩
      · rw [if_neg hb, if_neg hb]
        exact .inl ⟨_, rfl, rfl⟩
    · exact .inl ⟨_, rfl, rfl⟩
  · exact .inl ⟨_, rfl, rfl⟩
noncomputable def RSame (X : StepR) (Y : LS) : Prop := (∃ n, X = .bad n ∧ Y = .bad n) ∨ (Ex3 fun p' nm' st' => And3 (X = .ok p') (Y = .ok nm' st') (Rl p' nm' st'))
theorem row_eq {p : PrS} {nm : List Int} {st : List PV} {r : Str} {wh : Int} (h : Gd r.cps.toList) (hr : Rl p nm st) : RSame (rowR p r wh) (lrowR nm st r wh) := by
  have g := gd_rowOf h
  unfold rowR lrowR
  rw [rowOf_eq]
  simp only []
  rw [g.gw.words]
  have hw : ∀ w ∈ lwords (lrowOf r), lnum w = if isnum w then some (pint w) else none := fun w hw => (g.gw.word hw).num
  have hs := step_eq (wh := wh) g hr
  generalize lwords (lrowOf r) = ws at hw
  rcases ws with _ | ⟨w0, ws⟩
  · exact .inr ⟨_, _, _, rfl, rfl, hr⟩
  · simp only []
    have ec : (((w0 :: ws).length : Int) == 3 && w0 == ("name" : Str)) = (decide (ws.length = 2) && w0 == ("name" : Str)) := by
      congr 1
      rw [Bool.eq_iff_iff, beq_iff_eq, decide_eq_true_eq, List.length_cons]
      exact ar520
    rw [ec]
    by_cases hn : (decide (ws.length = 2) && w0 == ("name" : Str)) = true
    · rw [if_pos hn, if_pos hn]
      rw [Bool.and_eq_true, decide_eq_true_eq] at hn
      rcases ws with _ | ⟨a, _ | ⟨b, _ | ⟨c, ws⟩⟩⟩
      · exact absurd hn.1 (by simp)
      · exact absurd hn.1 (by simp)
      · have ea : [a, b].getD 0 Str.empty = a := rfl
        have eb : [a, b].getD 1 Str.empty = b := rfl
        rw [ea, eb, hw a (by simp), hw b (by simp)]
        by_cases ia : isnum a = true
        · rw [if_pos ia, ia, Bool.true_and]
          by_cases ib : isnum b = true
          · rw [if_pos ib, if_pos ib]
            simp only []
            have el : (p.named.length : Int) = (nm.length : Int) + 1 := by
              rw [hr.1, List.length_cons]; rfl
            rw [el]
            by_cases ev : pint a = (nm.length : Int) + 1
            · rw [if_pos ev, if_pos ev]
              refine .inr ⟨_, _, _, rfl, rfl, ?_, hr.2⟩
              show p.named ++ _ = _
              rw [hr.1]; rfl
            · rw [if_neg ev, if_neg ev]
              exact .inl ⟨_, rfl, rfl⟩
          · rw [if_neg ib, if_neg ib]
            exact .inl ⟨_, rfl, rfl⟩
        · have ia' : isnum a = false := by simpa using ia
          rw [if_neg ia, ia', Bool.false_and]
          exact .inl ⟨_, rfl, rfl⟩
      · exact absurd hn.1 (by simp)
    · rw [if_neg hn, if_neg hn]
      by_cases h0 : (w0 == ("step" : Str)) = true
      · rw [if_pos h0, if_pos h0]
        rcases hs with ⟨n, e1, e2⟩ | ⟨p', v, e1, e2, e3⟩
        · rw [e1, e2]; exact .inl ⟨_, rfl, rfl⟩
        · rw [e1, e2]; exact .inr ⟨_, _, _, rfl, rfl, e3⟩
      · rw [if_neg h0, if_neg h0]
        exact .inl ⟨_, rfl, rfl⟩
theorem rows_eq : ∀ (rs : List Str) (wh : Int) (p : PrS) (nm : List Int) (st : List PV), (∀ r ∈ rs, Gd r.cps.toList) → Rl p nm st →
    (∃ n, rowsR rs wh p = .bad n ∧ lrowsR rs wh nm st = .bad n) ∨ (Ex3 fun p' nm' st' => And3 (rowsR rs wh p = .ok p') (lrowsR rs wh nm st = .ok nm' st') (Rl p' nm' st'))
  | [], wh, p, nm, st, _, hr => .inr ⟨_, _, _, rfl, rfl, hr⟩
  | r :: rs, wh, p, nm, st, h, hr => by
    unfold rowsR lrowsR
    rcases row_eq (wh := wh) (h r (.head _)) hr with ⟨n, e1, e2⟩ | ⟨p', nm', st', e1, e2, e3⟩
    · rw [e1, e2]; exact .inl ⟨_, rfl, rfl⟩
    · rw [e1, e2]
      exact rows_eq rs (wh + 1) p' nm' st' (fun r hr => h r (.tail _ hr)) e3
theorem read_eq {y : Str} (h : Mz 62 507 y.cps.toList) (hl : y.length ≤ 15000) : heardD y = lreadD y := by
  by_cases he : y = Str.empty
  · subst he; rfl
  · have e : rowsOf y = cut y "\n" := by
      unfold rowsOf
      rw [if_pos (by rw [bne_iff_ne]; exact he), newl, split_cut]
    unfold heardD lreadD readR
    rw [e]
    rcases rows_eq (cut y "\n") 0 ⟨[], [0], -1⟩ [] [] (fun r hr => gd_row h hl hr) ⟨rfl, rfl, rfl⟩ with ⟨n, e1, e2⟩ | ⟨p', nm', st', e1, e2, e3, e4, e5⟩
    · rw [e1, e2]
    · rw [e1, e2]
      simp only []
      rw [e3, e4, e5]
      rfl
theorem fh3 : fN 3 = 39 ∧ hN 3 = 40 := by decide
theorem no_nl {n : Nat} {d : PV} (h : NoteP n d) : 10 ∉ (noteT d).cps.toList := by
  induction h with
  | none n => rw [noteT]; decide +kernel
  | int n i hi =>
    rw [noteT]
    have q : ∀ n < 19, 10 ∉ (strZ ((n : Nat) - 9 : Int)).cps.toList := by decide +kernel
    have q := q (i + 9).toNat (by exact ar484 hi)
    have e : (((i + 9).toNat : Nat) - 9 : Int) = i := by exact ar485 hi
    rw [e] at q
    exact q
  | str n x hx =>
    rw [noteT]
    have h : ∀ x ∈ ([("a" : Str), "x!1", "le", "b-"]), 10 ∉ x.cps.toList := by decide +kernel
    exact h x hx
  | @tup n ds hd hl ih =>
    rw [noteT, noteTs_map]
    have e0 : ∀ s ps, (Txt.join s ps) = Str.join s ps := fun s ps => StrLaws.glued_eq_join s ps
    have e1 : ("(" : Str).cps.toList = [40] := rfl
    have e2 : (")" : Str).cps.toList = [41] := rfl
    have e3 : (" " : Str).cps.toList = [32] := rfl
    rw [l_app, l_app, e0, join_jn, e1, e2, e3]
    have j : ∀ ps : List (List Nat), (∀ p ∈ ps, 10 ∉ p) → 10 ∉ jn [32] ps := by
      intro ps
      induction ps with
      | nil => intro _ h; cases h
      | cons a r ih =>
        intro h
        rcases r with _ | ⟨b, r⟩
        · exact h a (.head _)
        · intro hc
          have hc : 10 ∈ a ++ [32] ++ jn [32] (b :: r) := hc
          rcases List.mem_append.mp hc with hc | hc
          · rcases List.mem_append.mp hc with hc | hc
            · exact h a (.head _) hc
            · exact absurd hc (by decide)
          · exact ih (fun p hp => h p (.tail _ hp)) hc
    intro hc
    rcases List.mem_append.mp hc with hc | hc
    · rcases List.mem_append.mp hc with hc | hc
      · exact absurd hc (by decide)
      · refine j _ (fun p hp => ?_) hc
        obtain ⟨q, hq, rfl⟩ := List.mem_map.mp hp
        obtain ⟨i, hi, rfl⟩ := List.mem_map.mp hq
        exact ih i hi
    · exact absurd hc (by decide)
theorem plain : Plain where
  note d h := by
    have m := note_mz h
    have nl := no_nl h
    have ln := noteT_len4 h (by decide)
    have ln' := ln
    rw [len_of_toList] at ln'
    have g : Gd (noteT d).cps.toList := ⟨⟨fun c hc => (m.sg c hc).1, fun c hc => (m.sg c hc).2 (fun e => nl (e ▸ hc)), Nat.le_trans m.ct (by rw [fh3.2]; decide), by exact Nat.le_trans ln' (by decide)⟩, by exact Nat.le_trans ln' (by decide), m.bl.up (by rw [fh3.1]; decide), nl⟩
    have := repl_len (noteT d)
    exact ⟨noteFrom_noteT h g.spr.sp, g.spr.wds.1, by exact Nat.le_trans this (Nat.le_trans (Nat.mul_le_mul_left _ ln) (by decide))⟩
  text x n y h hn hc := by
    obtain ⟨m, l⟩ := chain_mz h hc hn
    exact ⟨tx_of m l, lt_of m l, read_eq m l⟩
end
section
open PySem PySem.W PyProof.Rows
set_option maxRecDepth 100000
set_option maxHeartbeats 8000000
noncomputable def fdOf (K : Frag) (f : Addr) : FuncData := match K.lookup f with | some ⟨_, _, .func fd, _⟩ => fd | _ => default
noncomputable def oC (K : Frag) (f : Addr) : Value := match K.lookup f with | some o => o.cls | _ => .none
noncomputable def oD (K : Frag) (f : Addr) : Option Addr := match K.lookup f with | some o => o.dict | _ => none
noncomputable def oS (K : Frag) (f : Addr) : Array (Option Value) := match K.lookup f with | some o => o.slots | _ => #[]
noncomputable def oF (K : Frag) (f : Addr) : Array Value := match K.lookup f with | some ⟨_, _, .fields vs, _⟩ => vs | _ => #[]
noncomputable abbrev K0 (P : Params) : Frag := hd.heap_1 P
noncomputable def supP (i : Nat) (b : List Stmt) : Pos := match b with
  | [.Expr (.Call (.Attribute (.Call (.Name _ p0) _ _ p1) _ p2) [.Name _ p3] _ p4) p5, .Assign [.Attribute (.Name _ p6) _ p7] (.Name _ p8) p9] => (([p0, p1, p2, p3, p4, p5, p6, p7, p8, p9] : List Pos)[i]?).getD ⟨0, 0, 0, 0⟩
  | _ => ⟨0, 0, 0, 0⟩
noncomputable abbrev prog0 : Program := PySem.Challenge.rw_nz0141_01.row.prog
theorem sup1 (P : Params) : SupF prog0 (K0 P) 66 ("ProofFault.__init__" : Str) ("step" : Str) (fnA (clsB 3) 0) [("self", .local), ("what", .local), ("step", .local), ("__class__", .free), ("super", .globalImplicit)] 76 54 where
  fn := ⟨(fdOf (K0 P) 66).name, (fdOf (K0 P) 66).doc, (fdOf (K0 P) 66).pyModule, (fdOf (K0 P) 66).annotations, 65, (fdOf (K0 P) 66).closureTuple, oC (K0 P) 66, oD (K0 P) 66, oS (K0 P) 66,
    supP 0 (fnB (clsB 3) 0), supP 1 (fnB (clsB 3) 0), supP 2 (fnB (clsB 3) 0), supP 3 (fnB (clsB 3) 0), supP 4 (fnB (clsB 3) 0), supP 5 (fnB (clsB 3) 0), supP 6 (fnB (clsB 3) 0), supP 7 (fnB (clsB 3) 0), supP 8 (fnB (clsB 3) 0), supP 9 (fnB (clsB 3) 0),
    oC (K0 P) 65, oD (K0 P) 65, oF (K0 P) 65, oS (K0 P) 65, ("/claim/cut.py" : Str), 248, _, by kernel_rfl, by kernel_rfl, by kernel_rfl, by kernel_rfl, by kernel_rfl, rfl, rfl, fun L => ⟨_, by with_unfolding_all rfl⟩, fun L => rfl⟩
  cell := ⟨oC (K0 P) 54, oD (K0 P) 54, oS (K0 P) 54, by kernel_rfl⟩
  nocell := by decide
  super := rfl
  cls := rfl
  self := rfl
  what := rfl
  name := rfl
  nosuper := by kernel_rfl
  top := by kernel_rfl
  boot := by kernel_rfl
theorem sup2 (P : Params) : SupF prog0 (K0 P) 37 ("SmtError.__init__" : Str) ("what" : Str) (fnA (clsB 2) 0) [("self", .local), ("what", .local), ("__class__", .free), ("super", .globalImplicit)] 47 25 where
  fn := ⟨(fdOf (K0 P) 37).name, (fdOf (K0 P) 37).doc, (fdOf (K0 P) 37).pyModule, (fdOf (K0 P) 37).annotations, 36, (fdOf (K0 P) 37).closureTuple, oC (K0 P) 37, oD (K0 P) 37, oS (K0 P) 37,
    supP 0 (fnB (clsB 2) 0), supP 1 (fnB (clsB 2) 0), supP 2 (fnB (clsB 2) 0), supP 3 (fnB (clsB 2) 0), supP 4 (fnB (clsB 2) 0), supP 5 (fnB (clsB 2) 0), supP 6 (fnB (clsB 2) 0), supP 7 (fnB (clsB 2) 0), supP 8 (fnB (clsB 2) 0), supP 9 (fnB (clsB 2) 0),
    oC (K0 P) 36, oD (K0 P) 36, oF (K0 P) 36, oS (K0 P) 36, ("/claim/cut.py" : Str), 210, _, by kernel_rfl, by kernel_rfl, by kernel_rfl, by kernel_rfl, by kernel_rfl, rfl, rfl, fun L => ⟨_, by with_unfolding_all rfl⟩, fun L => rfl⟩
  cell := ⟨oC (K0 P) 25, oD (K0 P) 25, oS (K0 P) 25, by kernel_rfl⟩
  nocell := by decide
  super := rfl
  cls := rfl
  self := rfl
  what := rfl
  name := rfl
  nosuper := by kernel_rfl
  top := by kernel_rfl
  boot := by kernel_rfl
noncomputable def cdOf (K : Frag) (f : Addr) : ClassData := match K.lookup f with | some ⟨_, _, .cls cd, _⟩ => cd | _ => default
theorem exc1 (P : Params) : ExcCls (K0 P) 76 (cdOf (K0 P) 76) where
  cls := by kernel_rfl
  ne := by kernel_rfl
  obj := by kernel_rfl
  refuse := fun self => by rfl
  set := by kernel_rfl
  dict := by kernel_rfl
  exc := by kernel_rfl
  noany := by kernel_rfl
theorem faultF (P : Params) : FaultF prog0 (K0 P) 76 47 66 37 where
  P := ⟨_, _, _, _, sup1 P, rfl, fun name body doc pm an cdv ct x v n => rfl⟩
  S := ⟨_, _, _, _, sup2 P, fun name body doc pm an cdv ct x v => rfl⟩
  cls := ⟨_, exc1 P, by kernel_rfl, by
    have e : (cdOf (K0 P) 76).mro = [Value.ref 76, Value.ref 47, Value.type "Exception", Value.type "BaseException", Value.type "object"] := by kernel_rfl
    rw [e]; decide +kernel⟩
  smtCls := ⟨cdOf (K0 P) 47, by kernel_rfl⟩
  subS := by kernel_rfl
  subP := by kernel_rfl
  t1 := by kernel_rfl
  t2 := by kernel_rfl
  sup := by kernel_rfl
  tyS := by kernel_rfl
  fnS := by kernel_rfl
theorem pfx0 (P : Params) (G : Gl) (hG : G.K = K0 P) (hp : G.prog = prog0) : PFx G 76 where
  ff := ⟨47, 66, 37, by rw [hG, hp]; exact faultF P, by rw [hG]; kernel_rfl, by rw [hG]; kernel_rfl⟩
  obj := ⟨_, _, _, _, _, _, _, _, _, _, _, _, _, _, _, _, by rw [hG]; exact (by rfl : (K0 P).lookup 76 = some _), by decide +kernel, by decide +kernel, by decide +kernel⟩
  base := by rw [hG]; kernel_rfl
  keep := by rw [hG]; kernel_rfl
  ga := by rw [hG]; kernel_rfl
  gt := by rw [hG]; kernel_rfl
  step := by rw [hG]; kernel_rfl
theorem fnk_of {G : Gl} {f : Addr} {q : Str} {ps : Arguments} {body : List Stmt} {sc : Scope} (h1 : G.K.lookup f = some ⟨oC G.K f, oD G.K f, .func (PySem.W.fnOf (fdOf G.K f).name q ps body sc .none .none (fdOf G.K f).doc (fdOf G.K f).pyModule (fdOf G.K f).annotations (fdOf G.K f).code (fdOf G.K f).closureTuple), oS G.K f⟩) (h2 : codeIn G.K (fdOf G.K f).code q = true) : FnK G f q ps body sc :=
  ⟨_, _, _, _, _, _, _, _, _, h1, h2⟩
theorem fn86 (P : Params) (G : Gl) (hG : G.K = K0 P) : FnK G 86 (fnN topB 7) (fnA topB 7) (fnB topB 7) (fnS topB 7) ∧ nsIn G.K mainGlobals (fnN topB 7) = some (some (.ref 86)) ∧ keepIn G.K (.ref 86) = true := ⟨fnk_of (by rw [hG]; kernel_rfl) (by rw [hG]; kernel_rfl), by rw [hG]; kernel_rfl, by rw [hG]; kernel_rfl⟩
theorem fn220 (P : Params) (G : Gl) (hG : G.K = K0 P) : FnK G 220 (fnN topB 10) (fnA topB 10) (fnB topB 10) (fnS topB 10) ∧ nsIn G.K mainGlobals (fnN topB 10) = some (some (.ref 220)) ∧ keepIn G.K (.ref 220) = true := ⟨fnk_of (by rw [hG]; kernel_rfl) (by rw [hG]; kernel_rfl), by rw [hG]; kernel_rfl, by rw [hG]; kernel_rfl⟩
theorem fn225 (P : Params) (G : Gl) (hG : G.K = K0 P) : FnK G 225 (fnN topB 11) (fnA topB 11) (fnB topB 11) (fnS topB 11) ∧ nsIn G.K mainGlobals (fnN topB 11) = some (some (.ref 225)) ∧ keepIn G.K (.ref 225) = true := ⟨fnk_of (by rw [hG]; kernel_rfl) (by rw [hG]; kernel_rfl), by rw [hG]; kernel_rfl, by rw [hG]; kernel_rfl⟩
theorem fn230 (P : Params) (G : Gl) (hG : G.K = K0 P) : FnK G 230 (fnN topB 12) (fnA topB 12) (fnB topB 12) (fnS topB 12) ∧ nsIn G.K mainGlobals (fnN topB 12) = some (some (.ref 230)) ∧ keepIn G.K (.ref 230) = true := ⟨fnk_of (by rw [hG]; kernel_rfl) (by rw [hG]; kernel_rfl), by rw [hG]; kernel_rfl, by rw [hG]; kernel_rfl⟩
theorem fn237 (P : Params) (G : Gl) (hG : G.K = K0 P) : FnK G 237 (fnN topB 13) (fnA topB 13) (fnB topB 13) (fnS topB 13) ∧ nsIn G.K mainGlobals (fnN topB 13) = some (some (.ref 237)) ∧ keepIn G.K (.ref 237) = true := ⟨fnk_of (by rw [hG]; kernel_rfl) (by rw [hG]; kernel_rfl), by rw [hG]; kernel_rfl, by rw [hG]; kernel_rfl⟩
theorem fn244 (P : Params) (G : Gl) (hG : G.K = K0 P) : FnK G 244 (fnN topB 14) (fnA topB 14) (fnB topB 14) (fnS topB 14) ∧ nsIn G.K mainGlobals (fnN topB 14) = some (some (.ref 244)) ∧ keepIn G.K (.ref 244) = true := ⟨fnk_of (by rw [hG]; kernel_rfl) (by rw [hG]; kernel_rfl), by rw [hG]; kernel_rfl, by rw [hG]; kernel_rfl⟩
theorem fn251 (P : Params) (G : Gl) (hG : G.K = K0 P) : FnK G 251 (fnN topB 15) (fnA topB 15) (fnB topB 15) (fnS topB 15) ∧ nsIn G.K mainGlobals (fnN topB 15) = some (some (.ref 251)) ∧ keepIn G.K (.ref 251) = true := ⟨fnk_of (by rw [hG]; kernel_rfl) (by rw [hG]; kernel_rfl), by rw [hG]; kernel_rfl, by rw [hG]; kernel_rfl⟩
theorem fn260 (P : Params) (G : Gl) (hG : G.K = K0 P) : FnK G 260 (fnN topB 19) (fnA topB 19) (fnB topB 19) (fnS topB 19) ∧ nsIn G.K mainGlobals (fnN topB 19) = some (some (.ref 260)) ∧ keepIn G.K (.ref 260) = true := ⟨fnk_of (by rw [hG]; kernel_rfl) (by rw [hG]; kernel_rfl), by rw [hG]; kernel_rfl, by rw [hG]; kernel_rfl⟩
theorem fn265 (P : Params) (G : Gl) (hG : G.K = K0 P) : FnK G 265 (fnN topB 20) (fnA topB 20) (fnB topB 20) (fnS topB 20) ∧ nsIn G.K mainGlobals (fnN topB 20) = some (some (.ref 265)) ∧ keepIn G.K (.ref 265) = true := ⟨fnk_of (by rw [hG]; kernel_rfl) (by rw [hG]; kernel_rfl), by rw [hG]; kernel_rfl, by rw [hG]; kernel_rfl⟩
theorem fn270 (P : Params) (G : Gl) (hG : G.K = K0 P) : FnK G 270 (fnN topB 21) (fnA topB 21) (fnB topB 21) (fnS topB 21) ∧ nsIn G.K mainGlobals (fnN topB 21) = some (some (.ref 270)) ∧ keepIn G.K (.ref 270) = true := ⟨fnk_of (by rw [hG]; kernel_rfl) (by rw [hG]; kernel_rfl), by rw [hG]; kernel_rfl, by rw [hG]; kernel_rfl⟩
theorem fn275 (P : Params) (G : Gl) (hG : G.K = K0 P) : FnK G 275 (fnN topB 22) (fnA topB 22) (fnB topB 22) (fnS topB 22) ∧ nsIn G.K mainGlobals (fnN topB 22) = some (some (.ref 275)) ∧ keepIn G.K (.ref 275) = true := ⟨fnk_of (by rw [hG]; kernel_rfl) (by rw [hG]; kernel_rfl), by rw [hG]; kernel_rfl, by rw [hG]; kernel_rfl⟩
theorem fn280 (P : Params) (G : Gl) (hG : G.K = K0 P) : FnK G 280 (fnN topB 23) (fnA topB 23) (fnB topB 23) (fnS topB 23) ∧ nsIn G.K mainGlobals (fnN topB 23) = some (some (.ref 280)) ∧ keepIn G.K (.ref 280) = true := ⟨fnk_of (by rw [hG]; kernel_rfl) (by rw [hG]; kernel_rfl), by rw [hG]; kernel_rfl, by rw [hG]; kernel_rfl⟩
theorem fn287 (P : Params) (G : Gl) (hG : G.K = K0 P) : FnK G 287 (fnN topB 24) (fnA topB 24) (fnB topB 24) (fnS topB 24) ∧ nsIn G.K mainGlobals (fnN topB 24) = some (some (.ref 287)) ∧ keepIn G.K (.ref 287) = true := ⟨fnk_of (by rw [hG]; kernel_rfl) (by rw [hG]; kernel_rfl), by rw [hG]; kernel_rfl, by rw [hG]; kernel_rfl⟩
theorem fn294 (P : Params) (G : Gl) (hG : G.K = K0 P) : FnK G 294 (fnN topB 25) (fnA topB 25) (fnB topB 25) (fnS topB 25) ∧ nsIn G.K mainGlobals (fnN topB 25) = some (some (.ref 294)) ∧ keepIn G.K (.ref 294) = true := ⟨fnk_of (by rw [hG]; kernel_rfl) (by rw [hG]; kernel_rfl), by rw [hG]; kernel_rfl, by rw [hG]; kernel_rfl⟩
theorem fn299 (P : Params) (G : Gl) (hG : G.K = K0 P) : FnK G 299 (fnN topB 26) (fnA topB 26) (fnB topB 26) (fnS topB 26) ∧ nsIn G.K mainGlobals (fnN topB 26) = some (some (.ref 299)) ∧ keepIn G.K (.ref 299) = true := ⟨fnk_of (by rw [hG]; kernel_rfl) (by rw [hG]; kernel_rfl), by rw [hG]; kernel_rfl, by rw [hG]; kernel_rfl⟩
theorem fn306 (P : Params) (G : Gl) (hG : G.K = K0 P) : FnK G 306 (fnN topB 27) (fnA topB 27) (fnB topB 27) (fnS topB 27) ∧ nsIn G.K mainGlobals (fnN topB 27) = some (some (.ref 306)) ∧ keepIn G.K (.ref 306) = true := ⟨fnk_of (by rw [hG]; kernel_rfl) (by rw [hG]; kernel_rfl), by rw [hG]; kernel_rfl, by rw [hG]; kernel_rfl⟩
theorem fn311 (P : Params) (G : Gl) (hG : G.K = K0 P) : FnK G 311 (fnN topB 28) (fnA topB 28) (fnB topB 28) (fnS topB 28) ∧ nsIn G.K mainGlobals (fnN topB 28) = some (some (.ref 311)) ∧ keepIn G.K (.ref 311) = true := ⟨fnk_of (by rw [hG]; kernel_rfl) (by rw [hG]; kernel_rfl), by rw [hG]; kernel_rfl, by rw [hG]; kernel_rfl⟩
theorem fn318 (P : Params) (G : Gl) (hG : G.K = K0 P) : FnK G 318 (fnN topB 29) (fnA topB 29) (fnB topB 29) (fnS topB 29) ∧ nsIn G.K mainGlobals (fnN topB 29) = some (some (.ref 318)) ∧ keepIn G.K (.ref 318) = true := ⟨fnk_of (by rw [hG]; kernel_rfl) (by rw [hG]; kernel_rfl), by rw [hG]; kernel_rfl, by rw [hG]; kernel_rfl⟩
theorem fn323 (P : Params) (G : Gl) (hG : G.K = K0 P) : FnK G 323 (fnN topB 30) (fnA topB 30) (fnB topB 30) (fnS topB 30) ∧ nsIn G.K mainGlobals (fnN topB 30) = some (some (.ref 323)) ∧ keepIn G.K (.ref 323) = true := ⟨fnk_of (by rw [hG]; kernel_rfl) (by rw [hG]; kernel_rfl), by rw [hG]; kernel_rfl, by rw [hG]; kernel_rfl⟩
theorem fn328 (P : Params) (G : Gl) (hG : G.K = K0 P) : FnK G 328 (fnN topB 31) (fnA topB 31) (fnB topB 31) (fnS topB 31) ∧ nsIn G.K mainGlobals (fnN topB 31) = some (some (.ref 328)) ∧ keepIn G.K (.ref 328) = true := ⟨fnk_of (by rw [hG]; kernel_rfl) (by rw [hG]; kernel_rfl), by rw [hG]; kernel_rfl, by rw [hG]; kernel_rfl⟩
theorem fn335 (P : Params) (G : Gl) (hG : G.K = K0 P) : FnK G 335 (fnN topB 32) (fnA topB 32) (fnB topB 32) (fnS topB 32) ∧ nsIn G.K mainGlobals (fnN topB 32) = some (some (.ref 335)) ∧ keepIn G.K (.ref 335) = true := ⟨fnk_of (by rw [hG]; kernel_rfl) (by rw [hG]; kernel_rfl), by rw [hG]; kernel_rfl, by rw [hG]; kernel_rfl⟩
theorem fn340 (P : Params) (G : Gl) (hG : G.K = K0 P) : FnK G 340 (fnN topB 33) (fnA topB 33) (fnB topB 33) (fnS topB 33) ∧ nsIn G.K mainGlobals (fnN topB 33) = some (some (.ref 340)) ∧ keepIn G.K (.ref 340) = true := ⟨fnk_of (by rw [hG]; kernel_rfl) (by rw [hG]; kernel_rfl), by rw [hG]; kernel_rfl, by rw [hG]; kernel_rfl⟩
theorem fn347 (P : Params) (G : Gl) (hG : G.K = K0 P) : FnK G 347 (fnN topB 34) (fnA topB 34) (fnB topB 34) (fnS topB 34) ∧ nsIn G.K mainGlobals (fnN topB 34) = some (some (.ref 347)) ∧ keepIn G.K (.ref 347) = true := ⟨fnk_of (by rw [hG]; kernel_rfl) (by rw [hG]; kernel_rfl), by rw [hG]; kernel_rfl, by rw [hG]; kernel_rfl⟩
theorem me100 (P : Params) (G : Gl) (hG : G.K = K0 P) : FnK G 100 (("Steps." : Str) ++ fnN (clsB 8) 0) (fnA (clsB 8) 0) (fnB (clsB 8) 0) (fnS (clsB 8) 0) := fnk_of (by rw [hG]; kernel_rfl) (by rw [hG]; kernel_rfl)
theorem me107 (P : Params) (G : Gl) (hG : G.K = K0 P) : FnK G 107 (("Steps." : Str) ++ fnN (clsB 8) 1) (fnA (clsB 8) 1) (fnB (clsB 8) 1) (fnS (clsB 8) 1) := fnk_of (by rw [hG]; kernel_rfl) (by rw [hG]; kernel_rfl)
theorem me128 (P : Params) (G : Gl) (hG : G.K = K0 P) : FnK G 128 (("Steps." : Str) ++ fnN (clsB 8) 4) (fnA (clsB 8) 4) (fnB (clsB 8) 4) (fnS (clsB 8) 4) := fnk_of (by rw [hG]; kernel_rfl) (by rw [hG]; kernel_rfl)
theorem me149 (P : Params) (G : Gl) (hG : G.K = K0 P) : FnK G 149 (("Steps." : Str) ++ fnN (clsB 8) 7) (fnA (clsB 8) 7) (fnB (clsB 8) 7) (fnS (clsB 8) 7) := fnk_of (by rw [hG]; kernel_rfl) (by rw [hG]; kernel_rfl)
theorem fnTab_ok (P : Params) (G : Gl) (hG : G.K = K0 P) : ∀ p ∈ fnTab, FnK G p.1 (fnN topB p.2) (fnA topB p.2) (fnB topB p.2) (fnS topB p.2) ∧ nsIn G.K mainGlobals (fnN topB p.2) = some (some (.ref p.1)) ∧ keepIn G.K (.ref p.1) = true := by
  intro p hp
  simp only [fnTab, List.mem_cons, List.mem_nil_iff, or_false] at hp
  rcases hp with rfl | rfl | rfl | rfl | rfl | rfl | rfl | rfl | rfl | rfl | rfl | rfl | rfl | rfl | rfl | rfl | rfl | rfl | rfl | rfl | rfl | rfl | rfl
  · exact fn86 P G hG
  · exact fn220 P G hG
  · exact fn225 P G hG
  · exact fn230 P G hG
  · exact fn237 P G hG
  · exact fn244 P G hG
  · exact fn251 P G hG
  · exact fn260 P G hG
  · exact fn265 P G hG
  · exact fn270 P G hG
  · exact fn275 P G hG
  · exact fn280 P G hG
  · exact fn287 P G hG
  · exact fn294 P G hG
  · exact fn299 P G hG
  · exact fn306 P G hG
  · exact fn311 P G hG
  · exact fn318 P G hG
  · exact fn323 P G hG
  · exact fn328 P G hG
  · exact fn335 P G hG
  · exact fn340 P G hG
  · exact fn347 P G hG
theorem metTab_ok (P : Params) (G : Gl) (hG : G.K = K0 P) : ∀ p ∈ metTab, FnK G p.1 (("Steps." : Str) ++ fnN (clsB 8) p.2) (fnA (clsB 8) p.2) (fnB (clsB 8) p.2) (fnS (clsB 8) p.2) := by
  intro p hp
  simp only [metTab, List.mem_cons, List.mem_nil_iff, or_false] at hp
  rcases hp with rfl | rfl | rfl | rfl
  · exact me100 P G hG
  · exact me107 P G hG
  · exact me128 P G hG
  · exact me149 P G hG
theorem blt_ok (P : Params) (G : Gl) (hG : G.K = K0 P) : ∀ x ∈ bltTab, nsIn G.K mainGlobals x = some none := by
  rw [hG]
  intro p hp
  simp only [bltTab, List.mem_cons, List.mem_nil_iff, or_false] at hp
  rcases hp with rfl | rfl | rfl | rfl | rfl | rfl | rfl | rfl | rfl | rfl | rfl
  all_goals kernel_rfl
theorem get_ok (P : Params) (G : Gl) (hG : G.K = K0 P) : ∀ x ∈ [("steps" : Str), "named", "empty"], GetF G.K 213 x ∧ SetF G.K 213 x := by
  rw [hG]
  intro p hp
  simp only [List.mem_cons, List.mem_nil_iff, or_false] at hp
  rcases hp with rfl | rfl | rfl
  all_goals exact ⟨⟨by kernel_rfl, by kernel_rfl, ⟨none, by kernel_rfl, by kernel_rfl⟩⟩, ⟨by kernel_rfl, by kernel_rfl, by kernel_rfl, by kernel_rfl⟩⟩
theorem strs_tab {g : PH} {a : Addr} {o : Obj} {l : List (Str × Tok)} (h : g a = some o) (ho : SeqO "tuple" o (l.map fun p => Value.str p.1 p.2)) : Dat g (.ref a) (.tup (l.map fun p => PV.str p.1)) := by
  refine .tup h ho ?_
  clear h ho
  induction l with
  | nil => exact .nil
  | cons p r ih => exact .cons (.str _ _) ih
noncomputable def tabOf (K : Frag) (a : Addr) : List (Str × Tok) := match K.lookup a with | some ⟨_, _, .seq xs _, _⟩ => xs.toList.filterMap (fun v => match v with | .str x t => some (x, t) | _ => none) | _ => []
theorem fx0 (P : Params) (G : Gl) (hG : G.K = K0 P) (hp : G.prog = prog0) (ok : G.Ok) : Fx G 76 where
  ok := ok
  fn := fnTab_ok P G hG
  blt := blt_ok P G hG
  figs := ⟨283, by rw [hG]; kernel_rfl⟩
  rules := ⟨.ref 79, by rw [hG]; kernel_rfl, by
    have := strs_tab (g := fun b => G.base.get? b) (a := 79) (l := tabOf (K0 P) 79) (o := { cls := .type "tuple", data := .seq ((tabOf (K0 P) 79).map fun p => Value.str p.1 p.2).toArray }) (ok.X _ _ (by rw [hG]; kernel_rfl)) ⟨rfl, rfl, rfl, 0, rfl⟩
    rw [show (tabOf (K0 P) 79).map (fun p => PV.str p.1) = rulesL.map PV.str by kernel_rfl] at this
    exact this⟩
  lrules := ⟨.ref 252, by rw [hG]; kernel_rfl, by
    have := strs_tab (g := fun b => G.base.get? b) (a := 252) (l := tabOf (K0 P) 252) (o := { cls := .type "tuple", data := .seq ((tabOf (K0 P) 252).map fun p => Value.str p.1 p.2).toArray }) (ok.X _ _ (by rw [hG]; kernel_rfl)) ⟨rfl, rfl, rfl, 0, rfl⟩
    rw [show (tabOf (K0 P) 252).map (fun p => PV.str p.1) = rulesL.map PV.str by kernel_rfl] at this
    exact this⟩
  lput := ⟨.ref 253, by rw [hG]; kernel_rfl, by
    have := strs_tab (g := fun b => G.base.get? b) (a := 253) (l := tabOf (K0 P) 253) (o := { cls := .type "tuple", data := .seq ((tabOf (K0 P) 253).map fun p => Value.str p.1 p.2).toArray }) (ok.X _ _ (by rw [hG]; kernel_rfl)) ⟨rfl, rfl, rfl, 0, rfl⟩
    rw [show (tabOf (K0 P) 253).map (fun p => PV.str p.1) = putL14.map PV.str by kernel_rfl] at this
    exact this⟩
  met := metTab_ok P G hG
  mname := by rw [hG]; exact ⟨by kernel_rfl, by kernel_rfl, by kernel_rfl, by kernel_rfl⟩
  msize := by rw [hG]; exact ⟨by kernel_rfl, by kernel_rfl, by kernel_rfl, by kernel_rfl⟩
  madd := by rw [hG]; exact ⟨by kernel_rfl, by kernel_rfl, by kernel_rfl, by kernel_rfl⟩
  get := get_ok P G hG
  make := by rw [hG]; exact ⟨by kernel_rfl, by kernel_rfl, by kernel_rfl, by kernel_rfl, by kernel_rfl⟩
  pfn := by rw [hG]; kernel_rfl
  pfx := pfx0 P G hG hp
end
section
open PySem PySem.W PyProof.Rows
set_option linter.unusedVariables false
set_option maxRecDepth 100000
set_option maxHeartbeats 8000000
theorem well_ints {P : Params} {h : Heap} : ∀ {vs : List Value} {ns : List Int}, WellAll P h vs ((ns.map PyData.int).map ofPy) → ∀ g : PH, DatAll g vs (ns.map PV.int)
  | [], [], _, g => .nil
  | [], _ :: _, h, g => nomatch h
  | _ :: _, [], h, g => nomatch h
  | v :: vs, n :: ns, .cons h r, g => by
    have h' : Well P _ v (.int n) := h
    cases h'
    exact .cons (.int _ _) (well_ints r g)
theorem ofPys_map : ∀ l : List PyData, ofPys l = l.map ofPy
  | [] => rfl
  | d :: r => by rw [ofPys, ofPys_map r]; rfl
theorem law_close (pl : Plain) {w : World} {s₁ : Shared} {loose : List Str} {mean : ExcName → Option Value} {mg mb : Str → Option Value} {ns : List Int} {a fa : Addr} {cd : Value} {h₁ : Heap} {tk : Nat} {Q : Flow → Shared → Prop} {E : Value → Shared → Prop}
    (KX : (K0 w.params).In s₁.heap) (T : Top view loose mean mg mb s₁.heap) (hg : s₁.gens = #[]) (W : Well w.params s₁.heap (.ref a) (ofPy (.list (ns.map .int)))) (hn : ¬ (63 : Int) < (ns.length : Int))
    (F : Fr s₁.heap s₁.heap.objs.size h₁ fun x => List.lookup x [(("script" : Str), Value.ref a)].reverse)
    (hQ : ∀ s', (∀ b o, s₁.heap.get? b = some o → s'.heap.get? b = some o) → s'.os = s₁.os → s'.gens = #[] → Q (.ret (.bool true)) s') :
    wpAny (model prog0 w) (callerA.deeper (PyProof.Rows.envOf ("law" : Str) (fnS topB 35) s₁.heap.objs.size fa cd)) (execs (fnB topB 35) (PyProof.Rows.envOf ("law" : Str) (fnS topB 35) s₁.heap.objs.size fa cd)) Q E ⟨h₁, s₁.gens, s₁.drawn, tk, s₁.os⟩ := by
  let G : Gl := ⟨prog0, w, s₁.heap, K0 w.params, view, loose, mean, mg, mb, s₁.os⟩
  have fx := fx0 w.params G rfl rfl ⟨KX, T⟩
  have hk : (kLaw (callerA.deeper (PyProof.Rows.envOf ("law" : Str) (fnS topB 35) s₁.heap.objs.size fa cd)) s₁.heap.objs.size fa cd).Ok := ⟨rfl, rfl, rfl, rfl, rfl⟩
  have hF : (kLaw (callerA.deeper (PyProof.Rows.envOf ("law" : Str) (fnS topB 35) s₁.heap.objs.size fa cd)) s₁.heap.objs.size fa cd).Fun := ⟨⟨_, rfl⟩, rfl⟩
  have room : Room (callerA.deeper (PyProof.Rows.envOf ("law" : Str) (fnS topB 35) s₁.heap.objs.size fa cd)) 620 := ⟨by show (1 + claimMargin) + 1 + 620 < 1000; decide, by show 4 + 3 + 12 * 620 < 9900; decide⟩
  have nofresh : s₁.heap.get? s₁.heap.objs.size = none := by
    cases q : s₁.heap.get? s₁.heap.objs.size with
    | none => rfl
    | some o => exact absurd (Heap.lt_size q) (Nat.lt_irrefl _)
  have hd : Dat (fun b => s₁.heap.get? b) (.ref a) (.lst (ns.map PV.int)) := by
    have W' : Well w.params s₁.heap (.ref a) (.list (ofPys (ns.map .int))) := W
    rw [ofPys_map] at W'
    cases W' with
    | @list _ vs _ h1 h2 => exact .lst h1 ⟨rfl, rfl, rfl, 0, rfl⟩ (well_ints h2 _)
  refine ax_law fx pl hk hF room (ns := ns) (by omega) (fun b => s₁.heap.get? b) (fun _ => False) _ (fun b => s₁.heap.get? b) Q E ⟨fun b o e => e, nofresh, Nat.le_refl _, fun _ f => f.elim, fun e he => ?_, fun b hb => ?_⟩ ⟨fun b o e => e, fun b o e => F.keep b o e, fun b o e => .inl ⟨fun hb => ?_, F.keep b o e⟩, fun _ f => f.elim, nofresh, ⟨_, F.ns, fun x D e => ?_⟩, (fun p hp => by cases hp), List.nodup_nil, hg, rfl⟩ (fun _ _ _ f => f.elim) (fun σ' D v s' g' p l S' i => ?_) (fun _ _ _ f => f.elim)
  · rcases List.mem_singleton.mp he with rfl
    exact ⟨by show ScopeKind.function ≠ _; decide, _, rfl, nofresh, .inl rfl⟩
  · have hb : b ∈ [s₁.heap.objs.size] := hb
    exact .inl (List.mem_singleton.mp hb)
  · have hb : b ∈ [s₁.heap.objs.size] := hb
    rw [List.mem_singleton.mp hb, nofresh] at e; cases e
  · rw [List.lookup_cons] at e
    cases q : x == ("script" : Str) with
    | true =>
      rw [q] at e; cases e
      refine ⟨.ref a, ?_, hd⟩
      rw [eq_of_beq q]; rfl
    | false => rw [q] at e; cases e
  · subst p
    cases i
    exact hQ s' S'.stays S'.os S'.gens
end
section
open PySem PySem.W PyProof.Rows
set_option maxRecDepth 100000
set_option maxHeartbeats 8000000
local macro_rules | `(tactic| k_qdec) => `(tactic| kernel_rfl)
theorem TT : PySem.Challenge.rw_nz0141_01.Holds := hd (by
  k_go0
  all_goals try k_fold
  refine law_close plain (by assumption) (by assumption) (by assumption) (by assumption) (by assumption) (by assumption) fun s' h1 h2 h3 => ?_
  refine ⟨.inl ⟨.bool true, .bool true, [], rfl, fun _ => rfl, .bool true, ?_, fun h => ?_⟩, h1, h2, h3⟩
  · wrow_post
  · exact ⟨List.nodup_nil, fun a h => by cases h⟩)
end
end Mine
theorem PySem.Challenge.cw_nz0141_01_holds : PySem.Challenge.rw_nz0141_01.Holds := by
  exact Mine.TT
