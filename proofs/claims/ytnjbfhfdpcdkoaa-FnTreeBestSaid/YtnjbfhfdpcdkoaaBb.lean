import Derived.Test.YtnjbfhfdpcdkoaaBa
import Derived.Test.YtnjbfhfdpcdkoaaMb
import Derived.Test.YtnjbfhfdpcdkoaaRows
import Derived.Lib.SmallJoins
import Derived.WalkKit
import Derived.OpenShut
import Derived.ShutString
import Derived.ChangeOld
set_option linter.unusedVariables false
set_option linter.unusedSimpArgs false
set_option maxRecDepth 4000
namespace Go.AM
open Go.Proofs

/-- Rows of one number each. -/
def R (L : List Int) : List (List Int) := L.map fun x => [x]
theorem R_length (L : List Int) : (R L).length = L.length := by simp [R]
theorem R_rd {L : List Int} {j : Nat} (h : j < L.length) : rd (R L) j 0 = L.getD j 0 := by
  simp [rd, R, List.getD_eq_getElem?_getD, List.getElem?_map, List.getElem?_eq_getElem h]
theorem R_set {L : List Int} {j : Nat} (v : Int) (h : j < L.length) : (R L).set j (((R L).getD j []).set 0 v) = R (L.set j v) := by
  have : (R L).getD j [] = [L[j]] := by simp [R, List.getD_eq_getElem?_getD, List.getElem?_map, List.getElem?_eq_getElem h]
  rw [this]; simp [R, List.map_set]
theorem R_append (L M : List Int) : R (L ++ M) = R L ++ R M := by simp [R]
theorem R_wf (L : List Int) : Wf i1 (R L) := by intro r hr; simp [R] at hr; obtain ⟨x, _, rfl⟩ := hr; rfl
abbrev dL (L : List Int) : DV := .one (.sl 3 i1 (R L))

theorem c_188 (a : Int) : OK Try.prog 188 [dI a] (dB false) := by
  refine W.fn 6 [.tmp 2] hTT Try.func188 rfl rfl rfl rfl rfl rfl rfl rfl ?_
  repeat' (first
   | ((with_reducible apply v_mv); (iterate 3 (· exact rfl)))
   | ((with_reducible apply v_as); (iterate 3 (· exact rfl)))
   | ((with_reducible apply v_fa); (iterate 6 (· exact rfl)))
   | ((with_reducible apply v_far); (iterate 6 (· exact rfl)))
   | ((with_reducible apply v_ia); (iterate 8 (· exact rfl)); (iterate 2 (· first | omega | (simp only [lens, List.length_map, List.length_range]; omega))))
   | ((with_reducible apply v_lr_i64); (iterate 7 (· exact rfl)); (· first | omega | (simp only [lens, List.length_map, List.length_range]; omega)))
   | ((with_reducible apply v_ld); (iterate 6 (· exact rfl)))
   | ((with_reducible apply v_st); (iterate 7 (· exact rfl)))
   | ((with_reducible apply v_sr); (iterate 7 (· exact rfl)); (· first | omega | (simp only [lens, List.length_map, List.length_range]; omega)))
   | ((with_reducible apply v_srN); (iterate 7 (· exact rfl)); (· repeat' (first | exact RowC.nil | apply RowC.i | apply RowC.b)); (· first | omega | (simp only [lens, List.length_map, List.length_range]; omega)))
   | ((with_reducible apply v_tgt); (iterate 9 (· exact rfl)); (iterate 3 (· first | omega | (simp only [lens, List.length_map, List.length_range]; omega))); (· exact rfl))
   | ((with_reducible apply v_mks); (iterate 10 (· exact rfl)); (iterate 3 (· first | omega | (simp only [lens, List.length_map, List.length_range]; omega))))
   | ((with_reducible apply v_ext); (iterate 5 (· exact rfl)))
   | ((with_reducible apply v_cnv); (iterate 6 (· exact rfl)))
   | ((with_reducible apply v_min); (iterate 4 (· exact rfl)))
   | ((with_reducible apply v_max); (iterate 4 (· exact rfl)))
   | ((with_reducible apply v_ncr); (iterate 4 (· exact rfl)))
   | ((with_reducible apply v_ncp); (iterate 3 (· exact rfl)))
   | ((with_reducible apply v_lr_b); (iterate 7 (· exact rfl)); (· first | omega | (simp only [lens, List.length_map, List.length_range]; omega)))
   | ((with_reducible apply v_lr_u8); (iterate 7 (· exact rfl)); (· first | omega | (simp only [lens, List.length_map, List.length_range]; omega)))
   | ((with_reducible apply v_mkf); (iterate 3 (· exact rfl)))
   | ((with_reducible apply v_lss); (iterate 4 (· exact rfl)))
   | ((with_reducible apply v_leq); (iterate 4 (· exact rfl)))
   | ((with_reducible apply v_gtr); (iterate 4 (· exact rfl)))
   | ((with_reducible apply v_geq); (iterate 4 (· exact rfl)))
   | ((with_reducible apply v_eql); (iterate 4 (· exact rfl)))
   | ((with_reducible apply v_neq); (iterate 4 (· exact rfl)))
   | ((with_reducible apply v_add); (iterate 4 (· exact rfl)); (· first | omega | (simp only [lens, List.length_map, List.length_range]; omega)))
   | ((with_reducible apply v_sub); (iterate 4 (· exact rfl)); (· first | omega | (simp only [lens, List.length_map, List.length_range]; omega)))
   | ((with_reducible apply v_pkT); (iterate 4 (· exact rfl)))
   | ((with_reducible apply v_pkF); (iterate 4 (· exact rfl)))
   | ((with_reducible apply v_not); (iterate 3 (· exact rfl)))
   | ((with_reducible apply v_len); (iterate 5 (· exact rfl)))
   | ((with_reducible apply v_lenn); (iterate 4 (· exact rfl)))
   | ((with_reducible apply v_lit); (iterate 9 (· exact rfl)); (· repeat' (first | exact PartsC.nil | ((apply PartsC.cons); (· exact rfl)) | exact RowC.nil | apply RowC.i | apply RowC.b)))
   | ((with_reducible apply v_ap); (iterate 11 (· exact rfl)); (· first | omega | (simp only [lens, List.length_map, List.length_range]; omega)))
   | ((with_reducible apply v_ap0); (iterate 10 (· exact rfl)); (· first | omega | (simp only [lens, List.length_map, List.length_range]; omega)))
   | ((with_reducible apply v_alc); (iterate 5 (· exact rfl)))
   | ((with_reducible apply v_box); (iterate 4 (· exact rfl)))
   | ((with_reducible apply v_ldN); (iterate 7 (· exact rfl)))
   | ((with_reducible apply v_lrN); (iterate 8 (· exact rfl)); (· first | omega | (simp only [lens, List.length_map, List.length_range]; omega)))
   | ((with_reducible apply v_fld); (iterate 5 (· exact rfl)); (· kernel_rfl))
   | ((with_reducible apply v_bld); (iterate 6 (· exact rfl)))
   | ((with_reducible apply v_no); (iterate 2 (· exact rfl)))
   | ((with_reducible apply v_no'); (· exact rfl))
   | ((with_reducible apply v_ift); (iterate 2 (· exact rfl)); (· infer_instance))
   | ((with_reducible apply v_iff); (iterate 2 (· exact rfl)); (· infer_instance))
   | ((with_reducible apply v_pif); (· exact rfl); (· infer_instance))
   | (with_reducible apply vo_nil0)
   | ((with_reducible apply vo_nil); (· kernel_rfl))
   | (with_reducible apply w_rs)
   | ((with_reducible apply w_ds); (rotate_left); (iterate 2 (· kernel_rfl)))
   | (with_reducible apply w_r)
   | ((with_reducible apply w_d); (rotate_left); (iterate 2 (· kernel_rfl)))
   | (with_reducible apply w_sks)
   | (with_reducible apply W.skp)
   | (with_reducible apply W.ext)
   | (with_reducible apply W.rt)
   | (with_reducible apply w_blk)
   | ((with_reducible apply W.cT); (· exact rfl))
   | ((with_reducible apply W.cF); (· exact rfl))
   | ((with_reducible apply W.cn); (· exact rfl); (· infer_instance))
   | (with_reducible apply W.sq)
   | (with_reducible apply q_tn)
   | (with_reducible apply q_te)
   | (with_reducible apply q_tr)
   | (with_reducible apply q_bn)
   | (with_reducible apply q_br)
   | ((with_reducible apply q_be); (· exact rfl))
   | ((with_reducible apply q_bx); (· exact rfl))
   | (with_reducible apply q_er)
   | (with_reducible apply q_en)
   | (with_reducible apply q_her)
   | (with_reducible apply q_hen)
   | (intro _))
  exact e_bool rfl rfl (by simp)
def cmpM (a b : Int) : Int := if a < b then -1 else if b < a then 1 else 0
theorem c_100 (a b : Int) : OK Try.prog 100 [dI a, dI b] (dI (cmpM a b)) := by
  refine W.fn 20 [.tmp 4] hTT Try.func100 rfl rfl rfl rfl rfl rfl rfl rfl ?_
  repeat' (first
   | ((with_reducible apply v_call 4000000 (c_188 _)); (iterate 3 (· exact rfl)); (· repeat' (first | exact DVsOf.nil | apply DVsOf.cons | apply DVof.one | apply DVof.agg | exact DCof.c | exact DCof.nil | exact DCof.nils | ((apply DCof.r); (iterate 2 (· exact rfl))) | ((apply DCof.rs); (iterate 2 (· exact rfl))) | ((apply DCof.mu); (· exact rfl)) | exact DCsOf.nil | apply DCsOf.cons | ((apply DVof_mp); (· exact rfl)) | ((apply DVof_ptr); (iterate 2 (· exact rfl))) | apply DVof.fn | exact DPsOf.nil | ((apply DPsOf_cons); (iterate 2 (· exact rfl))) | exact rfl)); (iterate 4 (· exact rfl)))
   | ((with_reducible apply v_mv); (iterate 3 (· exact rfl)))
   | ((with_reducible apply v_as); (iterate 3 (· exact rfl)))
   | ((with_reducible apply v_fa); (iterate 6 (· exact rfl)))
   | ((with_reducible apply v_far); (iterate 6 (· exact rfl)))
   | ((with_reducible apply v_ia); (iterate 8 (· exact rfl)); (iterate 2 (· first | omega | (simp only [lens, List.length_map, List.length_range]; omega))))
   | ((with_reducible apply v_lr_i64); (iterate 7 (· exact rfl)); (· first | omega | (simp only [lens, List.length_map, List.length_range]; omega)))
   | ((with_reducible apply v_ld); (iterate 6 (· exact rfl)))
   | ((with_reducible apply v_st); (iterate 7 (· exact rfl)))
   | ((with_reducible apply v_sr); (iterate 7 (· exact rfl)); (· first | omega | (simp only [lens, List.length_map, List.length_range]; omega)))
   | ((with_reducible apply v_srN); (iterate 7 (· exact rfl)); (· repeat' (first | exact RowC.nil | apply RowC.i | apply RowC.b)); (· first | omega | (simp only [lens, List.length_map, List.length_range]; omega)))
   | ((with_reducible apply v_tgt); (iterate 9 (· exact rfl)); (iterate 3 (· first | omega | (simp only [lens, List.length_map, List.length_range]; omega))); (· exact rfl))
   | ((with_reducible apply v_mks); (iterate 10 (· exact rfl)); (iterate 3 (· first | omega | (simp only [lens, List.length_map, List.length_range]; omega))))
   | ((with_reducible apply v_ext); (iterate 5 (· exact rfl)))
   | ((with_reducible apply v_cnv); (iterate 6 (· exact rfl)))
   | ((with_reducible apply v_min); (iterate 4 (· exact rfl)))
   | ((with_reducible apply v_max); (iterate 4 (· exact rfl)))
   | ((with_reducible apply v_ncr); (iterate 4 (· exact rfl)))
   | ((with_reducible apply v_ncp); (iterate 3 (· exact rfl)))
   | ((with_reducible apply v_lr_b); (iterate 7 (· exact rfl)); (· first | omega | (simp only [lens, List.length_map, List.length_range]; omega)))
   | ((with_reducible apply v_lr_u8); (iterate 7 (· exact rfl)); (· first | omega | (simp only [lens, List.length_map, List.length_range]; omega)))
   | ((with_reducible apply v_mkf); (iterate 3 (· exact rfl)))
   | ((with_reducible apply v_lss); (iterate 4 (· exact rfl)))
   | ((with_reducible apply v_leq); (iterate 4 (· exact rfl)))
   | ((with_reducible apply v_gtr); (iterate 4 (· exact rfl)))
   | ((with_reducible apply v_geq); (iterate 4 (· exact rfl)))
   | ((with_reducible apply v_eql); (iterate 4 (· exact rfl)))
   | ((with_reducible apply v_neq); (iterate 4 (· exact rfl)))
   | ((with_reducible apply v_add); (iterate 4 (· exact rfl)); (· first | omega | (simp only [lens, List.length_map, List.length_range]; omega)))
   | ((with_reducible apply v_sub); (iterate 4 (· exact rfl)); (· first | omega | (simp only [lens, List.length_map, List.length_range]; omega)))
   | ((with_reducible apply v_pkT); (iterate 4 (· exact rfl)))
   | ((with_reducible apply v_pkF); (iterate 4 (· exact rfl)))
   | ((with_reducible apply v_not); (iterate 3 (· exact rfl)))
   | ((with_reducible apply v_len); (iterate 5 (· exact rfl)))
   | ((with_reducible apply v_lenn); (iterate 4 (· exact rfl)))
   | ((with_reducible apply v_lit); (iterate 9 (· exact rfl)); (· repeat' (first | exact PartsC.nil | ((apply PartsC.cons); (· exact rfl)) | exact RowC.nil | apply RowC.i | apply RowC.b)))
   | ((with_reducible apply v_ap); (iterate 11 (· exact rfl)); (· first | omega | (simp only [lens, List.length_map, List.length_range]; omega)))
   | ((with_reducible apply v_ap0); (iterate 10 (· exact rfl)); (· first | omega | (simp only [lens, List.length_map, List.length_range]; omega)))
   | ((with_reducible apply v_alc); (iterate 5 (· exact rfl)))
   | ((with_reducible apply v_box); (iterate 4 (· exact rfl)))
   | ((with_reducible apply v_ldN); (iterate 7 (· exact rfl)))
   | ((with_reducible apply v_lrN); (iterate 8 (· exact rfl)); (· first | omega | (simp only [lens, List.length_map, List.length_range]; omega)))
   | ((with_reducible apply v_fld); (iterate 5 (· exact rfl)); (· kernel_rfl))
   | ((with_reducible apply v_bld); (iterate 6 (· exact rfl)))
   | ((with_reducible apply v_no); (iterate 2 (· exact rfl)))
   | ((with_reducible apply v_no'); (· exact rfl))
   | ((with_reducible apply v_ift); (iterate 2 (· exact rfl)); (· infer_instance))
   | ((with_reducible apply v_iff); (iterate 2 (· exact rfl)); (· infer_instance))
   | ((with_reducible apply v_pif); (· exact rfl); (· infer_instance))
   | (with_reducible apply vo_nil0)
   | ((with_reducible apply vo_nil); (· kernel_rfl))
   | (with_reducible apply w_rs)
   | ((with_reducible apply w_ds); (rotate_left); (iterate 2 (· kernel_rfl)))
   | (with_reducible apply w_r)
   | ((with_reducible apply w_d); (rotate_left); (iterate 2 (· kernel_rfl)))
   | (with_reducible apply w_sks)
   | (with_reducible apply W.skp)
   | (with_reducible apply W.ext)
   | (with_reducible apply W.rt)
   | (with_reducible apply w_blk)
   | ((with_reducible apply W.cT); (· exact rfl))
   | ((with_reducible apply W.cF); (· exact rfl))
   | ((with_reducible apply W.cn); (· exact rfl); (· infer_instance))
   | (with_reducible apply W.sq)
   | (with_reducible apply q_tn)
   | (with_reducible apply q_te)
   | (with_reducible apply q_tr)
   | (with_reducible apply q_bn)
   | (with_reducible apply q_br)
   | ((with_reducible apply q_be); (· exact rfl))
   | ((with_reducible apply q_bx); (· exact rfl))
   | (with_reducible apply q_er)
   | (with_reducible apply q_en)
   | (with_reducible apply q_her)
   | (with_reducible apply q_hen)
   | (intro _))
  · exact e_int rfl rfl (by unfold cmpM; rw [if_pos (by assumption)])
  · exact e_int rfl rfl (by unfold cmpM; rw [if_neg (by omega), if_pos (by omega)])
  · exact e_int rfl rfl (by unfold cmpM; rw [if_neg (by omega), if_neg (by omega)])
theorem c_99 (i k n : Int) (arcs : List (List Int)) (hi : 0 ≤ i ∧ i < arcs.length) (hk : 0 ≤ k ∧ k < arcs.length) : OK Try.prog 99 [dI i, dI k, .ptr [cI n, .sl 54 i5 arcs]] (dI (cmpM (rd arcs i.toNat 2) (rd arcs k.toNat 2))) := by
  refine W.fn 19 [.tmp 5] hTT Try.func99 rfl rfl rfl rfl rfl rfl rfl rfl ?_
  repeat' (first
   | ((with_reducible apply v_call 4000000 (c_100 _ _)); (iterate 3 (· exact rfl)); (· repeat' (first | exact DVsOf.nil | apply DVsOf.cons | apply DVof.one | apply DVof.agg | exact DCof.c | exact DCof.nil | exact DCof.nils | ((apply DCof.r); (iterate 2 (· exact rfl))) | ((apply DCof.rs); (iterate 2 (· exact rfl))) | ((apply DCof.mu); (· exact rfl)) | exact DCsOf.nil | apply DCsOf.cons | ((apply DVof_mp); (· exact rfl)) | ((apply DVof_ptr); (iterate 2 (· exact rfl))) | apply DVof.fn | exact DPsOf.nil | ((apply DPsOf_cons); (iterate 2 (· exact rfl))) | exact rfl)); (iterate 4 (· exact rfl)))
   | ((with_reducible apply v_mv); (iterate 3 (· exact rfl)))
   | ((with_reducible apply v_as); (iterate 3 (· exact rfl)))
   | ((with_reducible apply v_fa); (iterate 6 (· exact rfl)))
   | ((with_reducible apply v_far); (iterate 6 (· exact rfl)))
   | ((with_reducible apply v_ia); (iterate 8 (· exact rfl)); (iterate 2 (· first | omega | (simp only [lens, List.length_map, List.length_range]; omega))))
   | ((with_reducible apply v_lr_i64); (iterate 7 (· exact rfl)); (· first | omega | (simp only [lens, List.length_map, List.length_range]; omega)))
   | ((with_reducible apply v_ld); (iterate 6 (· exact rfl)))
   | ((with_reducible apply v_st); (iterate 7 (· exact rfl)))
   | ((with_reducible apply v_sr); (iterate 7 (· exact rfl)); (· first | omega | (simp only [lens, List.length_map, List.length_range]; omega)))
   | ((with_reducible apply v_srN); (iterate 7 (· exact rfl)); (· repeat' (first | exact RowC.nil | apply RowC.i | apply RowC.b)); (· first | omega | (simp only [lens, List.length_map, List.length_range]; omega)))
   | ((with_reducible apply v_tgt); (iterate 9 (· exact rfl)); (iterate 3 (· first | omega | (simp only [lens, List.length_map, List.length_range]; omega))); (· exact rfl))
   | ((with_reducible apply v_mks); (iterate 10 (· exact rfl)); (iterate 3 (· first | omega | (simp only [lens, List.length_map, List.length_range]; omega))))
   | ((with_reducible apply v_ext); (iterate 5 (· exact rfl)))
   | ((with_reducible apply v_cnv); (iterate 6 (· exact rfl)))
   | ((with_reducible apply v_min); (iterate 4 (· exact rfl)))
   | ((with_reducible apply v_max); (iterate 4 (· exact rfl)))
   | ((with_reducible apply v_ncr); (iterate 4 (· exact rfl)))
   | ((with_reducible apply v_ncp); (iterate 3 (· exact rfl)))
   | ((with_reducible apply v_lr_b); (iterate 7 (· exact rfl)); (· first | omega | (simp only [lens, List.length_map, List.length_range]; omega)))
   | ((with_reducible apply v_lr_u8); (iterate 7 (· exact rfl)); (· first | omega | (simp only [lens, List.length_map, List.length_range]; omega)))
   | ((with_reducible apply v_mkf); (iterate 3 (· exact rfl)))
   | ((with_reducible apply v_lss); (iterate 4 (· exact rfl)))
   | ((with_reducible apply v_leq); (iterate 4 (· exact rfl)))
   | ((with_reducible apply v_gtr); (iterate 4 (· exact rfl)))
   | ((with_reducible apply v_geq); (iterate 4 (· exact rfl)))
   | ((with_reducible apply v_eql); (iterate 4 (· exact rfl)))
   | ((with_reducible apply v_neq); (iterate 4 (· exact rfl)))
   | ((with_reducible apply v_add); (iterate 4 (· exact rfl)); (· first | omega | (simp only [lens, List.length_map, List.length_range]; omega)))
   | ((with_reducible apply v_sub); (iterate 4 (· exact rfl)); (· first | omega | (simp only [lens, List.length_map, List.length_range]; omega)))
   | ((with_reducible apply v_pkT); (iterate 4 (· exact rfl)))
   | ((with_reducible apply v_pkF); (iterate 4 (· exact rfl)))
   | ((with_reducible apply v_not); (iterate 3 (· exact rfl)))
   | ((with_reducible apply v_len); (iterate 5 (· exact rfl)))
   | ((with_reducible apply v_lenn); (iterate 4 (· exact rfl)))
   | ((with_reducible apply v_lit); (iterate 9 (· exact rfl)); (· repeat' (first | exact PartsC.nil | ((apply PartsC.cons); (· exact rfl)) | exact RowC.nil | apply RowC.i | apply RowC.b)))
   | ((with_reducible apply v_ap); (iterate 11 (· exact rfl)); (· first | omega | (simp only [lens, List.length_map, List.length_range]; omega)))
   | ((with_reducible apply v_ap0); (iterate 10 (· exact rfl)); (· first | omega | (simp only [lens, List.length_map, List.length_range]; omega)))
   | ((with_reducible apply v_alc); (iterate 5 (· exact rfl)))
   | ((with_reducible apply v_box); (iterate 4 (· exact rfl)))
   | ((with_reducible apply v_ldN); (iterate 7 (· exact rfl)))
   | ((with_reducible apply v_lrN); (iterate 8 (· exact rfl)); (· first | omega | (simp only [lens, List.length_map, List.length_range]; omega)))
   | ((with_reducible apply v_fld); (iterate 5 (· exact rfl)); (· kernel_rfl))
   | ((with_reducible apply v_bld); (iterate 6 (· exact rfl)))
   | ((with_reducible apply v_no); (iterate 2 (· exact rfl)))
   | ((with_reducible apply v_no'); (· exact rfl))
   | ((with_reducible apply v_ift); (iterate 2 (· exact rfl)); (· infer_instance))
   | ((with_reducible apply v_iff); (iterate 2 (· exact rfl)); (· infer_instance))
   | ((with_reducible apply v_pif); (· exact rfl); (· infer_instance))
   | (with_reducible apply vo_nil0)
   | ((with_reducible apply vo_nil); (· kernel_rfl))
   | (with_reducible apply w_rs)
   | ((with_reducible apply w_ds); (rotate_left); (iterate 2 (· kernel_rfl)))
   | (with_reducible apply w_r)
   | ((with_reducible apply w_d); (rotate_left); (iterate 2 (· kernel_rfl)))
   | (with_reducible apply w_sks)
   | (with_reducible apply W.skp)
   | (with_reducible apply W.ext)
   | (with_reducible apply W.rt)
   | (with_reducible apply w_blk)
   | ((with_reducible apply W.cT); (· exact rfl))
   | ((with_reducible apply W.cF); (· exact rfl))
   | ((with_reducible apply W.cn); (· exact rfl); (· infer_instance))
   | (with_reducible apply W.sq)
   | (with_reducible apply q_tn)
   | (with_reducible apply q_te)
   | (with_reducible apply q_tr)
   | (with_reducible apply q_bn)
   | (with_reducible apply q_br)
   | ((with_reducible apply q_be); (· exact rfl))
   | ((with_reducible apply q_bx); (· exact rfl))
   | (with_reducible apply q_er)
   | (with_reducible apply q_en)
   | (with_reducible apply q_her)
   | (with_reducible apply q_hen)
   | (intro _))
  exact e_int rfl rfl rfl

/-! insertion sort -/
def gt (L : List Int) (j : Nat) : Int := L.getD j 0
def swp (L : List Int) (j : Nat) : List Int := (L.set (j + 1) (gt L j)).set j (gt L (j + 1))
def bub (key : Int → Int) : Nat → List Int → List Int
  | 0, L => L
  | j + 1, L => if key (gt L (j + 1)) < key (gt L j) then bub key j (swp L j) else L
def srt (key : Int → Int) (L : List Int) : Nat → List Int
  | 0 => L
  | i + 1 => bub key i (srt key L i)
theorem swp_length (L : List Int) (j : Nat) : (swp L j).length = L.length := by simp [swp]
theorem bub_length (key : Int → Int) : ∀ (j : Nat) (L : List Int), (bub key j L).length = L.length
  | 0, L => rfl
  | j + 1, L => by
    rw [bub]; split
    · rw [bub_length key j, swp_length]
    · rfl
theorem srt_length (key : Int → Int) (L : List Int) : ∀ i, (srt key L i).length = L.length
  | 0 => rfl
  | i + 1 => by rw [srt, bub_length, srt_length key L i]
theorem gt_mem {L : List Int} {j : Nat} (h : j < L.length) : gt L j ∈ L := by
  unfold gt; rw [List.getD_eq_getElem?_getD, List.getElem?_eq_getElem h]; exact List.getElem_mem h
theorem swp_mem {L : List Int} {j : Nat} (h : j + 1 < L.length) : ∀ x ∈ swp L j, x ∈ L := by
  intro x hx
  rcases List.mem_or_eq_of_mem_set hx with hx | rfl
  · rcases List.mem_or_eq_of_mem_set hx with hx | rfl
    · exact hx
    · exact gt_mem (by omega)
  · exact gt_mem h
theorem bub_mem (key : Int → Int) : ∀ (j : Nat) (L : List Int), j < L.length → ∀ x ∈ bub key j L, x ∈ L
  | 0, L, _, x, hx => hx
  | j + 1, L, h, x, hx => by
    rw [bub] at hx; split at hx
    · exact swp_mem h x (bub_mem key j _ (by rw [swp_length]; omega) x hx)
    · exact hx
theorem srt_mem (key : Int → Int) (L : List Int) : ∀ i, i ≤ L.length → ∀ x ∈ srt key L i, x ∈ L
  | 0, _, x, hx => hx
  | i + 1, h, x, hx => srt_mem key L i (by omega) x (bub_mem key i _ (by rw [srt_length]; omega) x hx)
abbrev keyA (arcs : List (List Int)) (x : Int) : Int := rd arcs x.toNat 2

theorem c_230 (L : List Int) (n : Int) (arcs : List (List Int)) (hl : L.length < 1000000) (h0 : 1 ≤ L.length) (hL : ∀ x ∈ L, 0 ≤ x ∧ x < arcs.length) :
    OK Try.prog 230 [.one (.mu 3 i1 (R L) (R (srt (keyA arcs) L L.length))), dI 0, dI (L.length : Int), .fn 99 [[cI n, .sl 54 i5 arcs]]] (.tup []) := by
  refine W.fn 53 [] hTT Try.func230 rfl rfl rfl rfl rfl rfl rfl rfl ?_
  repeat' (first
   | ((with_reducible apply v_mv); (iterate 3 (· exact rfl)))
   | ((with_reducible apply v_as); (iterate 3 (· exact rfl)))
   | ((with_reducible apply v_fa); (iterate 6 (· exact rfl)))
   | ((with_reducible apply v_far); (iterate 6 (· exact rfl)))
   | ((with_reducible apply v_ia); (iterate 8 (· exact rfl)); (iterate 2 (· first | omega | (simp only [lens, List.length_map, List.length_range]; omega))))
   | ((with_reducible apply v_lr_i64); (iterate 7 (· exact rfl)); (· first | omega | (simp only [lens, List.length_map, List.length_range]; omega)))
   | ((with_reducible apply v_ld); (iterate 6 (· exact rfl)))
   | ((with_reducible apply v_st); (iterate 7 (· exact rfl)))
   | ((with_reducible apply v_sr); (iterate 7 (· exact rfl)); (· first | omega | (simp only [lens, List.length_map, List.length_range]; omega)))
   | ((with_reducible apply v_srN); (iterate 7 (· exact rfl)); (· repeat' (first | exact RowC.nil | apply RowC.i | apply RowC.b)); (· first | omega | (simp only [lens, List.length_map, List.length_range]; omega)))
   | ((with_reducible apply v_tgt); (iterate 9 (· exact rfl)); (iterate 3 (· first | omega | (simp only [lens, List.length_map, List.length_range]; omega))); (· exact rfl))
   | ((with_reducible apply v_mks); (iterate 10 (· exact rfl)); (iterate 3 (· first | omega | (simp only [lens, List.length_map, List.length_range]; omega))))
   | ((with_reducible apply v_ext); (iterate 5 (· exact rfl)))
   | ((with_reducible apply v_cnv); (iterate 6 (· exact rfl)))
   | ((with_reducible apply v_min); (iterate 4 (· exact rfl)))
   | ((with_reducible apply v_max); (iterate 4 (· exact rfl)))
   | ((with_reducible apply v_ncr); (iterate 4 (· exact rfl)))
   | ((with_reducible apply v_ncp); (iterate 3 (· exact rfl)))
   | ((with_reducible apply v_lr_b); (iterate 7 (· exact rfl)); (· first | omega | (simp only [lens, List.length_map, List.length_range]; omega)))
   | ((with_reducible apply v_lr_u8); (iterate 7 (· exact rfl)); (· first | omega | (simp only [lens, List.length_map, List.length_range]; omega)))
   | ((with_reducible apply v_mkf); (iterate 3 (· exact rfl)))
   | ((with_reducible apply v_lss); (iterate 4 (· exact rfl)))
   | ((with_reducible apply v_leq); (iterate 4 (· exact rfl)))
   | ((with_reducible apply v_gtr); (iterate 4 (· exact rfl)))
   | ((with_reducible apply v_geq); (iterate 4 (· exact rfl)))
   | ((with_reducible apply v_eql); (iterate 4 (· exact rfl)))
   | ((with_reducible apply v_neq); (iterate 4 (· exact rfl)))
   | ((with_reducible apply v_add); (iterate 4 (· exact rfl)); (· first | omega | (simp only [lens, List.length_map, List.length_range]; omega)))
   | ((with_reducible apply v_sub); (iterate 4 (· exact rfl)); (· first | omega | (simp only [lens, List.length_map, List.length_range]; omega)))
   | ((with_reducible apply v_pkT); (iterate 4 (· exact rfl)))
   | ((with_reducible apply v_pkF); (iterate 4 (· exact rfl)))
   | ((with_reducible apply v_not); (iterate 3 (· exact rfl)))
   | ((with_reducible apply v_len); (iterate 5 (· exact rfl)))
   | ((with_reducible apply v_lenn); (iterate 4 (· exact rfl)))
   | ((with_reducible apply v_lit); (iterate 9 (· exact rfl)); (· repeat' (first | exact PartsC.nil | ((apply PartsC.cons); (· exact rfl)) | exact RowC.nil | apply RowC.i | apply RowC.b)))
   | ((with_reducible apply v_ap); (iterate 11 (· exact rfl)); (· first | omega | (simp only [lens, List.length_map, List.length_range]; omega)))
   | ((with_reducible apply v_ap0); (iterate 10 (· exact rfl)); (· first | omega | (simp only [lens, List.length_map, List.length_range]; omega)))
   | ((with_reducible apply v_alc); (iterate 5 (· exact rfl)))
   | ((with_reducible apply v_box); (iterate 4 (· exact rfl)))
   | ((with_reducible apply v_ldN); (iterate 7 (· exact rfl)))
   | ((with_reducible apply v_lrN); (iterate 8 (· exact rfl)); (· first | omega | (simp only [lens, List.length_map, List.length_range]; omega)))
   | ((with_reducible apply v_fld); (iterate 5 (· exact rfl)); (· kernel_rfl))
   | ((with_reducible apply v_bld); (iterate 6 (· exact rfl)))
   | ((with_reducible apply v_no); (iterate 2 (· exact rfl)))
   | ((with_reducible apply v_no'); (· exact rfl))
   | ((with_reducible apply v_ift); (iterate 2 (· exact rfl)); (· infer_instance))
   | ((with_reducible apply v_iff); (iterate 2 (· exact rfl)); (· infer_instance))
   | ((with_reducible apply v_pif); (· exact rfl); (· infer_instance))
   | (with_reducible apply vo_nil0)
   | ((with_reducible apply vo_nil); (· kernel_rfl))
   | (with_reducible apply w_rs)
   | ((with_reducible apply w_ds); (rotate_left); (iterate 2 (· kernel_rfl)))
   | (with_reducible apply w_r)
   | ((with_reducible apply w_d); (rotate_left); (iterate 2 (· kernel_rfl)))
   | (with_reducible apply w_sks)
   | (with_reducible apply W.skp)
   | (with_reducible apply W.ext)
   | (with_reducible apply W.rt)
   | (with_reducible apply w_blk)
   | ((with_reducible apply W.cT); (· exact rfl))
   | ((with_reducible apply W.cF); (· exact rfl))
   | ((with_reducible apply W.cn); (· exact rfl); (· infer_instance))
   | (with_reducible apply W.sq)
   | (with_reducible apply q_tn)
   | (with_reducible apply q_te)
   | (with_reducible apply q_tr)
   | (with_reducible apply q_bn)
   | (with_reducible apply q_br)
   | ((with_reducible apply q_be); (· exact rfl))
   | ((with_reducible apply q_bx); (· exact rfl))
   | (with_reducible apply q_er)
   | (with_reducible apply q_en)
   | (with_reducible apply q_her)
   | (with_reducible apply q_hen)
   | (intro _))
  refine W.lop (X := Nat) (fun i => mk 53 [(0, .one (.r 5000)), (1, .one (.c (.int .i64 0))), (2, .one (.c (.int .i64 (L.length : Int)))), (3, .fn 99 [.r 5302]), (8, .one (.c (.int .i64 i)))] [(5000, some (.vec 3 i1 (R (srt (keyA arcs) L i)))), (5302, some (.rbox [.c (.int .i64 n), .r 5301])), (5301, some (.ro i5 arcs))] []) (fun i => 1 ≤ i ∧ i ≤ L.length) (fun i => L.length - i) 1 ?_ ?_ ?_
  · exact (Wk.list [] (by repeat' (first | exact TW.nil | refine TW.cons rfl ?_)) (by repeat' (first | exact HW.nil | refine HW.cons rfl ?_)) rfl)
  · omega
  · rintro i ⟨h1, h2⟩
    have hlen := srt_length (keyA arcs) L i
    repeat' (first
     | ((with_reducible apply v_mv); (iterate 3 (· exact rfl)))
     | ((with_reducible apply v_as); (iterate 3 (· exact rfl)))
     | ((with_reducible apply v_fa); (iterate 6 (· exact rfl)))
     | ((with_reducible apply v_far); (iterate 6 (· exact rfl)))
     | ((with_reducible apply v_ia); (iterate 8 (· exact rfl)); (iterate 2 (· first | omega | (simp only [lens, List.length_map, List.length_range]; omega))))
     | ((with_reducible apply v_lr_i64); (iterate 7 (· exact rfl)); (· first | omega | (simp only [lens, List.length_map, List.length_range]; omega)))
     | ((with_reducible apply v_ld); (iterate 6 (· exact rfl)))
     | ((with_reducible apply v_st); (iterate 7 (· exact rfl)))
     | ((with_reducible apply v_sr); (iterate 7 (· exact rfl)); (· first | omega | (simp only [lens, List.length_map, List.length_range]; omega)))
     | ((with_reducible apply v_srN); (iterate 7 (· exact rfl)); (· repeat' (first | exact RowC.nil | apply RowC.i | apply RowC.b)); (· first | omega | (simp only [lens, List.length_map, List.length_range]; omega)))
     | ((with_reducible apply v_tgt); (iterate 9 (· exact rfl)); (iterate 3 (· first | omega | (simp only [lens, List.length_map, List.length_range]; omega))); (· exact rfl))
     | ((with_reducible apply v_mks); (iterate 10 (· exact rfl)); (iterate 3 (· first | omega | (simp only [lens, List.length_map, List.length_range]; omega))))
     | ((with_reducible apply v_ext); (iterate 5 (· exact rfl)))
     | ((with_reducible apply v_cnv); (iterate 6 (· exact rfl)))
     | ((with_reducible apply v_min); (iterate 4 (· exact rfl)))
     | ((with_reducible apply v_max); (iterate 4 (· exact rfl)))
     | ((with_reducible apply v_ncr); (iterate 4 (· exact rfl)))
     | ((with_reducible apply v_ncp); (iterate 3 (· exact rfl)))
     | ((with_reducible apply v_lr_b); (iterate 7 (· exact rfl)); (· first | omega | (simp only [lens, List.length_map, List.length_range]; omega)))
     | ((with_reducible apply v_lr_u8); (iterate 7 (· exact rfl)); (· first | omega | (simp only [lens, List.length_map, List.length_range]; omega)))
     | ((with_reducible apply v_mkf); (iterate 3 (· exact rfl)))
     | ((with_reducible apply v_lss); (iterate 4 (· exact rfl)))
     | ((with_reducible apply v_leq); (iterate 4 (· exact rfl)))
     | ((with_reducible apply v_gtr); (iterate 4 (· exact rfl)))
     | ((with_reducible apply v_geq); (iterate 4 (· exact rfl)))
     | ((with_reducible apply v_eql); (iterate 4 (· exact rfl)))
     | ((with_reducible apply v_neq); (iterate 4 (· exact rfl)))
     | ((with_reducible apply v_add); (iterate 4 (· exact rfl)); (· first | omega | (simp only [lens, List.length_map, List.length_range]; omega)))
     | ((with_reducible apply v_sub); (iterate 4 (· exact rfl)); (· first | omega | (simp only [lens, List.length_map, List.length_range]; omega)))
     | ((with_reducible apply v_pkT); (iterate 4 (· exact rfl)))
     | ((with_reducible apply v_pkF); (iterate 4 (· exact rfl)))
     | ((with_reducible apply v_not); (iterate 3 (· exact rfl)))
     | ((with_reducible apply v_len); (iterate 5 (· exact rfl)))
     | ((with_reducible apply v_lenn); (iterate 4 (· exact rfl)))
     | ((with_reducible apply v_lit); (iterate 9 (· exact rfl)); (· repeat' (first | exact PartsC.nil | ((apply PartsC.cons); (· exact rfl)) | exact RowC.nil | apply RowC.i | apply RowC.b)))
     | ((with_reducible apply v_ap); (iterate 11 (· exact rfl)); (· first | omega | (simp only [lens, List.length_map, List.length_range]; omega)))
     | ((with_reducible apply v_ap0); (iterate 10 (· exact rfl)); (· first | omega | (simp only [lens, List.length_map, List.length_range]; omega)))
     | ((with_reducible apply v_alc); (iterate 5 (· exact rfl)))
     | ((with_reducible apply v_box); (iterate 4 (· exact rfl)))
     | ((with_reducible apply v_ldN); (iterate 7 (· exact rfl)))
     | ((with_reducible apply v_lrN); (iterate 8 (· exact rfl)); (· first | omega | (simp only [lens, List.length_map, List.length_range]; omega)))
     | ((with_reducible apply v_fld); (iterate 5 (· exact rfl)); (· kernel_rfl))
     | ((with_reducible apply v_bld); (iterate 6 (· exact rfl)))
     | ((with_reducible apply v_no); (iterate 2 (· exact rfl)))
     | ((with_reducible apply v_no'); (· exact rfl))
     | ((with_reducible apply v_ift); (iterate 2 (· exact rfl)); (· infer_instance))
     | ((with_reducible apply v_iff); (iterate 2 (· exact rfl)); (· infer_instance))
     | ((with_reducible apply v_pif); (· exact rfl); (· infer_instance))
     | (with_reducible apply vo_nil0)
     | ((with_reducible apply vo_nil); (· kernel_rfl))
     | (with_reducible apply w_rs)
     | ((with_reducible apply w_ds); (rotate_left); (iterate 2 (· kernel_rfl)))
     | (with_reducible apply w_r)
     | ((with_reducible apply w_d); (rotate_left); (iterate 2 (· kernel_rfl)))
     | (with_reducible apply w_sks)
     | (with_reducible apply W.skp)
     | (with_reducible apply W.ext)
     | (with_reducible apply W.rt)
     | (with_reducible apply w_blk)
     | ((with_reducible apply W.cT); (· exact rfl))
     | ((with_reducible apply W.cF); (· exact rfl))
     | ((with_reducible apply W.cn); (· exact rfl); (· infer_instance))
     | (with_reducible apply W.sq)
     | (with_reducible apply q_tn)
     | (with_reducible apply q_te)
     | (with_reducible apply q_tr)
     | (with_reducible apply q_bn)
     | (with_reducible apply q_br)
     | ((with_reducible apply q_be); (· exact rfl))
     | ((with_reducible apply q_bx); (· exact rfl))
     | (with_reducible apply q_er)
     | (with_reducible apply q_en)
     | (with_reducible apply q_her)
     | (with_reducible apply q_hen)
     | (intro _))
    · rename_i hi
      refine W.lop (X := Nat × List Int) (fun x => mk 53 [(0, .one (.r 5000)), (1, .one (.c (.int .i64 0))), (2, .one (.c (.int .i64 (L.length : Int)))), (3, .fn 99 [.r 5302]), (8, .one (.c (.int .i64 i))), (9, .one (.c (.int .i64 x.1)))] [(5000, some (.vec 3 i1 (R x.2))), (5302, some (.rbox [.c (.int .i64 n), .r 5301])), (5301, some (.ro i5 arcs))] []) (fun x => x.1 ≤ i ∧ x.2.length = L.length ∧ (∀ y ∈ x.2, y ∈ L) ∧ bub (keyA arcs) x.1 x.2 = srt (keyA arcs) L (i + 1)) (fun x => x.1) (i, srt (keyA arcs) L i) ?_ ?_ ?_
      · exact (Wk.list [] (by repeat' (first | exact TW.nil | refine TW.cons rfl ?_)) (by repeat' (first | exact HW.nil | refine HW.cons rfl ?_)) rfl)
      · exact ⟨Nat.le_refl _, hlen, srt_mem _ L i h2, rfl⟩
      · rintro ⟨j, M⟩ ⟨g1, g2, g3, g4⟩
        simp only at g1 g2 g3 g4
        have hR : ∀ m, m < L.length → 0 ≤ rd (R M) m 0 ∧ rd (R M) m 0 < arcs.length := fun m hm => by rw [R_rd (by omega)]; exact hL _ (g3 _ (gt_mem (by omega)))
        have hRl := R_length M
        have next : ∀ M' : List Int, bub (keyA arcs) 0 M' = srt (keyA arcs) L (i + 1) → R M' = R (srt (keyA arcs) L (i + 1)) := fun M' h => by rw [← h]; rfl
        cases j with
        | zero =>
          repeat' (first
           | ((with_reducible apply v_mv); (iterate 3 (· exact rfl)))
           | ((with_reducible apply v_as); (iterate 3 (· exact rfl)))
           | ((with_reducible apply v_fa); (iterate 6 (· exact rfl)))
           | ((with_reducible apply v_far); (iterate 6 (· exact rfl)))
           | ((with_reducible apply v_ia); (iterate 8 (· exact rfl)); (iterate 2 (· first | omega | (simp only [lens, List.length_map, List.length_range]; omega))))
           | ((with_reducible apply v_lr_i64); (iterate 7 (· exact rfl)); (· first | omega | (simp only [lens, List.length_map, List.length_range]; omega)))
           | ((with_reducible apply v_ld); (iterate 6 (· exact rfl)))
           | ((with_reducible apply v_st); (iterate 7 (· exact rfl)))
           | ((with_reducible apply v_sr); (iterate 7 (· exact rfl)); (· first | omega | (simp only [lens, List.length_map, List.length_range]; omega)))
           | ((with_reducible apply v_srN); (iterate 7 (· exact rfl)); (· repeat' (first | exact RowC.nil | apply RowC.i | apply RowC.b)); (· first | omega | (simp only [lens, List.length_map, List.length_range]; omega)))
           | ((with_reducible apply v_tgt); (iterate 9 (· exact rfl)); (iterate 3 (· first | omega | (simp only [lens, List.length_map, List.length_range]; omega))); (· exact rfl))
           | ((with_reducible apply v_mks); (iterate 10 (· exact rfl)); (iterate 3 (· first | omega | (simp only [lens, List.length_map, List.length_range]; omega))))
           | ((with_reducible apply v_ext); (iterate 5 (· exact rfl)))
           | ((with_reducible apply v_cnv); (iterate 6 (· exact rfl)))
           | ((with_reducible apply v_min); (iterate 4 (· exact rfl)))
           | ((with_reducible apply v_max); (iterate 4 (· exact rfl)))
           | ((with_reducible apply v_ncr); (iterate 4 (· exact rfl)))
           | ((with_reducible apply v_ncp); (iterate 3 (· exact rfl)))
           | ((with_reducible apply v_lr_b); (iterate 7 (· exact rfl)); (· first | omega | (simp only [lens, List.length_map, List.length_range]; omega)))
           | ((with_reducible apply v_lr_u8); (iterate 7 (· exact rfl)); (· first | omega | (simp only [lens, List.length_map, List.length_range]; omega)))
           | ((with_reducible apply v_mkf); (iterate 3 (· exact rfl)))
           | ((with_reducible apply v_lss); (iterate 4 (· exact rfl)))
           | ((with_reducible apply v_leq); (iterate 4 (· exact rfl)))
           | ((with_reducible apply v_gtr); (iterate 4 (· exact rfl)))
           | ((with_reducible apply v_geq); (iterate 4 (· exact rfl)))
           | ((with_reducible apply v_eql); (iterate 4 (· exact rfl)))
           | ((with_reducible apply v_neq); (iterate 4 (· exact rfl)))
           | ((with_reducible apply v_add); (iterate 4 (· exact rfl)); (· first | omega | (simp only [lens, List.length_map, List.length_range]; omega)))
           | ((with_reducible apply v_sub); (iterate 4 (· exact rfl)); (· first | omega | (simp only [lens, List.length_map, List.length_range]; omega)))
           | ((with_reducible apply v_pkT); (iterate 4 (· exact rfl)))
           | ((with_reducible apply v_pkF); (iterate 4 (· exact rfl)))
           | ((with_reducible apply v_not); (iterate 3 (· exact rfl)))
           | ((with_reducible apply v_len); (iterate 5 (· exact rfl)))
           | ((with_reducible apply v_lenn); (iterate 4 (· exact rfl)))
           | ((with_reducible apply v_lit); (iterate 9 (· exact rfl)); (· repeat' (first | exact PartsC.nil | ((apply PartsC.cons); (· exact rfl)) | exact RowC.nil | apply RowC.i | apply RowC.b)))
           | ((with_reducible apply v_ap); (iterate 11 (· exact rfl)); (· first | omega | (simp only [lens, List.length_map, List.length_range]; omega)))
           | ((with_reducible apply v_ap0); (iterate 10 (· exact rfl)); (· first | omega | (simp only [lens, List.length_map, List.length_range]; omega)))
           | ((with_reducible apply v_alc); (iterate 5 (· exact rfl)))
           | ((with_reducible apply v_box); (iterate 4 (· exact rfl)))
           | ((with_reducible apply v_ldN); (iterate 7 (· exact rfl)))
           | ((with_reducible apply v_lrN); (iterate 8 (· exact rfl)); (· first | omega | (simp only [lens, List.length_map, List.length_range]; omega)))
           | ((with_reducible apply v_fld); (iterate 5 (· exact rfl)); (· kernel_rfl))
           | ((with_reducible apply v_bld); (iterate 6 (· exact rfl)))
           | ((with_reducible apply v_no); (iterate 2 (· exact rfl)))
           | ((with_reducible apply v_no'); (· exact rfl))
           | ((with_reducible apply v_ift); (iterate 2 (· exact rfl)); (· infer_instance))
           | ((with_reducible apply v_iff); (iterate 2 (· exact rfl)); (· infer_instance))
           | ((with_reducible apply v_pif); (· exact rfl); (· infer_instance))
           | (with_reducible apply vo_nil0)
           | ((with_reducible apply vo_nil); (· kernel_rfl))
           | (with_reducible apply w_rs)
           | ((with_reducible apply w_ds); (rotate_left); (iterate 2 (· kernel_rfl)))
           | (with_reducible apply w_r)
           | ((with_reducible apply w_d); (rotate_left); (iterate 2 (· kernel_rfl)))
           | (with_reducible apply w_sks)
           | (with_reducible apply W.skp)
           | (with_reducible apply W.ext)
           | (with_reducible apply W.rt)
           | (with_reducible apply w_blk)
           | ((with_reducible apply W.cT); (· exact rfl))
           | ((with_reducible apply W.cF); (· exact rfl))
           | ((with_reducible apply W.cn); (· exact rfl); (· infer_instance))
           | (with_reducible apply W.sq)
           | (with_reducible apply q_tn)
           | (with_reducible apply q_te)
           | (with_reducible apply q_tr)
           | (with_reducible apply q_bn)
           | (with_reducible apply q_br)
           | ((with_reducible apply q_be); (· exact rfl))
           | ((with_reducible apply q_bx); (· exact rfl))
           | (with_reducible apply q_er)
           | (with_reducible apply q_en)
           | (with_reducible apply q_her)
           | (with_reducible apply q_hen)
           | (intro _))
          all_goals first
            | (exfalso; omega)
            | exact W.round (i + 1) (Wk.list [] (by repeat' (first | exact TW.nil | refine TW.cons rfl ?_)) (by refine HW.eq rfl ?_ (HW.cons rfl (HW.cons rfl HW.nil)); simp only [Obj.ren]; rw [← next M g4]) rfl) ⟨by omega, by omega⟩ (by omega)
        | succ k =>
          have e1 : (((k + 1 : Nat) : Int)).toNat = k + 1 := by omega
          have e2 : (((k + 1 : Nat) : Int) - 1).toNat = k := by omega
          have h1 := hR (((k + 1 : Nat) : Int)).toNat (by omega)
          have h2 := hR (((k + 1 : Nat) : Int) - 1).toNat (by omega)
          have hc : cmpM (rd arcs (rd (R M) (((k + 1 : Nat) : Int)).toNat 0).toNat 2) (rd arcs (rd (R M) (((k + 1 : Nat) : Int) - 1).toNat 0).toNat 2) < 0 ↔ keyA arcs (gt M (k + 1)) < keyA arcs (gt M k) := by
            rw [e1, e2, R_rd (by omega), R_rd (by omega)]
            unfold cmpM keyA gt
            split
            · simp_all
            · split <;> simp_all
          repeat' (first
           | ((with_reducible apply v_call 4000000 (c_99 (rd (R M) (((k + 1 : Nat) : Int)).toNat 0) (rd (R M) (((k + 1 : Nat) : Int) - 1).toNat 0) n arcs h1 h2)); (iterate 3 (· exact rfl)); (· repeat' (first | exact DVsOf.nil | apply DVsOf.cons | apply DVof.one | apply DVof.agg | exact DCof.c | exact DCof.nil | exact DCof.nils | ((apply DCof.r); (iterate 2 (· exact rfl))) | ((apply DCof.rs); (iterate 2 (· exact rfl))) | ((apply DCof.mu); (· exact rfl)) | exact DCsOf.nil | apply DCsOf.cons | ((apply DVof_mp); (· exact rfl)) | ((apply DVof_ptr); (iterate 2 (· exact rfl))) | apply DVof.fn | exact DPsOf.nil | ((apply DPsOf_cons); (iterate 2 (· exact rfl))) | exact rfl)); (iterate 4 (· exact rfl)))
           | ((with_reducible apply v_mv); (iterate 3 (· exact rfl)))
           | ((with_reducible apply v_as); (iterate 3 (· exact rfl)))
           | ((with_reducible apply v_fa); (iterate 6 (· exact rfl)))
           | ((with_reducible apply v_far); (iterate 6 (· exact rfl)))
           | ((with_reducible apply v_ia); (iterate 8 (· exact rfl)); (iterate 2 (· first | omega | (simp only [lens, List.length_map, List.length_range]; omega))))
           | ((with_reducible apply v_lr_i64); (iterate 7 (· exact rfl)); (· first | omega | (simp only [lens, List.length_map, List.length_range]; omega)))
           | ((with_reducible apply v_ld); (iterate 6 (· exact rfl)))
           | ((with_reducible apply v_st); (iterate 7 (· exact rfl)))
           | ((with_reducible apply v_sr); (iterate 7 (· exact rfl)); (· first | omega | (simp only [lens, List.length_map, List.length_range]; omega)))
           | ((with_reducible apply v_srN); (iterate 7 (· exact rfl)); (· repeat' (first | exact RowC.nil | apply RowC.i | apply RowC.b)); (· first | omega | (simp only [lens, List.length_map, List.length_range]; omega)))
           | ((with_reducible apply v_tgt); (iterate 9 (· exact rfl)); (iterate 3 (· first | omega | (simp only [lens, List.length_map, List.length_range]; omega))); (· exact rfl))
           | ((with_reducible apply v_mks); (iterate 10 (· exact rfl)); (iterate 3 (· first | omega | (simp only [lens, List.length_map, List.length_range]; omega))))
           | ((with_reducible apply v_ext); (iterate 5 (· exact rfl)))
           | ((with_reducible apply v_cnv); (iterate 6 (· exact rfl)))
           | ((with_reducible apply v_min); (iterate 4 (· exact rfl)))
           | ((with_reducible apply v_max); (iterate 4 (· exact rfl)))
           | ((with_reducible apply v_ncr); (iterate 4 (· exact rfl)))
           | ((with_reducible apply v_ncp); (iterate 3 (· exact rfl)))
           | ((with_reducible apply v_lr_b); (iterate 7 (· exact rfl)); (· first | omega | (simp only [lens, List.length_map, List.length_range]; omega)))
           | ((with_reducible apply v_lr_u8); (iterate 7 (· exact rfl)); (· first | omega | (simp only [lens, List.length_map, List.length_range]; omega)))
           | ((with_reducible apply v_mkf); (iterate 3 (· exact rfl)))
           | ((with_reducible apply v_lss); (iterate 4 (· exact rfl)))
           | ((with_reducible apply v_leq); (iterate 4 (· exact rfl)))
           | ((with_reducible apply v_gtr); (iterate 4 (· exact rfl)))
           | ((with_reducible apply v_geq); (iterate 4 (· exact rfl)))
           | ((with_reducible apply v_eql); (iterate 4 (· exact rfl)))
           | ((with_reducible apply v_neq); (iterate 4 (· exact rfl)))
           | ((with_reducible apply v_add); (iterate 4 (· exact rfl)); (· first | omega | (simp only [lens, List.length_map, List.length_range]; omega)))
           | ((with_reducible apply v_sub); (iterate 4 (· exact rfl)); (· first | omega | (simp only [lens, List.length_map, List.length_range]; omega)))
           | ((with_reducible apply v_pkT); (iterate 4 (· exact rfl)))
           | ((with_reducible apply v_pkF); (iterate 4 (· exact rfl)))
           | ((with_reducible apply v_not); (iterate 3 (· exact rfl)))
           | ((with_reducible apply v_len); (iterate 5 (· exact rfl)))
           | ((with_reducible apply v_lenn); (iterate 4 (· exact rfl)))
           | ((with_reducible apply v_lit); (iterate 9 (· exact rfl)); (· repeat' (first | exact PartsC.nil | ((apply PartsC.cons); (· exact rfl)) | exact RowC.nil | apply RowC.i | apply RowC.b)))
           | ((with_reducible apply v_ap); (iterate 11 (· exact rfl)); (· first | omega | (simp only [lens, List.length_map, List.length_range]; omega)))
           | ((with_reducible apply v_ap0); (iterate 10 (· exact rfl)); (· first | omega | (simp only [lens, List.length_map, List.length_range]; omega)))
           | ((with_reducible apply v_alc); (iterate 5 (· exact rfl)))
           | ((with_reducible apply v_box); (iterate 4 (· exact rfl)))
           | ((with_reducible apply v_ldN); (iterate 7 (· exact rfl)))
           | ((with_reducible apply v_lrN); (iterate 8 (· exact rfl)); (· first | omega | (simp only [lens, List.length_map, List.length_range]; omega)))
           | ((with_reducible apply v_fld); (iterate 5 (· exact rfl)); (· kernel_rfl))
           | ((with_reducible apply v_bld); (iterate 6 (· exact rfl)))
           | ((with_reducible apply v_no); (iterate 2 (· exact rfl)))
           | ((with_reducible apply v_no'); (· exact rfl))
           | ((with_reducible apply v_ift); (iterate 2 (· exact rfl)); (· infer_instance))
           | ((with_reducible apply v_iff); (iterate 2 (· exact rfl)); (· infer_instance))
           | ((with_reducible apply v_pif); (· exact rfl); (· infer_instance))
           | (with_reducible apply vo_nil0)
           | ((with_reducible apply vo_nil); (· kernel_rfl))
           | (with_reducible apply w_rs)
           | ((with_reducible apply w_ds); (rotate_left); (iterate 2 (· kernel_rfl)))
           | (with_reducible apply w_r)
           | ((with_reducible apply w_d); (rotate_left); (iterate 2 (· kernel_rfl)))
           | (with_reducible apply w_sks)
           | (with_reducible apply W.skp)
           | (with_reducible apply W.ext)
           | (with_reducible apply W.rt)
           | (with_reducible apply w_blk)
           | ((with_reducible apply W.cT); (· exact rfl))
           | ((with_reducible apply W.cF); (· exact rfl))
           | ((with_reducible apply W.cn); (· exact rfl); (· infer_instance))
           | (with_reducible apply W.sq)
           | (with_reducible apply q_tn)
           | (with_reducible apply q_te)
           | (with_reducible apply q_tr)
           | (with_reducible apply q_bn)
           | (with_reducible apply q_br)
           | ((with_reducible apply q_be); (· exact rfl))
           | ((with_reducible apply q_bx); (· exact rfl))
           | (with_reducible apply q_er)
           | (with_reducible apply q_en)
           | (with_reducible apply q_her)
           | (with_reducible apply q_hen)
           | (intro _))
          · rename_i hlt
            have hlt' := hc.1 hlt
            refine W.round (k, swp M k) (Wk.list [] (by refine TW.cons rfl (TW.cons rfl (TW.cons rfl (TW.cons rfl (TW.cons rfl (TW.eq rfl ?_ TW.nil))))); simp [AV.ren, Sc.ren]) (by refine HW.eq rfl ?_ (HW.cons rfl (HW.cons rfl HW.nil)); simp only [Obj.ren, e1, e2]; rw [R_set _ (by omega), R_set _ (by simp; omega), R_rd (by omega), R_rd (by omega)]; rfl) rfl) ⟨by simp only; omega, by simp only [swp_length]; exact g2, fun y hy => g3 y (swp_mem (by omega) y hy), ?_⟩ (by simp only; omega)
            rw [← g4]
            simp only
            rw [bub, if_pos hlt']
          · rename_i hlt
            have hlt' := fun h => hlt (hc.2 h)
            exact W.round (i + 1) (Wk.list [] (by repeat' (first | exact TW.nil | refine TW.cons rfl ?_)) (by refine HW.eq rfl ?_ (HW.cons rfl (HW.cons rfl HW.nil)); simp only [Obj.ren]; rw [← g4, bub, if_neg hlt']) rfl) ⟨by omega, by omega⟩ (by omega)
          all_goals (exfalso; omega)
    · rename_i hi
      exact e_noneM ⟨by show hlook _ 5000 = _; rw [show L.length = i by omega]; rfl, trivial, trivial, trivial, trivial⟩
end Go.AM
set_option linter.unusedVariables false
set_option linter.unusedSimpArgs false
set_option maxRecDepth 4000
namespace Go.AM
open Go.Proofs

theorem c_230z (n : Int) (arcs : List (List Int)) : OK Try.prog 230 [.one (.mu 3 i1 (R []) (R [])), dI 0, dI 0, .fn 99 [[cI n, .sl 54 i5 arcs]]] (.tup []) := by
  refine W.fn 53 [] hTT Try.func230 rfl rfl rfl rfl rfl rfl rfl rfl ?_
  repeat' (first
   | ((with_reducible apply v_mv); (iterate 3 (· exact rfl)))
   | ((with_reducible apply v_as); (iterate 3 (· exact rfl)))
   | ((with_reducible apply v_fa); (iterate 6 (· exact rfl)))
   | ((with_reducible apply v_far); (iterate 6 (· exact rfl)))
   | ((with_reducible apply v_ia); (iterate 8 (· exact rfl)); (iterate 2 (· first | omega | (simp only [lens, List.length_map, List.length_range]; omega))))
   | ((with_reducible apply v_lr_i64); (iterate 7 (· exact rfl)); (· first | omega | (simp only [lens, List.length_map, List.length_range]; omega)))
   | ((with_reducible apply v_ld); (iterate 6 (· exact rfl)))
   | ((with_reducible apply v_st); (iterate 7 (· exact rfl)))
   | ((with_reducible apply v_sr); (iterate 7 (· exact rfl)); (· first | omega | (simp only [lens, List.length_map, List.length_range]; omega)))
   | ((with_reducible apply v_srN); (iterate 7 (· exact rfl)); (· repeat' (first | exact RowC.nil | apply RowC.i | apply RowC.b)); (· first | omega | (simp only [lens, List.length_map, List.length_range]; omega)))
   | ((with_reducible apply v_tgt); (iterate 9 (· exact rfl)); (iterate 3 (· first | omega | (simp only [lens, List.length_map, List.length_range]; omega))); (· exact rfl))
   | ((with_reducible apply v_mks); (iterate 10 (· exact rfl)); (iterate 3 (· first | omega | (simp only [lens, List.length_map, List.length_range]; omega))))
   | ((with_reducible apply v_ext); (iterate 5 (· exact rfl)))
   | ((with_reducible apply v_cnv); (iterate 6 (· exact rfl)))
   | ((with_reducible apply v_min); (iterate 4 (· exact rfl)))
   | ((with_reducible apply v_max); (iterate 4 (· exact rfl)))
   | ((with_reducible apply v_ncr); (iterate 4 (· exact rfl)))
   | ((with_reducible apply v_ncp); (iterate 3 (· exact rfl)))
   | ((with_reducible apply v_lr_b); (iterate 7 (· exact rfl)); (· first | omega | (simp only [lens, List.length_map, List.length_range]; omega)))
   | ((with_reducible apply v_lr_u8); (iterate 7 (· exact rfl)); (· first | omega | (simp only [lens, List.length_map, List.length_range]; omega)))
   | ((with_reducible apply v_mkf); (iterate 3 (· exact rfl)))
   | ((with_reducible apply v_lss); (iterate 4 (· exact rfl)))
   | ((with_reducible apply v_leq); (iterate 4 (· exact rfl)))
   | ((with_reducible apply v_gtr); (iterate 4 (· exact rfl)))
   | ((with_reducible apply v_geq); (iterate 4 (· exact rfl)))
   | ((with_reducible apply v_eql); (iterate 4 (· exact rfl)))
   | ((with_reducible apply v_neq); (iterate 4 (· exact rfl)))
   | ((with_reducible apply v_add); (iterate 4 (· exact rfl)); (· first | omega | (simp only [lens, List.length_map, List.length_range]; omega)))
   | ((with_reducible apply v_sub); (iterate 4 (· exact rfl)); (· first | omega | (simp only [lens, List.length_map, List.length_range]; omega)))
   | ((with_reducible apply v_pkT); (iterate 4 (· exact rfl)))
   | ((with_reducible apply v_pkF); (iterate 4 (· exact rfl)))
   | ((with_reducible apply v_not); (iterate 3 (· exact rfl)))
   | ((with_reducible apply v_len); (iterate 5 (· exact rfl)))
   | ((with_reducible apply v_lenn); (iterate 4 (· exact rfl)))
   | ((with_reducible apply v_lit); (iterate 9 (· exact rfl)); (· repeat' (first | exact PartsC.nil | ((apply PartsC.cons); (· exact rfl)) | exact RowC.nil | apply RowC.i | apply RowC.b)))
   | ((with_reducible apply v_ap); (iterate 11 (· exact rfl)); (· first | omega | (simp only [lens, List.length_map, List.length_range]; omega)))
   | ((with_reducible apply v_ap0); (iterate 10 (· exact rfl)); (· first | omega | (simp only [lens, List.length_map, List.length_range]; omega)))
   | ((with_reducible apply v_alc); (iterate 5 (· exact rfl)))
   | ((with_reducible apply v_box); (iterate 4 (· exact rfl)))
   | ((with_reducible apply v_ldN); (iterate 7 (· exact rfl)))
   | ((with_reducible apply v_lrN); (iterate 8 (· exact rfl)); (· first | omega | (simp only [lens, List.length_map, List.length_range]; omega)))
   | ((with_reducible apply v_fld); (iterate 5 (· exact rfl)); (· kernel_rfl))
   | ((with_reducible apply v_bld); (iterate 6 (· exact rfl)))
   | ((with_reducible apply v_no); (iterate 2 (· exact rfl)))
   | ((with_reducible apply v_no'); (· exact rfl))
   | ((with_reducible apply v_ift); (iterate 2 (· exact rfl)); (· infer_instance))
   | ((with_reducible apply v_iff); (iterate 2 (· exact rfl)); (· infer_instance))
   | ((with_reducible apply v_pif); (· exact rfl); (· infer_instance))
   | (with_reducible apply vo_nil0)
   | ((with_reducible apply vo_nil); (· kernel_rfl))
   | (with_reducible apply w_rs)
   | ((with_reducible apply w_ds); (rotate_left); (iterate 2 (· kernel_rfl)))
   | (with_reducible apply w_r)
   | ((with_reducible apply w_d); (rotate_left); (iterate 2 (· kernel_rfl)))
   | (with_reducible apply w_sks)
   | (with_reducible apply W.skp)
   | (with_reducible apply W.ext)
   | (with_reducible apply W.rt)
   | (with_reducible apply w_blk)
   | ((with_reducible apply W.cT); (· exact rfl))
   | ((with_reducible apply W.cF); (· exact rfl))
   | ((with_reducible apply W.cn); (· exact rfl); (· infer_instance))
   | (with_reducible apply W.sq)
   | (with_reducible apply q_tn)
   | (with_reducible apply q_te)
   | (with_reducible apply q_tr)
   | (with_reducible apply q_bn)
   | (with_reducible apply q_br)
   | ((with_reducible apply q_be); (· exact rfl))
   | ((with_reducible apply q_bx); (· exact rfl))
   | (with_reducible apply q_er)
   | (with_reducible apply q_en)
   | (with_reducible apply q_her)
   | (with_reducible apply q_hen)
   | (intro _))
  refine W.once ?_
  repeat' (first
   | ((with_reducible apply v_mv); (iterate 3 (· exact rfl)))
   | ((with_reducible apply v_as); (iterate 3 (· exact rfl)))
   | ((with_reducible apply v_fa); (iterate 6 (· exact rfl)))
   | ((with_reducible apply v_far); (iterate 6 (· exact rfl)))
   | ((with_reducible apply v_ia); (iterate 8 (· exact rfl)); (iterate 2 (· first | omega | (simp only [lens, List.length_map, List.length_range]; omega))))
   | ((with_reducible apply v_lr_i64); (iterate 7 (· exact rfl)); (· first | omega | (simp only [lens, List.length_map, List.length_range]; omega)))
   | ((with_reducible apply v_ld); (iterate 6 (· exact rfl)))
   | ((with_reducible apply v_st); (iterate 7 (· exact rfl)))
   | ((with_reducible apply v_sr); (iterate 7 (· exact rfl)); (· first | omega | (simp only [lens, List.length_map, List.length_range]; omega)))
   | ((with_reducible apply v_srN); (iterate 7 (· exact rfl)); (· repeat' (first | exact RowC.nil | apply RowC.i | apply RowC.b)); (· first | omega | (simp only [lens, List.length_map, List.length_range]; omega)))
   | ((with_reducible apply v_tgt); (iterate 9 (· exact rfl)); (iterate 3 (· first | omega | (simp only [lens, List.length_map, List.length_range]; omega))); (· exact rfl))
   | ((with_reducible apply v_mks); (iterate 10 (· exact rfl)); (iterate 3 (· first | omega | (simp only [lens, List.length_map, List.length_range]; omega))))
   | ((with_reducible apply v_ext); (iterate 5 (· exact rfl)))
   | ((with_reducible apply v_cnv); (iterate 6 (· exact rfl)))
   | ((with_reducible apply v_min); (iterate 4 (· exact rfl)))
   | ((with_reducible apply v_max); (iterate 4 (· exact rfl)))
   | ((with_reducible apply v_ncr); (iterate 4 (· exact rfl)))
   | ((with_reducible apply v_ncp); (iterate 3 (· exact rfl)))
   | ((with_reducible apply v_lr_b); (iterate 7 (· exact rfl)); (· first | omega | (simp only [lens, List.length_map, List.length_range]; omega)))
   | ((with_reducible apply v_lr_u8); (iterate 7 (· exact rfl)); (· first | omega | (simp only [lens, List.length_map, List.length_range]; omega)))
   | ((with_reducible apply v_mkf); (iterate 3 (· exact rfl)))
   | ((with_reducible apply v_lss); (iterate 4 (· exact rfl)))
   | ((with_reducible apply v_leq); (iterate 4 (· exact rfl)))
   | ((with_reducible apply v_gtr); (iterate 4 (· exact rfl)))
   | ((with_reducible apply v_geq); (iterate 4 (· exact rfl)))
   | ((with_reducible apply v_eql); (iterate 4 (· exact rfl)))
   | ((with_reducible apply v_neq); (iterate 4 (· exact rfl)))
   | ((with_reducible apply v_add); (iterate 4 (· exact rfl)); (· first | omega | (simp only [lens, List.length_map, List.length_range]; omega)))
   | ((with_reducible apply v_sub); (iterate 4 (· exact rfl)); (· first | omega | (simp only [lens, List.length_map, List.length_range]; omega)))
   | ((with_reducible apply v_pkT); (iterate 4 (· exact rfl)))
   | ((with_reducible apply v_pkF); (iterate 4 (· exact rfl)))
   | ((with_reducible apply v_not); (iterate 3 (· exact rfl)))
   | ((with_reducible apply v_len); (iterate 5 (· exact rfl)))
   | ((with_reducible apply v_lenn); (iterate 4 (· exact rfl)))
   | ((with_reducible apply v_lit); (iterate 9 (· exact rfl)); (· repeat' (first | exact PartsC.nil | ((apply PartsC.cons); (· exact rfl)) | exact RowC.nil | apply RowC.i | apply RowC.b)))
   | ((with_reducible apply v_ap); (iterate 11 (· exact rfl)); (· first | omega | (simp only [lens, List.length_map, List.length_range]; omega)))
   | ((with_reducible apply v_ap0); (iterate 10 (· exact rfl)); (· first | omega | (simp only [lens, List.length_map, List.length_range]; omega)))
   | ((with_reducible apply v_alc); (iterate 5 (· exact rfl)))
   | ((with_reducible apply v_box); (iterate 4 (· exact rfl)))
   | ((with_reducible apply v_ldN); (iterate 7 (· exact rfl)))
   | ((with_reducible apply v_lrN); (iterate 8 (· exact rfl)); (· first | omega | (simp only [lens, List.length_map, List.length_range]; omega)))
   | ((with_reducible apply v_fld); (iterate 5 (· exact rfl)); (· kernel_rfl))
   | ((with_reducible apply v_bld); (iterate 6 (· exact rfl)))
   | ((with_reducible apply v_no); (iterate 2 (· exact rfl)))
   | ((with_reducible apply v_no'); (· exact rfl))
   | ((with_reducible apply v_ift); (iterate 2 (· exact rfl)); (· infer_instance))
   | ((with_reducible apply v_iff); (iterate 2 (· exact rfl)); (· infer_instance))
   | ((with_reducible apply v_pif); (· exact rfl); (· infer_instance))
   | (with_reducible apply vo_nil0)
   | ((with_reducible apply vo_nil); (· kernel_rfl))
   | (with_reducible apply w_rs)
   | ((with_reducible apply w_ds); (rotate_left); (iterate 2 (· kernel_rfl)))
   | (with_reducible apply w_r)
   | ((with_reducible apply w_d); (rotate_left); (iterate 2 (· kernel_rfl)))
   | (with_reducible apply w_sks)
   | (with_reducible apply W.skp)
   | (with_reducible apply W.ext)
   | (with_reducible apply W.rt)
   | (with_reducible apply w_blk)
   | ((with_reducible apply W.cT); (· exact rfl))
   | ((with_reducible apply W.cF); (· exact rfl))
   | ((with_reducible apply W.cn); (· exact rfl); (· infer_instance))
   | (with_reducible apply W.sq)
   | (with_reducible apply q_tn)
   | (with_reducible apply q_te)
   | (with_reducible apply q_tr)
   | (with_reducible apply q_bn)
   | (with_reducible apply q_br)
   | ((with_reducible apply q_be); (· exact rfl))
   | ((with_reducible apply q_bx); (· exact rfl))
   | (with_reducible apply q_er)
   | (with_reducible apply q_en)
   | (with_reducible apply q_her)
   | (with_reducible apply q_hen)
   | (intro _))
  exact e_noneM ⟨rfl, trivial, trivial, trivial, trivial⟩
theorem c_230' (L : List Int) (n : Int) (arcs : List (List Int)) (hl : L.length < 20) (hL : ∀ x ∈ L, 0 ≤ x ∧ x < arcs.length) :
    OK Try.prog 230 [.one (.mu 3 i1 (R L) (R (srt (keyA arcs) L L.length))), dI 0, dI (L.length : Int), .fn 99 [[cI n, .sl 54 i5 arcs]]] (.tup []) := by
  cases L with
  | nil => exact c_230z n arcs
  | cons x L => exact c_230 (x :: L) n arcs (by omega) (by simp) hL
theorem c_187 (L : List Int) (n : Int) (arcs : List (List Int)) (hl : L.length < 20) (hL : ∀ x ∈ L, 0 ≤ x ∧ x < arcs.length) :
    OK Try.prog 187 [.one (.mu 3 i1 (R L) (R (srt (keyA arcs) L L.length))), dI (L.length : Int), .fn 99 [[cI n, .sl 54 i5 arcs]]] (.tup []) := by
  refine W.fn 63 [] hTT Try.func187 rfl rfl rfl rfl rfl rfl rfl rfl ?_
  repeat' (first
   | ((with_reducible apply v_mv); (iterate 3 (· exact rfl)))
   | ((with_reducible apply v_as); (iterate 3 (· exact rfl)))
   | ((with_reducible apply v_fa); (iterate 6 (· exact rfl)))
   | ((with_reducible apply v_far); (iterate 6 (· exact rfl)))
   | ((with_reducible apply v_ia); (iterate 8 (· exact rfl)); (iterate 2 (· first | omega | (simp only [lens, List.length_map, List.length_range]; omega))))
   | ((with_reducible apply v_lr_i64); (iterate 7 (· exact rfl)); (· first | omega | (simp only [lens, List.length_map, List.length_range]; omega)))
   | ((with_reducible apply v_ld); (iterate 6 (· exact rfl)))
   | ((with_reducible apply v_st); (iterate 7 (· exact rfl)))
   | ((with_reducible apply v_sr); (iterate 7 (· exact rfl)); (· first | omega | (simp only [lens, List.length_map, List.length_range]; omega)))
   | ((with_reducible apply v_srN); (iterate 7 (· exact rfl)); (· repeat' (first | exact RowC.nil | apply RowC.i | apply RowC.b)); (· first | omega | (simp only [lens, List.length_map, List.length_range]; omega)))
   | ((with_reducible apply v_tgt); (iterate 9 (· exact rfl)); (iterate 3 (· first | omega | (simp only [lens, List.length_map, List.length_range]; omega))); (· exact rfl))
   | ((with_reducible apply v_mks); (iterate 10 (· exact rfl)); (iterate 3 (· first | omega | (simp only [lens, List.length_map, List.length_range]; omega))))
   | ((with_reducible apply v_ext); (iterate 5 (· exact rfl)))
   | ((with_reducible apply v_cnv); (iterate 6 (· exact rfl)))
   | ((with_reducible apply v_min); (iterate 4 (· exact rfl)))
   | ((with_reducible apply v_max); (iterate 4 (· exact rfl)))
   | ((with_reducible apply v_ncr); (iterate 4 (· exact rfl)))
   | ((with_reducible apply v_ncp); (iterate 3 (· exact rfl)))
   | ((with_reducible apply v_lr_b); (iterate 7 (· exact rfl)); (· first | omega | (simp only [lens, List.length_map, List.length_range]; omega)))
   | ((with_reducible apply v_lr_u8); (iterate 7 (· exact rfl)); (· first | omega | (simp only [lens, List.length_map, List.length_range]; omega)))
   | ((with_reducible apply v_mkf); (iterate 3 (· exact rfl)))
   | ((with_reducible apply v_lss); (iterate 4 (· exact rfl)))
   | ((with_reducible apply v_leq); (iterate 4 (· exact rfl)))
   | ((with_reducible apply v_gtr); (iterate 4 (· exact rfl)))
   | ((with_reducible apply v_geq); (iterate 4 (· exact rfl)))
   | ((with_reducible apply v_eql); (iterate 4 (· exact rfl)))
   | ((with_reducible apply v_neq); (iterate 4 (· exact rfl)))
   | ((with_reducible apply v_add); (iterate 4 (· exact rfl)); (· first | omega | (simp only [lens, List.length_map, List.length_range]; omega)))
   | ((with_reducible apply v_sub); (iterate 4 (· exact rfl)); (· first | omega | (simp only [lens, List.length_map, List.length_range]; omega)))
   | ((with_reducible apply v_pkT); (iterate 4 (· exact rfl)))
   | ((with_reducible apply v_pkF); (iterate 4 (· exact rfl)))
   | ((with_reducible apply v_not); (iterate 3 (· exact rfl)))
   | ((with_reducible apply v_len); (iterate 5 (· exact rfl)))
   | ((with_reducible apply v_lenn); (iterate 4 (· exact rfl)))
   | ((with_reducible apply v_lit); (iterate 9 (· exact rfl)); (· repeat' (first | exact PartsC.nil | ((apply PartsC.cons); (· exact rfl)) | exact RowC.nil | apply RowC.i | apply RowC.b)))
   | ((with_reducible apply v_ap); (iterate 11 (· exact rfl)); (· first | omega | (simp only [lens, List.length_map, List.length_range]; omega)))
   | ((with_reducible apply v_ap0); (iterate 10 (· exact rfl)); (· first | omega | (simp only [lens, List.length_map, List.length_range]; omega)))
   | ((with_reducible apply v_alc); (iterate 5 (· exact rfl)))
   | ((with_reducible apply v_box); (iterate 4 (· exact rfl)))
   | ((with_reducible apply v_ldN); (iterate 7 (· exact rfl)))
   | ((with_reducible apply v_lrN); (iterate 8 (· exact rfl)); (· first | omega | (simp only [lens, List.length_map, List.length_range]; omega)))
   | ((with_reducible apply v_fld); (iterate 5 (· exact rfl)); (· kernel_rfl))
   | ((with_reducible apply v_bld); (iterate 6 (· exact rfl)))
   | ((with_reducible apply v_no); (iterate 2 (· exact rfl)))
   | ((with_reducible apply v_no'); (· exact rfl))
   | ((with_reducible apply v_ift); (iterate 2 (· exact rfl)); (· infer_instance))
   | ((with_reducible apply v_iff); (iterate 2 (· exact rfl)); (· infer_instance))
   | ((with_reducible apply v_pif); (· exact rfl); (· infer_instance))
   | (with_reducible apply vo_nil0)
   | ((with_reducible apply vo_nil); (· kernel_rfl))
   | (with_reducible apply w_rs)
   | ((with_reducible apply w_ds); (rotate_left); (iterate 2 (· kernel_rfl)))
   | (with_reducible apply w_r)
   | ((with_reducible apply w_d); (rotate_left); (iterate 2 (· kernel_rfl)))
   | (with_reducible apply w_sks)
   | (with_reducible apply W.skp)
   | (with_reducible apply W.ext)
   | (with_reducible apply W.rt)
   | (with_reducible apply w_blk)
   | ((with_reducible apply W.cT); (· exact rfl))
   | ((with_reducible apply W.cF); (· exact rfl))
   | ((with_reducible apply W.cn); (· exact rfl); (· infer_instance))
   | (with_reducible apply W.sq)
   | (with_reducible apply q_tn)
   | (with_reducible apply q_te)
   | (with_reducible apply q_tr)
   | (with_reducible apply q_bn)
   | (with_reducible apply q_br)
   | ((with_reducible apply q_be); (· exact rfl))
   | ((with_reducible apply q_bx); (· exact rfl))
   | (with_reducible apply q_er)
   | (with_reducible apply q_en)
   | (with_reducible apply q_her)
   | (with_reducible apply q_hen)
   | (intro _))
  refine W.once ?_
  repeat' (first
   | ((with_reducible apply v_calln 4000000 (c_230' L n arcs hl hL)); (iterate 2 (· exact rfl)); (· repeat' (first | exact DVsOf.nil | apply DVsOf.cons | apply DVof.one | apply DVof.agg | exact DCof.c | exact DCof.nil | exact DCof.nils | ((apply DCof.r); (iterate 2 (· exact rfl))) | ((apply DCof.rs); (iterate 2 (· exact rfl))) | ((apply DCof.mu); (· exact rfl)) | exact DCsOf.nil | apply DCsOf.cons | ((apply DVof_mp); (· exact rfl)) | ((apply DVof_ptr); (iterate 2 (· exact rfl))) | apply DVof.fn | exact DPsOf.nil | ((apply DPsOf_cons); (iterate 2 (· exact rfl))) | exact rfl)); (iterate 4 (· exact rfl)))
   | ((with_reducible apply v_call 4000000 (c_230' L n arcs hl hL)); (iterate 3 (· exact rfl)); (· repeat' (first | exact DVsOf.nil | apply DVsOf.cons | apply DVof.one | apply DVof.agg | exact DCof.c | exact DCof.nil | exact DCof.nils | ((apply DCof.r); (iterate 2 (· exact rfl))) | ((apply DCof.rs); (iterate 2 (· exact rfl))) | ((apply DCof.mu); (· exact rfl)) | exact DCsOf.nil | apply DCsOf.cons | ((apply DVof_mp); (· exact rfl)) | ((apply DVof_ptr); (iterate 2 (· exact rfl))) | apply DVof.fn | exact DPsOf.nil | ((apply DPsOf_cons); (iterate 2 (· exact rfl))) | exact rfl)); (iterate 4 (· exact rfl)))
   | ((with_reducible apply v_mv); (iterate 3 (· exact rfl)))
   | ((with_reducible apply v_as); (iterate 3 (· exact rfl)))
   | ((with_reducible apply v_fa); (iterate 6 (· exact rfl)))
   | ((with_reducible apply v_far); (iterate 6 (· exact rfl)))
   | ((with_reducible apply v_ia); (iterate 8 (· exact rfl)); (iterate 2 (· first | omega | (simp only [lens, List.length_map, List.length_range]; omega))))
   | ((with_reducible apply v_lr_i64); (iterate 7 (· exact rfl)); (· first | omega | (simp only [lens, List.length_map, List.length_range]; omega)))
   | ((with_reducible apply v_ld); (iterate 6 (· exact rfl)))
   | ((with_reducible apply v_st); (iterate 7 (· exact rfl)))
   | ((with_reducible apply v_sr); (iterate 7 (· exact rfl)); (· first | omega | (simp only [lens, List.length_map, List.length_range]; omega)))
   | ((with_reducible apply v_srN); (iterate 7 (· exact rfl)); (· repeat' (first | exact RowC.nil | apply RowC.i | apply RowC.b)); (· first | omega | (simp only [lens, List.length_map, List.length_range]; omega)))
   | ((with_reducible apply v_tgt); (iterate 9 (· exact rfl)); (iterate 3 (· first | omega | (simp only [lens, List.length_map, List.length_range]; omega))); (· exact rfl))
   | ((with_reducible apply v_mks); (iterate 10 (· exact rfl)); (iterate 3 (· first | omega | (simp only [lens, List.length_map, List.length_range]; omega))))
   | ((with_reducible apply v_ext); (iterate 5 (· exact rfl)))
   | ((with_reducible apply v_cnv); (iterate 6 (· exact rfl)))
   | ((with_reducible apply v_min); (iterate 4 (· exact rfl)))
   | ((with_reducible apply v_max); (iterate 4 (· exact rfl)))
   | ((with_reducible apply v_ncr); (iterate 4 (· exact rfl)))
   | ((with_reducible apply v_ncp); (iterate 3 (· exact rfl)))
   | ((with_reducible apply v_lr_b); (iterate 7 (· exact rfl)); (· first | omega | (simp only [lens, List.length_map, List.length_range]; omega)))
   | ((with_reducible apply v_lr_u8); (iterate 7 (· exact rfl)); (· first | omega | (simp only [lens, List.length_map, List.length_range]; omega)))
   | ((with_reducible apply v_mkf); (iterate 3 (· exact rfl)))
   | ((with_reducible apply v_lss); (iterate 4 (· exact rfl)))
   | ((with_reducible apply v_leq); (iterate 4 (· exact rfl)))
   | ((with_reducible apply v_gtr); (iterate 4 (· exact rfl)))
   | ((with_reducible apply v_geq); (iterate 4 (· exact rfl)))
   | ((with_reducible apply v_eql); (iterate 4 (· exact rfl)))
   | ((with_reducible apply v_neq); (iterate 4 (· exact rfl)))
   | ((with_reducible apply v_add); (iterate 4 (· exact rfl)); (· first | omega | (simp only [lens, List.length_map, List.length_range]; omega)))
   | ((with_reducible apply v_sub); (iterate 4 (· exact rfl)); (· first | omega | (simp only [lens, List.length_map, List.length_range]; omega)))
   | ((with_reducible apply v_pkT); (iterate 4 (· exact rfl)))
   | ((with_reducible apply v_pkF); (iterate 4 (· exact rfl)))
   | ((with_reducible apply v_not); (iterate 3 (· exact rfl)))
   | ((with_reducible apply v_len); (iterate 5 (· exact rfl)))
   | ((with_reducible apply v_lenn); (iterate 4 (· exact rfl)))
   | ((with_reducible apply v_lit); (iterate 9 (· exact rfl)); (· repeat' (first | exact PartsC.nil | ((apply PartsC.cons); (· exact rfl)) | exact RowC.nil | apply RowC.i | apply RowC.b)))
   | ((with_reducible apply v_ap); (iterate 11 (· exact rfl)); (· first | omega | (simp only [lens, List.length_map, List.length_range]; omega)))
   | ((with_reducible apply v_ap0); (iterate 10 (· exact rfl)); (· first | omega | (simp only [lens, List.length_map, List.length_range]; omega)))
   | ((with_reducible apply v_alc); (iterate 5 (· exact rfl)))
   | ((with_reducible apply v_box); (iterate 4 (· exact rfl)))
   | ((with_reducible apply v_ldN); (iterate 7 (· exact rfl)))
   | ((with_reducible apply v_lrN); (iterate 8 (· exact rfl)); (· first | omega | (simp only [lens, List.length_map, List.length_range]; omega)))
   | ((with_reducible apply v_fld); (iterate 5 (· exact rfl)); (· kernel_rfl))
   | ((with_reducible apply v_bld); (iterate 6 (· exact rfl)))
   | ((with_reducible apply v_no); (iterate 2 (· exact rfl)))
   | ((with_reducible apply v_no'); (· exact rfl))
   | ((with_reducible apply v_ift); (iterate 2 (· exact rfl)); (· infer_instance))
   | ((with_reducible apply v_iff); (iterate 2 (· exact rfl)); (· infer_instance))
   | ((with_reducible apply v_pif); (· exact rfl); (· infer_instance))
   | (with_reducible apply vo_nil0)
   | ((with_reducible apply vo_nil); (· kernel_rfl))
   | (with_reducible apply w_rs)
   | ((with_reducible apply w_ds); (rotate_left); (iterate 2 (· kernel_rfl)))
   | (with_reducible apply w_r)
   | ((with_reducible apply w_d); (rotate_left); (iterate 2 (· kernel_rfl)))
   | (with_reducible apply w_sks)
   | (with_reducible apply W.skp)
   | (with_reducible apply W.ext)
   | (with_reducible apply W.rt)
   | (with_reducible apply w_blk)
   | ((with_reducible apply W.cT); (· exact rfl))
   | ((with_reducible apply W.cF); (· exact rfl))
   | ((with_reducible apply W.cn); (· exact rfl); (· infer_instance))
   | (with_reducible apply W.sq)
   | (with_reducible apply q_tn)
   | (with_reducible apply q_te)
   | (with_reducible apply q_tr)
   | (with_reducible apply q_bn)
   | (with_reducible apply q_br)
   | ((with_reducible apply q_be); (· exact rfl))
   | ((with_reducible apply q_bx); (· exact rfl))
   | (with_reducible apply q_er)
   | (with_reducible apply q_en)
   | (with_reducible apply q_her)
   | (with_reducible apply q_hen)
   | (intro _))
  · exfalso; omega
  refine W.once ?_
  repeat' (first
   | ((with_reducible apply v_mv); (iterate 3 (· exact rfl)))
   | ((with_reducible apply v_as); (iterate 3 (· exact rfl)))
   | ((with_reducible apply v_fa); (iterate 6 (· exact rfl)))
   | ((with_reducible apply v_far); (iterate 6 (· exact rfl)))
   | ((with_reducible apply v_ia); (iterate 8 (· exact rfl)); (iterate 2 (· first | omega | (simp only [lens, List.length_map, List.length_range]; omega))))
   | ((with_reducible apply v_lr_i64); (iterate 7 (· exact rfl)); (· first | omega | (simp only [lens, List.length_map, List.length_range]; omega)))
   | ((with_reducible apply v_ld); (iterate 6 (· exact rfl)))
   | ((with_reducible apply v_st); (iterate 7 (· exact rfl)))
   | ((with_reducible apply v_sr); (iterate 7 (· exact rfl)); (· first | omega | (simp only [lens, List.length_map, List.length_range]; omega)))
   | ((with_reducible apply v_srN); (iterate 7 (· exact rfl)); (· repeat' (first | exact RowC.nil | apply RowC.i | apply RowC.b)); (· first | omega | (simp only [lens, List.length_map, List.length_range]; omega)))
   | ((with_reducible apply v_tgt); (iterate 9 (· exact rfl)); (iterate 3 (· first | omega | (simp only [lens, List.length_map, List.length_range]; omega))); (· exact rfl))
   | ((with_reducible apply v_mks); (iterate 10 (· exact rfl)); (iterate 3 (· first | omega | (simp only [lens, List.length_map, List.length_range]; omega))))
   | ((with_reducible apply v_ext); (iterate 5 (· exact rfl)))
   | ((with_reducible apply v_cnv); (iterate 6 (· exact rfl)))
   | ((with_reducible apply v_min); (iterate 4 (· exact rfl)))
   | ((with_reducible apply v_max); (iterate 4 (· exact rfl)))
   | ((with_reducible apply v_ncr); (iterate 4 (· exact rfl)))
   | ((with_reducible apply v_ncp); (iterate 3 (· exact rfl)))
   | ((with_reducible apply v_lr_b); (iterate 7 (· exact rfl)); (· first | omega | (simp only [lens, List.length_map, List.length_range]; omega)))
   | ((with_reducible apply v_lr_u8); (iterate 7 (· exact rfl)); (· first | omega | (simp only [lens, List.length_map, List.length_range]; omega)))
   | ((with_reducible apply v_mkf); (iterate 3 (· exact rfl)))
   | ((with_reducible apply v_lss); (iterate 4 (· exact rfl)))
   | ((with_reducible apply v_leq); (iterate 4 (· exact rfl)))
   | ((with_reducible apply v_gtr); (iterate 4 (· exact rfl)))
   | ((with_reducible apply v_geq); (iterate 4 (· exact rfl)))
   | ((with_reducible apply v_eql); (iterate 4 (· exact rfl)))
   | ((with_reducible apply v_neq); (iterate 4 (· exact rfl)))
   | ((with_reducible apply v_add); (iterate 4 (· exact rfl)); (· first | omega | (simp only [lens, List.length_map, List.length_range]; omega)))
   | ((with_reducible apply v_sub); (iterate 4 (· exact rfl)); (· first | omega | (simp only [lens, List.length_map, List.length_range]; omega)))
   | ((with_reducible apply v_pkT); (iterate 4 (· exact rfl)))
   | ((with_reducible apply v_pkF); (iterate 4 (· exact rfl)))
   | ((with_reducible apply v_not); (iterate 3 (· exact rfl)))
   | ((with_reducible apply v_len); (iterate 5 (· exact rfl)))
   | ((with_reducible apply v_lenn); (iterate 4 (· exact rfl)))
   | ((with_reducible apply v_lit); (iterate 9 (· exact rfl)); (· repeat' (first | exact PartsC.nil | ((apply PartsC.cons); (· exact rfl)) | exact RowC.nil | apply RowC.i | apply RowC.b)))
   | ((with_reducible apply v_ap); (iterate 11 (· exact rfl)); (· first | omega | (simp only [lens, List.length_map, List.length_range]; omega)))
   | ((with_reducible apply v_ap0); (iterate 10 (· exact rfl)); (· first | omega | (simp only [lens, List.length_map, List.length_range]; omega)))
   | ((with_reducible apply v_alc); (iterate 5 (· exact rfl)))
   | ((with_reducible apply v_box); (iterate 4 (· exact rfl)))
   | ((with_reducible apply v_ldN); (iterate 7 (· exact rfl)))
   | ((with_reducible apply v_lrN); (iterate 8 (· exact rfl)); (· first | omega | (simp only [lens, List.length_map, List.length_range]; omega)))
   | ((with_reducible apply v_fld); (iterate 5 (· exact rfl)); (· kernel_rfl))
   | ((with_reducible apply v_bld); (iterate 6 (· exact rfl)))
   | ((with_reducible apply v_no); (iterate 2 (· exact rfl)))
   | ((with_reducible apply v_no'); (· exact rfl))
   | ((with_reducible apply v_ift); (iterate 2 (· exact rfl)); (· infer_instance))
   | ((with_reducible apply v_iff); (iterate 2 (· exact rfl)); (· infer_instance))
   | ((with_reducible apply v_pif); (· exact rfl); (· infer_instance))
   | (with_reducible apply vo_nil0)
   | ((with_reducible apply vo_nil); (· kernel_rfl))
   | (with_reducible apply w_rs)
   | ((with_reducible apply w_ds); (rotate_left); (iterate 2 (· kernel_rfl)))
   | (with_reducible apply w_r)
   | ((with_reducible apply w_d); (rotate_left); (iterate 2 (· kernel_rfl)))
   | (with_reducible apply w_sks)
   | (with_reducible apply W.skp)
   | (with_reducible apply W.ext)
   | (with_reducible apply W.rt)
   | (with_reducible apply w_blk)
   | ((with_reducible apply W.cT); (· exact rfl))
   | ((with_reducible apply W.cF); (· exact rfl))
   | ((with_reducible apply W.cn); (· exact rfl); (· infer_instance))
   | (with_reducible apply W.sq)
   | (with_reducible apply q_tn)
   | (with_reducible apply q_te)
   | (with_reducible apply q_tr)
   | (with_reducible apply q_bn)
   | (with_reducible apply q_br)
   | ((with_reducible apply q_be); (· exact rfl))
   | ((with_reducible apply q_bx); (· exact rfl))
   | (with_reducible apply q_er)
   | (with_reducible apply q_en)
   | (with_reducible apply q_her)
   | (with_reducible apply q_hen)
   | (intro _))
  · exfalso; omega
  · exact e_noneM ⟨rfl, trivial, trivial, trivial⟩
theorem c_98 (L : List Int) (n : Int) (arcs : List (List Int)) (hl : L.length < 20) (hL : ∀ x ∈ L, 0 ≤ x ∧ x < arcs.length) :
    OK Try.prog 98 [.one (.mu 3 i1 (R L) (R (srt (keyA arcs) L L.length))), .fn 99 [[cI n, .sl 54 i5 arcs]]] (.tup []) := by
  have hR := R_length L
  have h' := c_187 L n arcs hl hL
  rw [← hR] at h'
  refine W.fn 9 [] hTT Try.func98 rfl rfl rfl rfl rfl rfl rfl rfl ?_
  repeat' (first
   | ((with_reducible apply v_calln 4000000 (h')); (iterate 2 (· exact rfl)); (· repeat' (first | exact DVsOf.nil | apply DVsOf.cons | apply DVof.one | apply DVof.agg | exact DCof.c | exact DCof.nil | exact DCof.nils | ((apply DCof.r); (iterate 2 (· exact rfl))) | ((apply DCof.rs); (iterate 2 (· exact rfl))) | ((apply DCof.mu); (· exact rfl)) | exact DCsOf.nil | apply DCsOf.cons | ((apply DVof_mp); (· exact rfl)) | ((apply DVof_ptr); (iterate 2 (· exact rfl))) | apply DVof.fn | exact DPsOf.nil | ((apply DPsOf_cons); (iterate 2 (· exact rfl))) | exact rfl)); (iterate 4 (· exact rfl)))
   | ((with_reducible apply v_call 4000000 (h')); (iterate 3 (· exact rfl)); (· repeat' (first | exact DVsOf.nil | apply DVsOf.cons | apply DVof.one | apply DVof.agg | exact DCof.c | exact DCof.nil | exact DCof.nils | ((apply DCof.r); (iterate 2 (· exact rfl))) | ((apply DCof.rs); (iterate 2 (· exact rfl))) | ((apply DCof.mu); (· exact rfl)) | exact DCsOf.nil | apply DCsOf.cons | ((apply DVof_mp); (· exact rfl)) | ((apply DVof_ptr); (iterate 2 (· exact rfl))) | apply DVof.fn | exact DPsOf.nil | ((apply DPsOf_cons); (iterate 2 (· exact rfl))) | exact rfl)); (iterate 4 (· exact rfl)))
   | ((with_reducible apply v_mv); (iterate 3 (· exact rfl)))
   | ((with_reducible apply v_as); (iterate 3 (· exact rfl)))
   | ((with_reducible apply v_fa); (iterate 6 (· exact rfl)))
   | ((with_reducible apply v_far); (iterate 6 (· exact rfl)))
   | ((with_reducible apply v_ia); (iterate 8 (· exact rfl)); (iterate 2 (· first | omega | (simp only [lens, List.length_map, List.length_range]; omega))))
   | ((with_reducible apply v_lr_i64); (iterate 7 (· exact rfl)); (· first | omega | (simp only [lens, List.length_map, List.length_range]; omega)))
   | ((with_reducible apply v_ld); (iterate 6 (· exact rfl)))
   | ((with_reducible apply v_st); (iterate 7 (· exact rfl)))
   | ((with_reducible apply v_sr); (iterate 7 (· exact rfl)); (· first | omega | (simp only [lens, List.length_map, List.length_range]; omega)))
   | ((with_reducible apply v_srN); (iterate 7 (· exact rfl)); (· repeat' (first | exact RowC.nil | apply RowC.i | apply RowC.b)); (· first | omega | (simp only [lens, List.length_map, List.length_range]; omega)))
   | ((with_reducible apply v_tgt); (iterate 9 (· exact rfl)); (iterate 3 (· first | omega | (simp only [lens, List.length_map, List.length_range]; omega))); (· exact rfl))
   | ((with_reducible apply v_mks); (iterate 10 (· exact rfl)); (iterate 3 (· first | omega | (simp only [lens, List.length_map, List.length_range]; omega))))
   | ((with_reducible apply v_ext); (iterate 5 (· exact rfl)))
   | ((with_reducible apply v_cnv); (iterate 6 (· exact rfl)))
   | ((with_reducible apply v_min); (iterate 4 (· exact rfl)))
   | ((with_reducible apply v_max); (iterate 4 (· exact rfl)))
   | ((with_reducible apply v_ncr); (iterate 4 (· exact rfl)))
   | ((with_reducible apply v_ncp); (iterate 3 (· exact rfl)))
   | ((with_reducible apply v_lr_b); (iterate 7 (· exact rfl)); (· first | omega | (simp only [lens, List.length_map, List.length_range]; omega)))
   | ((with_reducible apply v_lr_u8); (iterate 7 (· exact rfl)); (· first | omega | (simp only [lens, List.length_map, List.length_range]; omega)))
   | ((with_reducible apply v_mkf); (iterate 3 (· exact rfl)))
   | ((with_reducible apply v_lss); (iterate 4 (· exact rfl)))
   | ((with_reducible apply v_leq); (iterate 4 (· exact rfl)))
   | ((with_reducible apply v_gtr); (iterate 4 (· exact rfl)))
   | ((with_reducible apply v_geq); (iterate 4 (· exact rfl)))
   | ((with_reducible apply v_eql); (iterate 4 (· exact rfl)))
   | ((with_reducible apply v_neq); (iterate 4 (· exact rfl)))
   | ((with_reducible apply v_add); (iterate 4 (· exact rfl)); (· first | omega | (simp only [lens, List.length_map, List.length_range]; omega)))
   | ((with_reducible apply v_sub); (iterate 4 (· exact rfl)); (· first | omega | (simp only [lens, List.length_map, List.length_range]; omega)))
   | ((with_reducible apply v_pkT); (iterate 4 (· exact rfl)))
   | ((with_reducible apply v_pkF); (iterate 4 (· exact rfl)))
   | ((with_reducible apply v_not); (iterate 3 (· exact rfl)))
   | ((with_reducible apply v_len); (iterate 5 (· exact rfl)))
   | ((with_reducible apply v_lenn); (iterate 4 (· exact rfl)))
   | ((with_reducible apply v_lit); (iterate 9 (· exact rfl)); (· repeat' (first | exact PartsC.nil | ((apply PartsC.cons); (· exact rfl)) | exact RowC.nil | apply RowC.i | apply RowC.b)))
   | ((with_reducible apply v_ap); (iterate 11 (· exact rfl)); (· first | omega | (simp only [lens, List.length_map, List.length_range]; omega)))
   | ((with_reducible apply v_ap0); (iterate 10 (· exact rfl)); (· first | omega | (simp only [lens, List.length_map, List.length_range]; omega)))
   | ((with_reducible apply v_alc); (iterate 5 (· exact rfl)))
   | ((with_reducible apply v_box); (iterate 4 (· exact rfl)))
   | ((with_reducible apply v_ldN); (iterate 7 (· exact rfl)))
   | ((with_reducible apply v_lrN); (iterate 8 (· exact rfl)); (· first | omega | (simp only [lens, List.length_map, List.length_range]; omega)))
   | ((with_reducible apply v_fld); (iterate 5 (· exact rfl)); (· kernel_rfl))
   | ((with_reducible apply v_bld); (iterate 6 (· exact rfl)))
   | ((with_reducible apply v_no); (iterate 2 (· exact rfl)))
   | ((with_reducible apply v_no'); (· exact rfl))
   | ((with_reducible apply v_ift); (iterate 2 (· exact rfl)); (· infer_instance))
   | ((with_reducible apply v_iff); (iterate 2 (· exact rfl)); (· infer_instance))
   | ((with_reducible apply v_pif); (· exact rfl); (· infer_instance))
   | (with_reducible apply vo_nil0)
   | ((with_reducible apply vo_nil); (· kernel_rfl))
   | (with_reducible apply w_rs)
   | ((with_reducible apply w_ds); (rotate_left); (iterate 2 (· kernel_rfl)))
   | (with_reducible apply w_r)
   | ((with_reducible apply w_d); (rotate_left); (iterate 2 (· kernel_rfl)))
   | (with_reducible apply w_sks)
   | (with_reducible apply W.skp)
   | (with_reducible apply W.ext)
   | (with_reducible apply W.rt)
   | (with_reducible apply w_blk)
   | ((with_reducible apply W.cT); (· exact rfl))
   | ((with_reducible apply W.cF); (· exact rfl))
   | ((with_reducible apply W.cn); (· exact rfl); (· infer_instance))
   | (with_reducible apply W.sq)
   | (with_reducible apply q_tn)
   | (with_reducible apply q_te)
   | (with_reducible apply q_tr)
   | (with_reducible apply q_bn)
   | (with_reducible apply q_br)
   | ((with_reducible apply q_be); (· exact rfl))
   | ((with_reducible apply q_bx); (· exact rfl))
   | (with_reducible apply q_er)
   | (with_reducible apply q_en)
   | (with_reducible apply q_her)
   | (with_reducible apply q_hen)
   | (intro _))
  · exact e_noneM ⟨by rw [R_length]; rfl, trivial, trivial⟩

/-! ### joined -/
def upto (n : Nat) : List Int := (List.range n).map fun (i : Nat) => (i : Int)
theorem upto_length (n : Nat) : (upto n).length = n := by simp [upto]
theorem upto_succ (n : Nat) : upto (n + 1) = upto n ++ [(n : Int)] := by simp [upto, List.range_succ]
theorem upto_mem {n : Nat} {x : Int} : x ∈ upto n ↔ 0 ≤ x ∧ x < n := by
  simp only [upto, List.mem_map, List.mem_range]
  constructor
  · rintro ⟨i, h, rfl⟩; omega
  · rintro ⟨h1, h2⟩; exact ⟨x.toNat, by omega, by omega⟩
def relab (a b : Int) (c : Int) : Int := if c = max a b then min a b else c
def jstep (arcs : List (List Int)) (P : List Int) (k : Int) : List Int := P.map (relab (gt P (rd arcs k.toNat 0).toNat) (gt P (rd arcs k.toNat 1).toNat))
def joinM (n : Nat) (arcs : List (List Int)) (out : List Int) : List Int := out.foldl (jstep arcs) (upto n)
theorem jstep_length (arcs : List (List Int)) (P : List Int) (k : Int) : (jstep arcs P k).length = P.length := by simp [jstep]
theorem foldj_length (arcs : List (List Int)) : ∀ (out : List Int) (P : List Int), (out.foldl (jstep arcs) P).length = P.length
  | [], P => rfl
  | k :: out, P => by rw [List.foldl_cons, foldj_length arcs out, jstep_length]
theorem joinM_length (n : Nat) (arcs : List (List Int)) (out : List Int) : (joinM n arcs out).length = n := by rw [joinM, foldj_length, upto_length]
theorem okM_n {n : Int} {arcs : List (List Int)} (h : okM n arcs = true) : (1 ≤ n ∧ n ≤ 8) ∧ (arcs.length : Int) ≤ 16 := by
  simp [okM] at h; omega
theorem okM_arc {n : Int} {arcs : List (List Int)} (h : okM n arcs = true) {j : Nat} (hj : j < arcs.length) : (0 ≤ rd arcs j 0 ∧ rd arcs j 0 < n) ∧ (0 ≤ rd arcs j 1 ∧ rd arcs j 1 < n) ∧ rd arcs j 0 ≠ rd arcs j 1 ∧ (0 ≤ rd arcs j 2 ∧ rd arcs j 2 ≤ 99) ∧ (0 ≤ rd arcs j 3 ∧ rd arcs j 3 ≤ 99) ∧ 0 ≤ rd arcs j 4 ∧ rd arcs j 4 ≤ 9 := by
  have hn := (okM_n h).1
  simp only [okM, Bool.and_eq_true, List.all_eq_true, List.mem_range] at h
  have := h.2 j hj
  simp only [arcK, arcV, nB, inB, wrapm1 n hn, Bool.and_eq_true, decide_eq_true_eq, Bool.not_eq_true', beq_eq_false_iff_ne] at this
  omega

theorem take_step (f : Int → Int) (P : List Int) {v : Nat} (hv : v < P.length) : (P.map f).take (v + 1) ++ P.drop (v + 1) = ((P.map f).take v ++ P.drop v).set v (f (gt P v)) := by
  apply List.ext_getElem?
  intro m
  rw [List.getElem?_set]
  by_cases hm : v = m
  · subst hm
    rw [if_pos rfl, if_pos (by simp; omega), List.getElem?_append_left (by simp; omega), List.getElem?_take, if_pos (by omega), List.getElem?_map, List.getElem?_eq_getElem hv]
    simp [gt, List.getD_eq_getElem?_getD, List.getElem?_eq_getElem hv]
  · rw [if_neg hm]
    by_cases h2 : m < v
    · rw [List.getElem?_append_left (by simp; omega), List.getElem?_append_left (by simp; omega), List.getElem?_take, List.getElem?_take, if_pos (by omega), if_pos h2]
    · rw [List.getElem?_append_right (by simp; omega), List.getElem?_append_right (by simp; omega), List.getElem?_drop, List.getElem?_drop]
      congr 1
      simp
      omega
theorem set_same (M : List Int) {v : Nat} {x : Int} (h : v < M.length) (e : gt M v = x) : M.set v x = M := by
  rw [← e, gt, List.getD_eq_getElem?_getD, List.getElem?_eq_getElem h]; simp
theorem c_101 (n : Int) (arcs : List (List Int)) (out : List Int) (ho : okM n arcs = true) (hL : ∀ x ∈ out, 0 ≤ x ∧ x < arcs.length) (hol : out.length < 1000000) : OK Try.prog 101 [dNet n arcs, dL out] (dL (joinM n.toNat arcs out)) := by
  obtain ⟨hn, hal⟩ := okM_n ho
  have hRo := R_length out
  refine W.fn 71 [.tmp 4] hTT Try.func101 rfl rfl rfl rfl rfl rfl rfl rfl ?_
  repeat' (first
   | ((with_reducible apply v_mv); (iterate 3 (· exact rfl)))
   | ((with_reducible apply v_as); (iterate 3 (· exact rfl)))
   | ((with_reducible apply v_fa); (iterate 6 (· exact rfl)))
   | ((with_reducible apply v_far); (iterate 6 (· exact rfl)))
   | ((with_reducible apply v_ia); (iterate 8 (· exact rfl)); (iterate 2 (· first | omega | (simp only [lens, List.length_map, List.length_range]; omega))))
   | ((with_reducible apply v_lr_i64); (iterate 7 (· exact rfl)); (· first | omega | (simp only [lens, List.length_map, List.length_range]; omega)))
   | ((with_reducible apply v_ld); (iterate 6 (· exact rfl)))
   | ((with_reducible apply v_st); (iterate 7 (· exact rfl)))
   | ((with_reducible apply v_sr); (iterate 7 (· exact rfl)); (· first | omega | (simp only [lens, List.length_map, List.length_range]; omega)))
   | ((with_reducible apply v_srN); (iterate 7 (· exact rfl)); (· repeat' (first | exact RowC.nil | apply RowC.i | apply RowC.b)); (· first | omega | (simp only [lens, List.length_map, List.length_range]; omega)))
   | ((with_reducible apply v_tgt); (iterate 9 (· exact rfl)); (iterate 3 (· first | omega | (simp only [lens, List.length_map, List.length_range]; omega))); (· exact rfl))
   | ((with_reducible apply v_mks); (iterate 10 (· exact rfl)); (iterate 3 (· first | omega | (simp only [lens, List.length_map, List.length_range]; omega))))
   | ((with_reducible apply v_ext); (iterate 5 (· exact rfl)))
   | ((with_reducible apply v_cnv); (iterate 6 (· exact rfl)))
   | ((with_reducible apply v_min); (iterate 4 (· exact rfl)))
   | ((with_reducible apply v_max); (iterate 4 (· exact rfl)))
   | ((with_reducible apply v_ncr); (iterate 4 (· exact rfl)))
   | ((with_reducible apply v_ncp); (iterate 3 (· exact rfl)))
   | ((with_reducible apply v_lr_b); (iterate 7 (· exact rfl)); (· first | omega | (simp only [lens, List.length_map, List.length_range]; omega)))
   | ((with_reducible apply v_lr_u8); (iterate 7 (· exact rfl)); (· first | omega | (simp only [lens, List.length_map, List.length_range]; omega)))
   | ((with_reducible apply v_mkf); (iterate 3 (· exact rfl)))
   | ((with_reducible apply v_lss); (iterate 4 (· exact rfl)))
   | ((with_reducible apply v_leq); (iterate 4 (· exact rfl)))
   | ((with_reducible apply v_gtr); (iterate 4 (· exact rfl)))
   | ((with_reducible apply v_geq); (iterate 4 (· exact rfl)))
   | ((with_reducible apply v_eql); (iterate 4 (· exact rfl)))
   | ((with_reducible apply v_neq); (iterate 4 (· exact rfl)))
   | ((with_reducible apply v_add); (iterate 4 (· exact rfl)); (· first | omega | (simp only [lens, List.length_map, List.length_range]; omega)))
   | ((with_reducible apply v_sub); (iterate 4 (· exact rfl)); (· first | omega | (simp only [lens, List.length_map, List.length_range]; omega)))
   | ((with_reducible apply v_pkT); (iterate 4 (· exact rfl)))
   | ((with_reducible apply v_pkF); (iterate 4 (· exact rfl)))
   | ((with_reducible apply v_not); (iterate 3 (· exact rfl)))
   | ((with_reducible apply v_len); (iterate 5 (· exact rfl)))
   | ((with_reducible apply v_lenn); (iterate 4 (· exact rfl)))
   | ((with_reducible apply v_lit); (iterate 9 (· exact rfl)); (· repeat' (first | exact PartsC.nil | ((apply PartsC.cons); (· exact rfl)) | exact RowC.nil | apply RowC.i | apply RowC.b)))
   | ((with_reducible apply v_ap); (iterate 11 (· exact rfl)); (· first | omega | (simp only [lens, List.length_map, List.length_range]; omega)))
   | ((with_reducible apply v_ap0); (iterate 10 (· exact rfl)); (· first | omega | (simp only [lens, List.length_map, List.length_range]; omega)))
   | ((with_reducible apply v_alc); (iterate 5 (· exact rfl)))
   | ((with_reducible apply v_box); (iterate 4 (· exact rfl)))
   | ((with_reducible apply v_ldN); (iterate 7 (· exact rfl)))
   | ((with_reducible apply v_lrN); (iterate 8 (· exact rfl)); (· first | omega | (simp only [lens, List.length_map, List.length_range]; omega)))
   | ((with_reducible apply v_fld); (iterate 5 (· exact rfl)); (· kernel_rfl))
   | ((with_reducible apply v_bld); (iterate 6 (· exact rfl)))
   | ((with_reducible apply v_no); (iterate 2 (· exact rfl)))
   | ((with_reducible apply v_no'); (· exact rfl))
   | ((with_reducible apply v_ift); (iterate 2 (· exact rfl)); (· infer_instance))
   | ((with_reducible apply v_iff); (iterate 2 (· exact rfl)); (· infer_instance))
   | ((with_reducible apply v_pif); (· exact rfl); (· infer_instance))
   | (with_reducible apply vo_nil0)
   | ((with_reducible apply vo_nil); (· kernel_rfl))
   | (with_reducible apply w_rs)
   | ((with_reducible apply w_ds); (rotate_left); (iterate 2 (· kernel_rfl)))
   | (with_reducible apply w_r)
   | ((with_reducible apply w_d); (rotate_left); (iterate 2 (· kernel_rfl)))
   | (with_reducible apply w_sks)
   | (with_reducible apply W.skp)
   | (with_reducible apply W.ext)
   | (with_reducible apply W.rt)
   | (with_reducible apply w_blk)
   | ((with_reducible apply W.cT); (· exact rfl))
   | ((with_reducible apply W.cF); (· exact rfl))
   | ((with_reducible apply W.cn); (· exact rfl); (· infer_instance))
   | (with_reducible apply W.sq)
   | (with_reducible apply q_tn)
   | (with_reducible apply q_te)
   | (with_reducible apply q_tr)
   | (with_reducible apply q_bn)
   | (with_reducible apply q_br)
   | ((with_reducible apply q_be); (· exact rfl))
   | ((with_reducible apply q_bx); (· exact rfl))
   | (with_reducible apply q_er)
   | (with_reducible apply q_en)
   | (with_reducible apply q_her)
   | (with_reducible apply q_hen)
   | (intro _))
  refine W.lop (X := Nat) (fun i => mk 71 [(1, .one (.r 5100)), (2, .one (.r 2)), (5, .one (.r 15)), (17, .one (.c (.int .i64 n))), (18, .one (.c (.int .i64 i)))] [(2, some (.box 30 [.c (.int .i64 n), .r 5001])), (5001, some (.ro i5 arcs)), (5100, some (.ro i1 (R out))), (15, some (.vec 3 i1 (R (upto i))))] [2, 15]) (fun i => i ≤ n.toNat) (fun i => n.toNat - i) 0 ?_ ?_ ?_
  · exact (Wk.list [] (by repeat' (first | exact TW.nil | refine TW.cons rfl ?_)) (by repeat' (first | exact HW.nil | refine HW.cons rfl ?_)) rfl)
  · omega
  · intro i h1
    have hl := upto_length i
    have hRl := R_length (upto i)
    repeat' (first
     | ((with_reducible apply v_mv); (iterate 3 (· exact rfl)))
     | ((with_reducible apply v_as); (iterate 3 (· exact rfl)))
     | ((with_reducible apply v_fa); (iterate 6 (· exact rfl)))
     | ((with_reducible apply v_far); (iterate 6 (· exact rfl)))
     | ((with_reducible apply v_ia); (iterate 8 (· exact rfl)); (iterate 2 (· first | omega | (simp only [lens, List.length_map, List.length_range]; omega))))
     | ((with_reducible apply v_lr_i64); (iterate 7 (· exact rfl)); (· first | omega | (simp only [lens, List.length_map, List.length_range]; omega)))
     | ((with_reducible apply v_ld); (iterate 6 (· exact rfl)))
     | ((with_reducible apply v_st); (iterate 7 (· exact rfl)))
     | ((with_reducible apply v_sr); (iterate 7 (· exact rfl)); (· first | omega | (simp only [lens, List.length_map, List.length_range]; omega)))
     | ((with_reducible apply v_srN); (iterate 7 (· exact rfl)); (· repeat' (first | exact RowC.nil | apply RowC.i | apply RowC.b)); (· first | omega | (simp only [lens, List.length_map, List.length_range]; omega)))
     | ((with_reducible apply v_tgt); (iterate 9 (· exact rfl)); (iterate 3 (· first | omega | (simp only [lens, List.length_map, List.length_range]; omega))); (· exact rfl))
     | ((with_reducible apply v_mks); (iterate 10 (· exact rfl)); (iterate 3 (· first | omega | (simp only [lens, List.length_map, List.length_range]; omega))))
     | ((with_reducible apply v_ext); (iterate 5 (· exact rfl)))
     | ((with_reducible apply v_cnv); (iterate 6 (· exact rfl)))
     | ((with_reducible apply v_min); (iterate 4 (· exact rfl)))
     | ((with_reducible apply v_max); (iterate 4 (· exact rfl)))
     | ((with_reducible apply v_ncr); (iterate 4 (· exact rfl)))
     | ((with_reducible apply v_ncp); (iterate 3 (· exact rfl)))
     | ((with_reducible apply v_lr_b); (iterate 7 (· exact rfl)); (· first | omega | (simp only [lens, List.length_map, List.length_range]; omega)))
     | ((with_reducible apply v_lr_u8); (iterate 7 (· exact rfl)); (· first | omega | (simp only [lens, List.length_map, List.length_range]; omega)))
     | ((with_reducible apply v_mkf); (iterate 3 (· exact rfl)))
     | ((with_reducible apply v_lss); (iterate 4 (· exact rfl)))
     | ((with_reducible apply v_leq); (iterate 4 (· exact rfl)))
     | ((with_reducible apply v_gtr); (iterate 4 (· exact rfl)))
     | ((with_reducible apply v_geq); (iterate 4 (· exact rfl)))
     | ((with_reducible apply v_eql); (iterate 4 (· exact rfl)))
     | ((with_reducible apply v_neq); (iterate 4 (· exact rfl)))
     | ((with_reducible apply v_add); (iterate 4 (· exact rfl)); (· first | omega | (simp only [lens, List.length_map, List.length_range]; omega)))
     | ((with_reducible apply v_sub); (iterate 4 (· exact rfl)); (· first | omega | (simp only [lens, List.length_map, List.length_range]; omega)))
     | ((with_reducible apply v_pkT); (iterate 4 (· exact rfl)))
     | ((with_reducible apply v_pkF); (iterate 4 (· exact rfl)))
     | ((with_reducible apply v_not); (iterate 3 (· exact rfl)))
     | ((with_reducible apply v_len); (iterate 5 (· exact rfl)))
     | ((with_reducible apply v_lenn); (iterate 4 (· exact rfl)))
     | ((with_reducible apply v_lit); (iterate 9 (· exact rfl)); (· repeat' (first | exact PartsC.nil | ((apply PartsC.cons); (· exact rfl)) | exact RowC.nil | apply RowC.i | apply RowC.b)))
     | ((with_reducible apply v_ap); (iterate 11 (· exact rfl)); (· first | omega | (simp only [lens, List.length_map, List.length_range]; omega)))
     | ((with_reducible apply v_ap0); (iterate 10 (· exact rfl)); (· first | omega | (simp only [lens, List.length_map, List.length_range]; omega)))
     | ((with_reducible apply v_alc); (iterate 5 (· exact rfl)))
     | ((with_reducible apply v_box); (iterate 4 (· exact rfl)))
     | ((with_reducible apply v_ldN); (iterate 7 (· exact rfl)))
     | ((with_reducible apply v_lrN); (iterate 8 (· exact rfl)); (· first | omega | (simp only [lens, List.length_map, List.length_range]; omega)))
     | ((with_reducible apply v_fld); (iterate 5 (· exact rfl)); (· kernel_rfl))
     | ((with_reducible apply v_bld); (iterate 6 (· exact rfl)))
     | ((with_reducible apply v_no); (iterate 2 (· exact rfl)))
     | ((with_reducible apply v_no'); (· exact rfl))
     | ((with_reducible apply v_ift); (iterate 2 (· exact rfl)); (· infer_instance))
     | ((with_reducible apply v_iff); (iterate 2 (· exact rfl)); (· infer_instance))
     | ((with_reducible apply v_pif); (· exact rfl); (· infer_instance))
     | (with_reducible apply vo_nil0)
     | ((with_reducible apply vo_nil); (· kernel_rfl))
     | (with_reducible apply w_rs)
     | ((with_reducible apply w_ds); (rotate_left); (iterate 2 (· kernel_rfl)))
     | (with_reducible apply w_r)
     | ((with_reducible apply w_d); (rotate_left); (iterate 2 (· kernel_rfl)))
     | (with_reducible apply w_sks)
     | (with_reducible apply W.skp)
     | (with_reducible apply W.ext)
     | (with_reducible apply W.rt)
     | (with_reducible apply w_blk)
     | ((with_reducible apply W.cT); (· exact rfl))
     | ((with_reducible apply W.cF); (· exact rfl))
     | ((with_reducible apply W.cn); (· exact rfl); (· infer_instance))
     | (with_reducible apply W.sq)
     | (with_reducible apply q_tn)
     | (with_reducible apply q_te)
     | (with_reducible apply q_tr)
     | (with_reducible apply q_bn)
     | (with_reducible apply q_br)
     | ((with_reducible apply q_be); (· exact rfl))
     | ((with_reducible apply q_bx); (· exact rfl))
     | (with_reducible apply q_er)
     | (with_reducible apply q_en)
     | (with_reducible apply q_her)
     | (with_reducible apply q_hen)
     | (intro _))
    · refine W.round (i + 1) (Wk.list [(15, 24)] (by repeat' (first | exact TW.nil | refine TW.cons rfl ?_)) (by refine HW.cons rfl (HW.cons rfl (HW.cons rfl (HW.eq rfl ?_ HW.nil))); simp only [Obj.ren]; rw [upto_succ, R_append]; rfl) rfl) (by omega) (by omega)
    have hi : i = n.toNat := by omega
    subst hi
    refine W.lop (X := Nat) (fun q => mk 71 [(2, .one (.r 2)), (5, .one (.r 15)), (26, .one (.r 5100)), (27, .one (.c (.int .i64 (out.length : Int)))), (28, .one (.c (.int .i64 q)))] [(2, some (.box 30 [.c (.int .i64 n), .r 5001])), (5001, some (.ro i5 arcs)), (5100, some (.ro i1 (R out))), (15, some (.vec 3 i1 (R (joinM n.toNat arcs (out.take q)))))] [2, 15]) (fun q => q ≤ out.length) (fun q => out.length - q) 0 ?_ ?_ ?_
    · exact (Wk.list [] (by refine TW.cons rfl (TW.cons rfl (TW.cons rfl (TW.eq rfl ?_ (TW.cons rfl TW.nil)))); simp [AV.ren, Sc.ren, hRo]) (by repeat' (first | exact HW.nil | refine HW.cons rfl ?_)) rfl)
    · omega
    · intro q h2
      have hjl := joinM_length n.toNat arcs (out.take q)
      have hRj := R_length (joinM n.toNat arcs (out.take q))
      by_cases hq : q < out.length
      · have eq : ((q : Nat) : Int).toNat = q := by omega
        have ek : rd (R out) ((q : Nat) : Int).toNat 0 = gt out q := by rw [eq, R_rd hq]; rfl
        have hk := hL _ (gt_mem hq)
        rw [← ek] at hk
        have ha := okM_arc ho (j := (rd (R out) ((q : Nat) : Int).toNat 0).toNat) (by omega)
        have hP : joinM n.toNat arcs (out.take (q + 1)) = jstep arcs (joinM n.toNat arcs (out.take q)) (gt out q) := by
          rw [joinM, List.take_succ_eq_append_getElem hq, List.foldl_append]
          simp only [List.foldl_cons, List.foldl_nil, joinM, gt, List.getD_eq_getElem?_getD, List.getElem?_eq_getElem hq, Option.getD_some]
        generalize hPP : joinM n.toNat arcs (out.take q) = P at *
        repeat' (first
         | ((with_reducible apply v_mv); (iterate 3 (· exact rfl)))
         | ((with_reducible apply v_as); (iterate 3 (· exact rfl)))
         | ((with_reducible apply v_fa); (iterate 6 (· exact rfl)))
         | ((with_reducible apply v_far); (iterate 6 (· exact rfl)))
         | ((with_reducible apply v_ia); (iterate 8 (· exact rfl)); (iterate 2 (· first | omega | (simp only [lens, List.length_map, List.length_range]; omega))))
         | ((with_reducible apply v_lr_i64); (iterate 7 (· exact rfl)); (· first | omega | (simp only [lens, List.length_map, List.length_range]; omega)))
         | ((with_reducible apply v_ld); (iterate 6 (· exact rfl)))
         | ((with_reducible apply v_st); (iterate 7 (· exact rfl)))
         | ((with_reducible apply v_sr); (iterate 7 (· exact rfl)); (· first | omega | (simp only [lens, List.length_map, List.length_range]; omega)))
         | ((with_reducible apply v_srN); (iterate 7 (· exact rfl)); (· repeat' (first | exact RowC.nil | apply RowC.i | apply RowC.b)); (· first | omega | (simp only [lens, List.length_map, List.length_range]; omega)))
         | ((with_reducible apply v_tgt); (iterate 9 (· exact rfl)); (iterate 3 (· first | omega | (simp only [lens, List.length_map, List.length_range]; omega))); (· exact rfl))
         | ((with_reducible apply v_mks); (iterate 10 (· exact rfl)); (iterate 3 (· first | omega | (simp only [lens, List.length_map, List.length_range]; omega))))
         | ((with_reducible apply v_ext); (iterate 5 (· exact rfl)))
         | ((with_reducible apply v_cnv); (iterate 6 (· exact rfl)))
         | ((with_reducible apply v_min); (iterate 4 (· exact rfl)))
         | ((with_reducible apply v_max); (iterate 4 (· exact rfl)))
         | ((with_reducible apply v_ncr); (iterate 4 (· exact rfl)))
         | ((with_reducible apply v_ncp); (iterate 3 (· exact rfl)))
         | ((with_reducible apply v_lr_b); (iterate 7 (· exact rfl)); (· first | omega | (simp only [lens, List.length_map, List.length_range]; omega)))
         | ((with_reducible apply v_lr_u8); (iterate 7 (· exact rfl)); (· first | omega | (simp only [lens, List.length_map, List.length_range]; omega)))
         | ((with_reducible apply v_mkf); (iterate 3 (· exact rfl)))
         | ((with_reducible apply v_lss); (iterate 4 (· exact rfl)))
         | ((with_reducible apply v_leq); (iterate 4 (· exact rfl)))
         | ((with_reducible apply v_gtr); (iterate 4 (· exact rfl)))
         | ((with_reducible apply v_geq); (iterate 4 (· exact rfl)))
         | ((with_reducible apply v_eql); (iterate 4 (· exact rfl)))
         | ((with_reducible apply v_neq); (iterate 4 (· exact rfl)))
         | ((with_reducible apply v_add); (iterate 4 (· exact rfl)); (· first | omega | (simp only [lens, List.length_map, List.length_range]; omega)))
         | ((with_reducible apply v_sub); (iterate 4 (· exact rfl)); (· first | omega | (simp only [lens, List.length_map, List.length_range]; omega)))
         | ((with_reducible apply v_pkT); (iterate 4 (· exact rfl)))
         | ((with_reducible apply v_pkF); (iterate 4 (· exact rfl)))
         | ((with_reducible apply v_not); (iterate 3 (· exact rfl)))
         | ((with_reducible apply v_len); (iterate 5 (· exact rfl)))
         | ((with_reducible apply v_lenn); (iterate 4 (· exact rfl)))
         | ((with_reducible apply v_lit); (iterate 9 (· exact rfl)); (· repeat' (first | exact PartsC.nil | ((apply PartsC.cons); (· exact rfl)) | exact RowC.nil | apply RowC.i | apply RowC.b)))
         | ((with_reducible apply v_ap); (iterate 11 (· exact rfl)); (· first | omega | (simp only [lens, List.length_map, List.length_range]; omega)))
         | ((with_reducible apply v_ap0); (iterate 10 (· exact rfl)); (· first | omega | (simp only [lens, List.length_map, List.length_range]; omega)))
         | ((with_reducible apply v_alc); (iterate 5 (· exact rfl)))
         | ((with_reducible apply v_box); (iterate 4 (· exact rfl)))
         | ((with_reducible apply v_ldN); (iterate 7 (· exact rfl)))
         | ((with_reducible apply v_lrN); (iterate 8 (· exact rfl)); (· first | omega | (simp only [lens, List.length_map, List.length_range]; omega)))
         | ((with_reducible apply v_fld); (iterate 5 (· exact rfl)); (· kernel_rfl))
         | ((with_reducible apply v_bld); (iterate 6 (· exact rfl)))
         | ((with_reducible apply v_no); (iterate 2 (· exact rfl)))
         | ((with_reducible apply v_no'); (· exact rfl))
         | ((with_reducible apply v_ift); (iterate 2 (· exact rfl)); (· infer_instance))
         | ((with_reducible apply v_iff); (iterate 2 (· exact rfl)); (· infer_instance))
         | ((with_reducible apply v_pif); (· exact rfl); (· infer_instance))
         | (with_reducible apply vo_nil0)
         | ((with_reducible apply vo_nil); (· kernel_rfl))
         | (with_reducible apply w_rs)
         | ((with_reducible apply w_ds); (rotate_left); (iterate 2 (· kernel_rfl)))
         | (with_reducible apply w_r)
         | ((with_reducible apply w_d); (rotate_left); (iterate 2 (· kernel_rfl)))
         | (with_reducible apply w_sks)
         | (with_reducible apply W.skp)
         | (with_reducible apply W.ext)
         | (with_reducible apply W.rt)
         | (with_reducible apply w_blk)
         | ((with_reducible apply W.cT); (· exact rfl))
         | ((with_reducible apply W.cF); (· exact rfl))
         | ((with_reducible apply W.cn); (· exact rfl); (· infer_instance))
         | (with_reducible apply W.sq)
         | (with_reducible apply q_tn)
         | (with_reducible apply q_te)
         | (with_reducible apply q_tr)
         | (with_reducible apply q_bn)
         | (with_reducible apply q_br)
         | ((with_reducible apply q_be); (· exact rfl))
         | ((with_reducible apply q_bx); (· exact rfl))
         | (with_reducible apply q_er)
         | (with_reducible apply q_en)
         | (with_reducible apply q_her)
         | (with_reducible apply q_hen)
         | (intro _))
        have eA : rd (R P) (rd arcs (rd (R out) ((q : Nat) : Int).toNat 0).toNat 0).toNat 0 = gt P (rd arcs (gt out q).toNat 0).toNat := by rw [R_rd (by omega), ek]; rfl
        have eB : rd (R P) (rd arcs (rd (R out) ((q : Nat) : Int).toNat 0).toNat 1).toNat 0 = gt P (rd arcs (gt out q).toNat 1).toNat := by rw [R_rd (by omega), ek]; rfl
        rw [eA, eB]
        generalize hA : gt P (rd arcs (gt out q).toNat 0).toNat = A at *
        generalize hB : gt P (rd arcs (gt out q).toNat 1).toNat = B at *
        refine W.lop (X := Nat) (fun v => mk 71 [(2, .one (.r 2)), (5, .one (.r 15)), (26, .one (.r 5100)), (27, .one (.c (.int .i64 (out.length : Int)))), (28, .one (.c (.int .i64 q))), (9, .one (.c (.int .i64 A))), (10, .one (.c (.int .i64 B))), (50, .one (.r 15)), (51, .one (.c (.int .i64 (P.length : Int)))), (52, .one (.c (.int .i64 v)))] [(2, some (.box 30 [.c (.int .i64 n), .r 5001])), (5001, some (.ro i5 arcs)), (5100, some (.ro i1 (R out))), (15, some (.vec 3 i1 (R ((P.map (relab A B)).take v ++ P.drop v))))] [2, 15]) (fun v => v ≤ P.length) (fun v => P.length - v) 0 ?_ ?_ ?_
        · exact (Wk.list [] (by repeat' (first | exact TW.nil | refine TW.cons rfl ?_ | (refine TW.eq rfl ?_ ?_; (· simp [AV.ren, Sc.ren, hRj])))) (by repeat' (first | exact HW.nil | refine HW.cons rfl ?_)) rfl)
        · omega
        · intro v h3
          have hM : ((P.map (relab A B)).take v ++ P.drop v).length = P.length := by simp; omega
          have hRM := R_length ((P.map (relab A B)).take v ++ P.drop v)
          have ev : ((v : Nat) : Int).toNat = v := by omega
          by_cases hv : v < P.length
          · have hg : rd (R ((P.map (relab A B)).take v ++ P.drop v)) ((v : Nat) : Int).toNat 0 = gt P v := by
              rw [ev, R_rd (by omega)]
              simp only [gt, List.getD_eq_getElem?_getD]
              rw [List.getElem?_append_right (by simp; omega), List.getElem?_drop]
              congr 2; simp; omega
            have hts := take_step (relab A B) P hv
            repeat' (first
             | ((with_reducible apply v_mv); (iterate 3 (· exact rfl)))
             | ((with_reducible apply v_as); (iterate 3 (· exact rfl)))
             | ((with_reducible apply v_fa); (iterate 6 (· exact rfl)))
             | ((with_reducible apply v_far); (iterate 6 (· exact rfl)))
             | ((with_reducible apply v_ia); (iterate 8 (· exact rfl)); (iterate 2 (· first | omega | (simp only [lens, List.length_map, List.length_range]; omega))))
             | ((with_reducible apply v_lr_i64); (iterate 7 (· exact rfl)); (· first | omega | (simp only [lens, List.length_map, List.length_range]; omega)))
             | ((with_reducible apply v_ld); (iterate 6 (· exact rfl)))
             | ((with_reducible apply v_st); (iterate 7 (· exact rfl)))
             | ((with_reducible apply v_sr); (iterate 7 (· exact rfl)); (· first | omega | (simp only [lens, List.length_map, List.length_range]; omega)))
             | ((with_reducible apply v_srN); (iterate 7 (· exact rfl)); (· repeat' (first | exact RowC.nil | apply RowC.i | apply RowC.b)); (· first | omega | (simp only [lens, List.length_map, List.length_range]; omega)))
             | ((with_reducible apply v_tgt); (iterate 9 (· exact rfl)); (iterate 3 (· first | omega | (simp only [lens, List.length_map, List.length_range]; omega))); (· exact rfl))
             | ((with_reducible apply v_mks); (iterate 10 (· exact rfl)); (iterate 3 (· first | omega | (simp only [lens, List.length_map, List.length_range]; omega))))
             | ((with_reducible apply v_ext); (iterate 5 (· exact rfl)))
             | ((with_reducible apply v_cnv); (iterate 6 (· exact rfl)))
             | ((with_reducible apply v_min); (iterate 4 (· exact rfl)))
             | ((with_reducible apply v_max); (iterate 4 (· exact rfl)))
             | ((with_reducible apply v_ncr); (iterate 4 (· exact rfl)))
             | ((with_reducible apply v_ncp); (iterate 3 (· exact rfl)))
             | ((with_reducible apply v_lr_b); (iterate 7 (· exact rfl)); (· first | omega | (simp only [lens, List.length_map, List.length_range]; omega)))
             | ((with_reducible apply v_lr_u8); (iterate 7 (· exact rfl)); (· first | omega | (simp only [lens, List.length_map, List.length_range]; omega)))
             | ((with_reducible apply v_mkf); (iterate 3 (· exact rfl)))
             | ((with_reducible apply v_lss); (iterate 4 (· exact rfl)))
             | ((with_reducible apply v_leq); (iterate 4 (· exact rfl)))
             | ((with_reducible apply v_gtr); (iterate 4 (· exact rfl)))
             | ((with_reducible apply v_geq); (iterate 4 (· exact rfl)))
             | ((with_reducible apply v_eql); (iterate 4 (· exact rfl)))
             | ((with_reducible apply v_neq); (iterate 4 (· exact rfl)))
             | ((with_reducible apply v_add); (iterate 4 (· exact rfl)); (· first | omega | (simp only [lens, List.length_map, List.length_range]; omega)))
             | ((with_reducible apply v_sub); (iterate 4 (· exact rfl)); (· first | omega | (simp only [lens, List.length_map, List.length_range]; omega)))
             | ((with_reducible apply v_pkT); (iterate 4 (· exact rfl)))
             | ((with_reducible apply v_pkF); (iterate 4 (· exact rfl)))
             | ((with_reducible apply v_not); (iterate 3 (· exact rfl)))
             | ((with_reducible apply v_len); (iterate 5 (· exact rfl)))
             | ((with_reducible apply v_lenn); (iterate 4 (· exact rfl)))
             | ((with_reducible apply v_lit); (iterate 9 (· exact rfl)); (· repeat' (first | exact PartsC.nil | ((apply PartsC.cons); (· exact rfl)) | exact RowC.nil | apply RowC.i | apply RowC.b)))
             | ((with_reducible apply v_ap); (iterate 11 (· exact rfl)); (· first | omega | (simp only [lens, List.length_map, List.length_range]; omega)))
             | ((with_reducible apply v_ap0); (iterate 10 (· exact rfl)); (· first | omega | (simp only [lens, List.length_map, List.length_range]; omega)))
             | ((with_reducible apply v_alc); (iterate 5 (· exact rfl)))
             | ((with_reducible apply v_box); (iterate 4 (· exact rfl)))
             | ((with_reducible apply v_ldN); (iterate 7 (· exact rfl)))
             | ((with_reducible apply v_lrN); (iterate 8 (· exact rfl)); (· first | omega | (simp only [lens, List.length_map, List.length_range]; omega)))
             | ((with_reducible apply v_fld); (iterate 5 (· exact rfl)); (· kernel_rfl))
             | ((with_reducible apply v_bld); (iterate 6 (· exact rfl)))
             | ((with_reducible apply v_no); (iterate 2 (· exact rfl)))
             | ((with_reducible apply v_no'); (· exact rfl))
             | ((with_reducible apply v_ift); (iterate 2 (· exact rfl)); (· infer_instance))
             | ((with_reducible apply v_iff); (iterate 2 (· exact rfl)); (· infer_instance))
             | ((with_reducible apply v_pif); (· exact rfl); (· infer_instance))
             | (with_reducible apply vo_nil0)
             | ((with_reducible apply vo_nil); (· kernel_rfl))
             | (with_reducible apply w_rs)
             | ((with_reducible apply w_ds); (rotate_left); (iterate 2 (· kernel_rfl)))
             | (with_reducible apply w_r)
             | ((with_reducible apply w_d); (rotate_left); (iterate 2 (· kernel_rfl)))
             | (with_reducible apply w_sks)
             | (with_reducible apply W.skp)
             | (with_reducible apply W.ext)
             | (with_reducible apply W.rt)
             | (with_reducible apply w_blk)
             | ((with_reducible apply W.cT); (· exact rfl))
             | ((with_reducible apply W.cF); (· exact rfl))
             | ((with_reducible apply W.cn); (· exact rfl); (· infer_instance))
             | (with_reducible apply W.sq)
             | (with_reducible apply q_tn)
             | (with_reducible apply q_te)
             | (with_reducible apply q_tr)
             | (with_reducible apply q_bn)
             | (with_reducible apply q_br)
             | ((with_reducible apply q_be); (· exact rfl))
             | ((with_reducible apply q_bx); (· exact rfl))
             | (with_reducible apply q_er)
             | (with_reducible apply q_en)
             | (with_reducible apply q_her)
             | (with_reducible apply q_hen)
             | (intro _))
            · rename_i hc
              rw [hg] at hc
              refine W.round (v + 1) (Wk.list [] (by repeat' (first | exact TW.nil | refine TW.cons rfl ?_)) (by refine HW.cons rfl (HW.cons rfl (HW.cons rfl (HW.eq rfl ?_ HW.nil))); simp only [Obj.ren, ev]; rw [R_set _ (by omega), hts, relab, if_pos hc]) rfl) (by omega) (by omega)
            · rename_i hc
              rw [hg] at hc
              refine W.round (v + 1) (Wk.list [] (by repeat' (first | exact TW.nil | refine TW.cons rfl ?_)) (by refine HW.cons rfl (HW.cons rfl (HW.cons rfl (HW.eq rfl ?_ HW.nil))); simp only [Obj.ren]; rw [hts, relab, if_neg hc]; rw [set_same _ (by omega) (by rw [← hg, ev, R_rd (by omega)]; rfl)]) rfl) (by omega) (by omega)
            · exfalso; omega
          · have : v = P.length := by omega
            subst this
            repeat' (first
             | ((with_reducible apply v_mv); (iterate 3 (· exact rfl)))
             | ((with_reducible apply v_as); (iterate 3 (· exact rfl)))
             | ((with_reducible apply v_fa); (iterate 6 (· exact rfl)))
             | ((with_reducible apply v_far); (iterate 6 (· exact rfl)))
             | ((with_reducible apply v_ia); (iterate 8 (· exact rfl)); (iterate 2 (· first | omega | (simp only [lens, List.length_map, List.length_range]; omega))))
             | ((with_reducible apply v_lr_i64); (iterate 7 (· exact rfl)); (· first | omega | (simp only [lens, List.length_map, List.length_range]; omega)))
             | ((with_reducible apply v_ld); (iterate 6 (· exact rfl)))
             | ((with_reducible apply v_st); (iterate 7 (· exact rfl)))
             | ((with_reducible apply v_sr); (iterate 7 (· exact rfl)); (· first | omega | (simp only [lens, List.length_map, List.length_range]; omega)))
             | ((with_reducible apply v_srN); (iterate 7 (· exact rfl)); (· repeat' (first | exact RowC.nil | apply RowC.i | apply RowC.b)); (· first | omega | (simp only [lens, List.length_map, List.length_range]; omega)))
             | ((with_reducible apply v_tgt); (iterate 9 (· exact rfl)); (iterate 3 (· first | omega | (simp only [lens, List.length_map, List.length_range]; omega))); (· exact rfl))
             | ((with_reducible apply v_mks); (iterate 10 (· exact rfl)); (iterate 3 (· first | omega | (simp only [lens, List.length_map, List.length_range]; omega))))
             | ((with_reducible apply v_ext); (iterate 5 (· exact rfl)))
             | ((with_reducible apply v_cnv); (iterate 6 (· exact rfl)))
             | ((with_reducible apply v_min); (iterate 4 (· exact rfl)))
             | ((with_reducible apply v_max); (iterate 4 (· exact rfl)))
             | ((with_reducible apply v_ncr); (iterate 4 (· exact rfl)))
             | ((with_reducible apply v_ncp); (iterate 3 (· exact rfl)))
             | ((with_reducible apply v_lr_b); (iterate 7 (· exact rfl)); (· first | omega | (simp only [lens, List.length_map, List.length_range]; omega)))
             | ((with_reducible apply v_lr_u8); (iterate 7 (· exact rfl)); (· first | omega | (simp only [lens, List.length_map, List.length_range]; omega)))
             | ((with_reducible apply v_mkf); (iterate 3 (· exact rfl)))
             | ((with_reducible apply v_lss); (iterate 4 (· exact rfl)))
             | ((with_reducible apply v_leq); (iterate 4 (· exact rfl)))
             | ((with_reducible apply v_gtr); (iterate 4 (· exact rfl)))
             | ((with_reducible apply v_geq); (iterate 4 (· exact rfl)))
             | ((with_reducible apply v_eql); (iterate 4 (· exact rfl)))
             | ((with_reducible apply v_neq); (iterate 4 (· exact rfl)))
             | ((with_reducible apply v_add); (iterate 4 (· exact rfl)); (· first | omega | (simp only [lens, List.length_map, List.length_range]; omega)))
             | ((with_reducible apply v_sub); (iterate 4 (· exact rfl)); (· first | omega | (simp only [lens, List.length_map, List.length_range]; omega)))
             | ((with_reducible apply v_pkT); (iterate 4 (· exact rfl)))
             | ((with_reducible apply v_pkF); (iterate 4 (· exact rfl)))
             | ((with_reducible apply v_not); (iterate 3 (· exact rfl)))
             | ((with_reducible apply v_len); (iterate 5 (· exact rfl)))
             | ((with_reducible apply v_lenn); (iterate 4 (· exact rfl)))
             | ((with_reducible apply v_lit); (iterate 9 (· exact rfl)); (· repeat' (first | exact PartsC.nil | ((apply PartsC.cons); (· exact rfl)) | exact RowC.nil | apply RowC.i | apply RowC.b)))
             | ((with_reducible apply v_ap); (iterate 11 (· exact rfl)); (· first | omega | (simp only [lens, List.length_map, List.length_range]; omega)))
             | ((with_reducible apply v_ap0); (iterate 10 (· exact rfl)); (· first | omega | (simp only [lens, List.length_map, List.length_range]; omega)))
             | ((with_reducible apply v_alc); (iterate 5 (· exact rfl)))
             | ((with_reducible apply v_box); (iterate 4 (· exact rfl)))
             | ((with_reducible apply v_ldN); (iterate 7 (· exact rfl)))
             | ((with_reducible apply v_lrN); (iterate 8 (· exact rfl)); (· first | omega | (simp only [lens, List.length_map, List.length_range]; omega)))
             | ((with_reducible apply v_fld); (iterate 5 (· exact rfl)); (· kernel_rfl))
             | ((with_reducible apply v_bld); (iterate 6 (· exact rfl)))
             | ((with_reducible apply v_no); (iterate 2 (· exact rfl)))
             | ((with_reducible apply v_no'); (· exact rfl))
             | ((with_reducible apply v_ift); (iterate 2 (· exact rfl)); (· infer_instance))
             | ((with_reducible apply v_iff); (iterate 2 (· exact rfl)); (· infer_instance))
             | ((with_reducible apply v_pif); (· exact rfl); (· infer_instance))
             | (with_reducible apply vo_nil0)
             | ((with_reducible apply vo_nil); (· kernel_rfl))
             | (with_reducible apply w_rs)
             | ((with_reducible apply w_ds); (rotate_left); (iterate 2 (· kernel_rfl)))
             | (with_reducible apply w_r)
             | ((with_reducible apply w_d); (rotate_left); (iterate 2 (· kernel_rfl)))
             | (with_reducible apply w_sks)
             | (with_reducible apply W.skp)
             | (with_reducible apply W.ext)
             | (with_reducible apply W.rt)
             | (with_reducible apply w_blk)
             | ((with_reducible apply W.cT); (· exact rfl))
             | ((with_reducible apply W.cF); (· exact rfl))
             | ((with_reducible apply W.cn); (· exact rfl); (· infer_instance))
             | (with_reducible apply W.sq)
             | (with_reducible apply q_tn)
             | (with_reducible apply q_te)
             | (with_reducible apply q_tr)
             | (with_reducible apply q_bn)
             | (with_reducible apply q_br)
             | ((with_reducible apply q_be); (· exact rfl))
             | ((with_reducible apply q_bx); (· exact rfl))
             | (with_reducible apply q_er)
             | (with_reducible apply q_en)
             | (with_reducible apply q_her)
             | (with_reducible apply q_hen)
             | (intro _))
            all_goals first
              | (exfalso; omega)
              | skip
            · refine W.round (q + 1) (Wk.list [] (by repeat' (first | exact TW.nil | refine TW.cons rfl ?_)) (by refine HW.cons rfl (HW.cons rfl (HW.cons rfl (HW.eq rfl ?_ HW.nil))); simp only [Obj.ren]; rw [hP, jstep, hA, hB, List.take_of_length_le (by simp), List.drop_length, List.append_nil]) rfl) (by omega) (by omega)
        · exfalso; omega
      · have : q = out.length := by omega
        subst this
        repeat' (first
         | ((with_reducible apply v_mv); (iterate 3 (· exact rfl)))
         | ((with_reducible apply v_as); (iterate 3 (· exact rfl)))
         | ((with_reducible apply v_fa); (iterate 6 (· exact rfl)))
         | ((with_reducible apply v_far); (iterate 6 (· exact rfl)))
         | ((with_reducible apply v_ia); (iterate 8 (· exact rfl)); (iterate 2 (· first | omega | (simp only [lens, List.length_map, List.length_range]; omega))))
         | ((with_reducible apply v_lr_i64); (iterate 7 (· exact rfl)); (· first | omega | (simp only [lens, List.length_map, List.length_range]; omega)))
         | ((with_reducible apply v_ld); (iterate 6 (· exact rfl)))
         | ((with_reducible apply v_st); (iterate 7 (· exact rfl)))
         | ((with_reducible apply v_sr); (iterate 7 (· exact rfl)); (· first | omega | (simp only [lens, List.length_map, List.length_range]; omega)))
         | ((with_reducible apply v_srN); (iterate 7 (· exact rfl)); (· repeat' (first | exact RowC.nil | apply RowC.i | apply RowC.b)); (· first | omega | (simp only [lens, List.length_map, List.length_range]; omega)))
         | ((with_reducible apply v_tgt); (iterate 9 (· exact rfl)); (iterate 3 (· first | omega | (simp only [lens, List.length_map, List.length_range]; omega))); (· exact rfl))
         | ((with_reducible apply v_mks); (iterate 10 (· exact rfl)); (iterate 3 (· first | omega | (simp only [lens, List.length_map, List.length_range]; omega))))
         | ((with_reducible apply v_ext); (iterate 5 (· exact rfl)))
         | ((with_reducible apply v_cnv); (iterate 6 (· exact rfl)))
         | ((with_reducible apply v_min); (iterate 4 (· exact rfl)))
         | ((with_reducible apply v_max); (iterate 4 (· exact rfl)))
         | ((with_reducible apply v_ncr); (iterate 4 (· exact rfl)))
         | ((with_reducible apply v_ncp); (iterate 3 (· exact rfl)))
         | ((with_reducible apply v_lr_b); (iterate 7 (· exact rfl)); (· first | omega | (simp only [lens, List.length_map, List.length_range]; omega)))
         | ((with_reducible apply v_lr_u8); (iterate 7 (· exact rfl)); (· first | omega | (simp only [lens, List.length_map, List.length_range]; omega)))
         | ((with_reducible apply v_mkf); (iterate 3 (· exact rfl)))
         | ((with_reducible apply v_lss); (iterate 4 (· exact rfl)))
         | ((with_reducible apply v_leq); (iterate 4 (· exact rfl)))
         | ((with_reducible apply v_gtr); (iterate 4 (· exact rfl)))
         | ((with_reducible apply v_geq); (iterate 4 (· exact rfl)))
         | ((with_reducible apply v_eql); (iterate 4 (· exact rfl)))
         | ((with_reducible apply v_neq); (iterate 4 (· exact rfl)))
         | ((with_reducible apply v_add); (iterate 4 (· exact rfl)); (· first | omega | (simp only [lens, List.length_map, List.length_range]; omega)))
         | ((with_reducible apply v_sub); (iterate 4 (· exact rfl)); (· first | omega | (simp only [lens, List.length_map, List.length_range]; omega)))
         | ((with_reducible apply v_pkT); (iterate 4 (· exact rfl)))
         | ((with_reducible apply v_pkF); (iterate 4 (· exact rfl)))
         | ((with_reducible apply v_not); (iterate 3 (· exact rfl)))
         | ((with_reducible apply v_len); (iterate 5 (· exact rfl)))
         | ((with_reducible apply v_lenn); (iterate 4 (· exact rfl)))
         | ((with_reducible apply v_lit); (iterate 9 (· exact rfl)); (· repeat' (first | exact PartsC.nil | ((apply PartsC.cons); (· exact rfl)) | exact RowC.nil | apply RowC.i | apply RowC.b)))
         | ((with_reducible apply v_ap); (iterate 11 (· exact rfl)); (· first | omega | (simp only [lens, List.length_map, List.length_range]; omega)))
         | ((with_reducible apply v_ap0); (iterate 10 (· exact rfl)); (· first | omega | (simp only [lens, List.length_map, List.length_range]; omega)))
         | ((with_reducible apply v_alc); (iterate 5 (· exact rfl)))
         | ((with_reducible apply v_box); (iterate 4 (· exact rfl)))
         | ((with_reducible apply v_ldN); (iterate 7 (· exact rfl)))
         | ((with_reducible apply v_lrN); (iterate 8 (· exact rfl)); (· first | omega | (simp only [lens, List.length_map, List.length_range]; omega)))
         | ((with_reducible apply v_fld); (iterate 5 (· exact rfl)); (· kernel_rfl))
         | ((with_reducible apply v_bld); (iterate 6 (· exact rfl)))
         | ((with_reducible apply v_no); (iterate 2 (· exact rfl)))
         | ((with_reducible apply v_no'); (· exact rfl))
         | ((with_reducible apply v_ift); (iterate 2 (· exact rfl)); (· infer_instance))
         | ((with_reducible apply v_iff); (iterate 2 (· exact rfl)); (· infer_instance))
         | ((with_reducible apply v_pif); (· exact rfl); (· infer_instance))
         | (with_reducible apply vo_nil0)
         | ((with_reducible apply vo_nil); (· kernel_rfl))
         | (with_reducible apply w_rs)
         | ((with_reducible apply w_ds); (rotate_left); (iterate 2 (· kernel_rfl)))
         | (with_reducible apply w_r)
         | ((with_reducible apply w_d); (rotate_left); (iterate 2 (· kernel_rfl)))
         | (with_reducible apply w_sks)
         | (with_reducible apply W.skp)
         | (with_reducible apply W.ext)
         | (with_reducible apply W.rt)
         | (with_reducible apply w_blk)
         | ((with_reducible apply W.cT); (· exact rfl))
         | ((with_reducible apply W.cF); (· exact rfl))
         | ((with_reducible apply W.cn); (· exact rfl); (· infer_instance))
         | (with_reducible apply W.sq)
         | (with_reducible apply q_tn)
         | (with_reducible apply q_te)
         | (with_reducible apply q_tr)
         | (with_reducible apply q_bn)
         | (with_reducible apply q_br)
         | ((with_reducible apply q_be); (· exact rfl))
         | ((with_reducible apply q_bx); (· exact rfl))
         | (with_reducible apply q_er)
         | (with_reducible apply q_en)
         | (with_reducible apply q_her)
         | (with_reducible apply q_hen)
         | (intro _))
        · exfalso; omega
        · exact e_vec rfl rfl rfl (by rw [List.take_length])
end Go.AM
set_option linter.unusedVariables false
set_option linter.unusedSimpArgs false
set_option maxRecDepth 4000
namespace Go.AM
open Go.Proofs

def tstep (n : Nat) (arcs : List (List Int)) (out : List Int) (k : Int) : List Int :=
  if gt (joinM n arcs out) (rd arcs k.toNat 0).toNat ≠ gt (joinM n arcs out) (rd arcs k.toNat 1).toNat then out ++ [k] else out
def ordM (arcs : List (List Int)) : List Int := srt (keyA arcs) (upto arcs.length) arcs.length
def treeI (n : Nat) (arcs : List (List Int)) : List Int := (ordM arcs).foldl (tstep n arcs) []
theorem ordM_length (arcs : List (List Int)) : (ordM arcs).length = arcs.length := by rw [ordM, srt_length, upto_length]
theorem ordM_mem (arcs : List (List Int)) : ∀ x ∈ ordM arcs, 0 ≤ x ∧ x < arcs.length := fun x hx => upto_mem.1 (srt_mem _ _ _ (by rw [upto_length]; omega) x hx)
theorem foldt_spec (n : Nat) (arcs : List (List Int)) : ∀ (l out : List Int), (l.foldl (tstep n arcs) out).length ≤ out.length + l.length ∧ ∀ x ∈ l.foldl (tstep n arcs) out, x ∈ out ∨ x ∈ l
  | [], out => ⟨by simp, fun x hx => .inl hx⟩
  | k :: l, out => by
    obtain ⟨h1, h2⟩ := foldt_spec n arcs l (tstep n arcs out k)
    rw [List.foldl_cons]
    have h3 : (tstep n arcs out k).length ≤ out.length + 1 := by unfold tstep; split <;> simp
    refine ⟨by simp only [List.length_cons]; omega, fun x hx => ?_⟩
    rcases h2 x hx with h | h
    · unfold tstep at h
      split at h
      · rcases List.mem_append.1 h with h | h
        · exact .inl h
        · simp at h; exact .inr (by simp [h])
      · exact .inl h
    · exact .inr (by simp [h])

theorem c_32 (n : Int) (arcs : List (List Int)) (hl : arcs.length < 1000000000000) : OK Try.prog 32 [dNet n arcs] (dL (if okM n arcs = true then treeI n.toNat arcs else [])) := by
  refine W.fn 72 [.tmp 2] hTT Try.func32 rfl rfl rfl rfl rfl rfl rfl rfl ?_
  repeat' (first
   | ((with_reducible apply v_call 4000000 (c_35 _ _ hl)); (iterate 3 (· exact rfl)); (· repeat' (first | exact DVsOf.nil | apply DVsOf.cons | apply DVof.one | apply DVof.agg | exact DCof.c | exact DCof.nil | exact DCof.nils | ((apply DCof.r); (iterate 2 (· exact rfl))) | ((apply DCof.rs); (iterate 2 (· exact rfl))) | ((apply DCof.mu); (· exact rfl)) | exact DCsOf.nil | apply DCsOf.cons | ((apply DVof_mp); (· exact rfl)) | ((apply DVof_ptr); (iterate 2 (· exact rfl))) | apply DVof.fn | exact DPsOf.nil | ((apply DPsOf_cons); (iterate 2 (· exact rfl))) | exact rfl)); (iterate 4 (· exact rfl)))
   | ((with_reducible apply v_mv); (iterate 3 (· exact rfl)))
   | ((with_reducible apply v_as); (iterate 3 (· exact rfl)))
   | ((with_reducible apply v_fa); (iterate 6 (· exact rfl)))
   | ((with_reducible apply v_far); (iterate 6 (· exact rfl)))
   | ((with_reducible apply v_ia); (iterate 8 (· exact rfl)); (iterate 2 (· first | omega | (simp only [lens, List.length_map, List.length_range]; omega))))
   | ((with_reducible apply v_lr_i64); (iterate 7 (· exact rfl)); (· first | omega | (simp only [lens, List.length_map, List.length_range]; omega)))
   | ((with_reducible apply v_ld); (iterate 6 (· exact rfl)))
   | ((with_reducible apply v_st); (iterate 7 (· exact rfl)))
   | ((with_reducible apply v_sr); (iterate 7 (· exact rfl)); (· first | omega | (simp only [lens, List.length_map, List.length_range]; omega)))
   | ((with_reducible apply v_srN); (iterate 7 (· exact rfl)); (· repeat' (first | exact RowC.nil | apply RowC.i | apply RowC.b)); (· first | omega | (simp only [lens, List.length_map, List.length_range]; omega)))
   | ((with_reducible apply v_tgt); (iterate 9 (· exact rfl)); (iterate 3 (· first | omega | (simp only [lens, List.length_map, List.length_range]; omega))); (· exact rfl))
   | ((with_reducible apply v_mks); (iterate 10 (· exact rfl)); (iterate 3 (· first | omega | (simp only [lens, List.length_map, List.length_range]; omega))))
   | ((with_reducible apply v_ext); (iterate 5 (· exact rfl)))
   | ((with_reducible apply v_cnv); (iterate 6 (· exact rfl)))
   | ((with_reducible apply v_min); (iterate 4 (· exact rfl)))
   | ((with_reducible apply v_max); (iterate 4 (· exact rfl)))
   | ((with_reducible apply v_ncr); (iterate 4 (· exact rfl)))
   | ((with_reducible apply v_ncp); (iterate 3 (· exact rfl)))
   | ((with_reducible apply v_lr_b); (iterate 7 (· exact rfl)); (· first | omega | (simp only [lens, List.length_map, List.length_range]; omega)))
   | ((with_reducible apply v_lr_u8); (iterate 7 (· exact rfl)); (· first | omega | (simp only [lens, List.length_map, List.length_range]; omega)))
   | ((with_reducible apply v_mkf); (iterate 3 (· exact rfl)))
   | ((with_reducible apply v_lss); (iterate 4 (· exact rfl)))
   | ((with_reducible apply v_leq); (iterate 4 (· exact rfl)))
   | ((with_reducible apply v_gtr); (iterate 4 (· exact rfl)))
   | ((with_reducible apply v_geq); (iterate 4 (· exact rfl)))
   | ((with_reducible apply v_eql); (iterate 4 (· exact rfl)))
   | ((with_reducible apply v_neq); (iterate 4 (· exact rfl)))
   | ((with_reducible apply v_add); (iterate 4 (· exact rfl)); (· first | omega | (simp only [lens, List.length_map, List.length_range]; omega)))
   | ((with_reducible apply v_sub); (iterate 4 (· exact rfl)); (· first | omega | (simp only [lens, List.length_map, List.length_range]; omega)))
   | ((with_reducible apply v_pkT); (iterate 4 (· exact rfl)))
   | ((with_reducible apply v_pkF); (iterate 4 (· exact rfl)))
   | ((with_reducible apply v_not); (iterate 3 (· exact rfl)))
   | ((with_reducible apply v_len); (iterate 5 (· exact rfl)))
   | ((with_reducible apply v_lenn); (iterate 4 (· exact rfl)))
   | ((with_reducible apply v_lit); (iterate 9 (· exact rfl)); (· repeat' (first | exact PartsC.nil | ((apply PartsC.cons); (· exact rfl)) | exact RowC.nil | apply RowC.i | apply RowC.b)))
   | ((with_reducible apply v_ap); (iterate 11 (· exact rfl)); (· first | omega | (simp only [lens, List.length_map, List.length_range]; omega)))
   | ((with_reducible apply v_ap0); (iterate 10 (· exact rfl)); (· first | omega | (simp only [lens, List.length_map, List.length_range]; omega)))
   | ((with_reducible apply v_alc); (iterate 5 (· exact rfl)))
   | ((with_reducible apply v_box); (iterate 4 (· exact rfl)))
   | ((with_reducible apply v_ldN); (iterate 7 (· exact rfl)))
   | ((with_reducible apply v_lrN); (iterate 8 (· exact rfl)); (· first | omega | (simp only [lens, List.length_map, List.length_range]; omega)))
   | ((with_reducible apply v_fld); (iterate 5 (· exact rfl)); (· kernel_rfl))
   | ((with_reducible apply v_bld); (iterate 6 (· exact rfl)))
   | ((with_reducible apply v_no); (iterate 2 (· exact rfl)))
   | ((with_reducible apply v_no'); (· exact rfl))
   | ((with_reducible apply v_ift); (iterate 2 (· exact rfl)); (· infer_instance))
   | ((with_reducible apply v_iff); (iterate 2 (· exact rfl)); (· infer_instance))
   | ((with_reducible apply v_pif); (· exact rfl); (· infer_instance))
   | (with_reducible apply vo_nil0)
   | ((with_reducible apply vo_nil); (· kernel_rfl))
   | (with_reducible apply w_rs)
   | ((with_reducible apply w_ds); (rotate_left); (iterate 2 (· kernel_rfl)))
   | (with_reducible apply w_r)
   | ((with_reducible apply w_d); (rotate_left); (iterate 2 (· kernel_rfl)))
   | (with_reducible apply w_sks)
   | (with_reducible apply W.skp)
   | (with_reducible apply W.ext)
   | (with_reducible apply W.rt)
   | (with_reducible apply w_blk)
   | ((with_reducible apply W.cT); (· exact rfl))
   | ((with_reducible apply W.cF); (· exact rfl))
   | ((with_reducible apply W.cn); (· exact rfl); (· infer_instance))
   | (with_reducible apply W.sq)
   | (with_reducible apply q_tn)
   | (with_reducible apply q_te)
   | (with_reducible apply q_tr)
   | (with_reducible apply q_bn)
   | (with_reducible apply q_br)
   | ((with_reducible apply q_be); (· exact rfl))
   | ((with_reducible apply q_bx); (· exact rfl))
   | (with_reducible apply q_er)
   | (with_reducible apply q_en)
   | (with_reducible apply q_her)
   | (with_reducible apply q_hen)
   | (intro _))
  · rename_i hno
    exact e_nil rfl rfl (by rw [if_neg (by simpa using hno)]; rfl)
  rename_i hok
  have ho : okM n arcs = true := by simpa using hok
  obtain ⟨hn, hal⟩ := okM_n ho
  rw [if_pos ho]
  refine W.lop (X := Nat) (fun i => mk 72 [(1, .one (.r 1)), (3, .one (.r 15)), (18, .one (.c (.int .i64 (arcs.length : Int)))), (19, .one (.c (.int .i64 i)))] [(1, some (.box 30 [.c (.int .i64 n), .r 5001])), (5001, some (.ro i5 arcs)), (15, some (.vec 3 i1 (R (upto i))))] [1, 15]) (fun i => i ≤ arcs.length) (fun i => arcs.length - i) 0 ?_ ?_ ?_
  · exact (Wk.list [] (by repeat' (first | exact TW.nil | refine TW.cons rfl ?_)) (by repeat' (first | exact HW.nil | refine HW.cons rfl ?_)) rfl)
  · omega
  · intro i h1
    have hul := upto_length i
    have hRl := R_length (upto i)
    repeat' (first
     | ((with_reducible apply v_mv); (iterate 3 (· exact rfl)))
     | ((with_reducible apply v_as); (iterate 3 (· exact rfl)))
     | ((with_reducible apply v_fa); (iterate 6 (· exact rfl)))
     | ((with_reducible apply v_far); (iterate 6 (· exact rfl)))
     | ((with_reducible apply v_ia); (iterate 8 (· exact rfl)); (iterate 2 (· first | omega | (simp only [lens, List.length_map, List.length_range]; omega))))
     | ((with_reducible apply v_lr_i64); (iterate 7 (· exact rfl)); (· first | omega | (simp only [lens, List.length_map, List.length_range]; omega)))
     | ((with_reducible apply v_ld); (iterate 6 (· exact rfl)))
     | ((with_reducible apply v_st); (iterate 7 (· exact rfl)))
     | ((with_reducible apply v_sr); (iterate 7 (· exact rfl)); (· first | omega | (simp only [lens, List.length_map, List.length_range]; omega)))
     | ((with_reducible apply v_srN); (iterate 7 (· exact rfl)); (· repeat' (first | exact RowC.nil | apply RowC.i | apply RowC.b)); (· first | omega | (simp only [lens, List.length_map, List.length_range]; omega)))
     | ((with_reducible apply v_tgt); (iterate 9 (· exact rfl)); (iterate 3 (· first | omega | (simp only [lens, List.length_map, List.length_range]; omega))); (· exact rfl))
     | ((with_reducible apply v_mks); (iterate 10 (· exact rfl)); (iterate 3 (· first | omega | (simp only [lens, List.length_map, List.length_range]; omega))))
     | ((with_reducible apply v_ext); (iterate 5 (· exact rfl)))
     | ((with_reducible apply v_cnv); (iterate 6 (· exact rfl)))
     | ((with_reducible apply v_min); (iterate 4 (· exact rfl)))
     | ((with_reducible apply v_max); (iterate 4 (· exact rfl)))
     | ((with_reducible apply v_ncr); (iterate 4 (· exact rfl)))
     | ((with_reducible apply v_ncp); (iterate 3 (· exact rfl)))
     | ((with_reducible apply v_lr_b); (iterate 7 (· exact rfl)); (· first | omega | (simp only [lens, List.length_map, List.length_range]; omega)))
     | ((with_reducible apply v_lr_u8); (iterate 7 (· exact rfl)); (· first | omega | (simp only [lens, List.length_map, List.length_range]; omega)))
     | ((with_reducible apply v_mkf); (iterate 3 (· exact rfl)))
     | ((with_reducible apply v_lss); (iterate 4 (· exact rfl)))
     | ((with_reducible apply v_leq); (iterate 4 (· exact rfl)))
     | ((with_reducible apply v_gtr); (iterate 4 (· exact rfl)))
     | ((with_reducible apply v_geq); (iterate 4 (· exact rfl)))
     | ((with_reducible apply v_eql); (iterate 4 (· exact rfl)))
     | ((with_reducible apply v_neq); (iterate 4 (· exact rfl)))
     | ((with_reducible apply v_add); (iterate 4 (· exact rfl)); (· first | omega | (simp only [lens, List.length_map, List.length_range]; omega)))
     | ((with_reducible apply v_sub); (iterate 4 (· exact rfl)); (· first | omega | (simp only [lens, List.length_map, List.length_range]; omega)))
     | ((with_reducible apply v_pkT); (iterate 4 (· exact rfl)))
     | ((with_reducible apply v_pkF); (iterate 4 (· exact rfl)))
     | ((with_reducible apply v_not); (iterate 3 (· exact rfl)))
     | ((with_reducible apply v_len); (iterate 5 (· exact rfl)))
     | ((with_reducible apply v_lenn); (iterate 4 (· exact rfl)))
     | ((with_reducible apply v_lit); (iterate 9 (· exact rfl)); (· repeat' (first | exact PartsC.nil | ((apply PartsC.cons); (· exact rfl)) | exact RowC.nil | apply RowC.i | apply RowC.b)))
     | ((with_reducible apply v_ap); (iterate 11 (· exact rfl)); (· first | omega | (simp only [lens, List.length_map, List.length_range]; omega)))
     | ((with_reducible apply v_ap0); (iterate 10 (· exact rfl)); (· first | omega | (simp only [lens, List.length_map, List.length_range]; omega)))
     | ((with_reducible apply v_alc); (iterate 5 (· exact rfl)))
     | ((with_reducible apply v_box); (iterate 4 (· exact rfl)))
     | ((with_reducible apply v_ldN); (iterate 7 (· exact rfl)))
     | ((with_reducible apply v_lrN); (iterate 8 (· exact rfl)); (· first | omega | (simp only [lens, List.length_map, List.length_range]; omega)))
     | ((with_reducible apply v_fld); (iterate 5 (· exact rfl)); (· kernel_rfl))
     | ((with_reducible apply v_bld); (iterate 6 (· exact rfl)))
     | ((with_reducible apply v_no); (iterate 2 (· exact rfl)))
     | ((with_reducible apply v_no'); (· exact rfl))
     | ((with_reducible apply v_ift); (iterate 2 (· exact rfl)); (· infer_instance))
     | ((with_reducible apply v_iff); (iterate 2 (· exact rfl)); (· infer_instance))
     | ((with_reducible apply v_pif); (· exact rfl); (· infer_instance))
     | (with_reducible apply vo_nil0)
     | ((with_reducible apply vo_nil); (· kernel_rfl))
     | (with_reducible apply w_rs)
     | ((with_reducible apply w_ds); (rotate_left); (iterate 2 (· kernel_rfl)))
     | (with_reducible apply w_r)
     | ((with_reducible apply w_d); (rotate_left); (iterate 2 (· kernel_rfl)))
     | (with_reducible apply w_sks)
     | (with_reducible apply W.skp)
     | (with_reducible apply W.ext)
     | (with_reducible apply W.rt)
     | (with_reducible apply w_blk)
     | ((with_reducible apply W.cT); (· exact rfl))
     | ((with_reducible apply W.cF); (· exact rfl))
     | ((with_reducible apply W.cn); (· exact rfl); (· infer_instance))
     | (with_reducible apply W.sq)
     | (with_reducible apply q_tn)
     | (with_reducible apply q_te)
     | (with_reducible apply q_tr)
     | (with_reducible apply q_bn)
     | (with_reducible apply q_br)
     | ((with_reducible apply q_be); (· exact rfl))
     | ((with_reducible apply q_bx); (· exact rfl))
     | (with_reducible apply q_er)
     | (with_reducible apply q_en)
     | (with_reducible apply q_her)
     | (with_reducible apply q_hen)
     | (intro _))
    · refine W.round (i + 1) (Wk.list [(15, 25)] (by repeat' (first | exact TW.nil | refine TW.cons rfl ?_)) (by refine HW.cons rfl (HW.cons rfl (HW.eq rfl ?_ HW.nil)); simp only [Obj.ren]; rw [upto_succ, R_append]; rfl) rfl) (by omega) (by omega)
    have hi : i = arcs.length := by omega
    subst hi
    have hs := c_98 (upto arcs.length) n arcs (by rw [upto_length]; omega) (fun x hx => upto_mem.1 hx)
    rw [upto_length] at hs
    repeat' (first
     | ((with_reducible apply v_calln 4000000 (hs)); (iterate 2 (· exact rfl)); (· repeat' (first | exact DVsOf.nil | apply DVsOf.cons | apply DVof.one | apply DVof.agg | exact DCof.c | exact DCof.nil | exact DCof.nils | ((apply DCof.r); (iterate 2 (· exact rfl))) | ((apply DCof.rs); (iterate 2 (· exact rfl))) | ((apply DCof.mu); (· exact rfl)) | exact DCsOf.nil | apply DCsOf.cons | ((apply DVof_mp); (· exact rfl)) | ((apply DVof_ptr); (iterate 2 (· exact rfl))) | apply DVof.fn | exact DPsOf.nil | ((apply DPsOf_cons); (iterate 2 (· exact rfl))) | exact rfl)); (iterate 4 (· exact rfl)))
     | ((with_reducible apply v_call 4000000 (hs)); (iterate 3 (· exact rfl)); (· repeat' (first | exact DVsOf.nil | apply DVsOf.cons | apply DVof.one | apply DVof.agg | exact DCof.c | exact DCof.nil | exact DCof.nils | ((apply DCof.r); (iterate 2 (· exact rfl))) | ((apply DCof.rs); (iterate 2 (· exact rfl))) | ((apply DCof.mu); (· exact rfl)) | exact DCsOf.nil | apply DCsOf.cons | ((apply DVof_mp); (· exact rfl)) | ((apply DVof_ptr); (iterate 2 (· exact rfl))) | apply DVof.fn | exact DPsOf.nil | ((apply DPsOf_cons); (iterate 2 (· exact rfl))) | exact rfl)); (iterate 4 (· exact rfl)))
     | ((with_reducible apply v_mv); (iterate 3 (· exact rfl)))
     | ((with_reducible apply v_as); (iterate 3 (· exact rfl)))
     | ((with_reducible apply v_fa); (iterate 6 (· exact rfl)))
     | ((with_reducible apply v_far); (iterate 6 (· exact rfl)))
     | ((with_reducible apply v_ia); (iterate 8 (· exact rfl)); (iterate 2 (· first | omega | (simp only [lens, List.length_map, List.length_range]; omega))))
     | ((with_reducible apply v_lr_i64); (iterate 7 (· exact rfl)); (· first | omega | (simp only [lens, List.length_map, List.length_range]; omega)))
     | ((with_reducible apply v_ld); (iterate 6 (· exact rfl)))
     | ((with_reducible apply v_st); (iterate 7 (· exact rfl)))
     | ((with_reducible apply v_sr); (iterate 7 (· exact rfl)); (· first | omega | (simp only [lens, List.length_map, List.length_range]; omega)))
     | ((with_reducible apply v_srN); (iterate 7 (· exact rfl)); (· repeat' (first | exact RowC.nil | apply RowC.i | apply RowC.b)); (· first | omega | (simp only [lens, List.length_map, List.length_range]; omega)))
     | ((with_reducible apply v_tgt); (iterate 9 (· exact rfl)); (iterate 3 (· first | omega | (simp only [lens, List.length_map, List.length_range]; omega))); (· exact rfl))
     | ((with_reducible apply v_mks); (iterate 10 (· exact rfl)); (iterate 3 (· first | omega | (simp only [lens, List.length_map, List.length_range]; omega))))
     | ((with_reducible apply v_ext); (iterate 5 (· exact rfl)))
     | ((with_reducible apply v_cnv); (iterate 6 (· exact rfl)))
     | ((with_reducible apply v_min); (iterate 4 (· exact rfl)))
     | ((with_reducible apply v_max); (iterate 4 (· exact rfl)))
     | ((with_reducible apply v_ncr); (iterate 4 (· exact rfl)))
     | ((with_reducible apply v_ncp); (iterate 3 (· exact rfl)))
     | ((with_reducible apply v_lr_b); (iterate 7 (· exact rfl)); (· first | omega | (simp only [lens, List.length_map, List.length_range]; omega)))
     | ((with_reducible apply v_lr_u8); (iterate 7 (· exact rfl)); (· first | omega | (simp only [lens, List.length_map, List.length_range]; omega)))
     | ((with_reducible apply v_mkf); (iterate 3 (· exact rfl)))
     | ((with_reducible apply v_lss); (iterate 4 (· exact rfl)))
     | ((with_reducible apply v_leq); (iterate 4 (· exact rfl)))
     | ((with_reducible apply v_gtr); (iterate 4 (· exact rfl)))
     | ((with_reducible apply v_geq); (iterate 4 (· exact rfl)))
     | ((with_reducible apply v_eql); (iterate 4 (· exact rfl)))
     | ((with_reducible apply v_neq); (iterate 4 (· exact rfl)))
     | ((with_reducible apply v_add); (iterate 4 (· exact rfl)); (· first | omega | (simp only [lens, List.length_map, List.length_range]; omega)))
     | ((with_reducible apply v_sub); (iterate 4 (· exact rfl)); (· first | omega | (simp only [lens, List.length_map, List.length_range]; omega)))
     | ((with_reducible apply v_pkT); (iterate 4 (· exact rfl)))
     | ((with_reducible apply v_pkF); (iterate 4 (· exact rfl)))
     | ((with_reducible apply v_not); (iterate 3 (· exact rfl)))
     | ((with_reducible apply v_len); (iterate 5 (· exact rfl)))
     | ((with_reducible apply v_lenn); (iterate 4 (· exact rfl)))
     | ((with_reducible apply v_lit); (iterate 9 (· exact rfl)); (· repeat' (first | exact PartsC.nil | ((apply PartsC.cons); (· exact rfl)) | exact RowC.nil | apply RowC.i | apply RowC.b)))
     | ((with_reducible apply v_ap); (iterate 11 (· exact rfl)); (· first | omega | (simp only [lens, List.length_map, List.length_range]; omega)))
     | ((with_reducible apply v_ap0); (iterate 10 (· exact rfl)); (· first | omega | (simp only [lens, List.length_map, List.length_range]; omega)))
     | ((with_reducible apply v_alc); (iterate 5 (· exact rfl)))
     | ((with_reducible apply v_box); (iterate 4 (· exact rfl)))
     | ((with_reducible apply v_ldN); (iterate 7 (· exact rfl)))
     | ((with_reducible apply v_lrN); (iterate 8 (· exact rfl)); (· first | omega | (simp only [lens, List.length_map, List.length_range]; omega)))
     | ((with_reducible apply v_fld); (iterate 5 (· exact rfl)); (· kernel_rfl))
     | ((with_reducible apply v_bld); (iterate 6 (· exact rfl)))
     | ((with_reducible apply v_no); (iterate 2 (· exact rfl)))
     | ((with_reducible apply v_no'); (· exact rfl))
     | ((with_reducible apply v_ift); (iterate 2 (· exact rfl)); (· infer_instance))
     | ((with_reducible apply v_iff); (iterate 2 (· exact rfl)); (· infer_instance))
     | ((with_reducible apply v_pif); (· exact rfl); (· infer_instance))
     | (with_reducible apply vo_nil0)
     | ((with_reducible apply vo_nil); (· kernel_rfl))
     | (with_reducible apply w_rs)
     | ((with_reducible apply w_ds); (rotate_left); (iterate 2 (· kernel_rfl)))
     | (with_reducible apply w_r)
     | ((with_reducible apply w_d); (rotate_left); (iterate 2 (· kernel_rfl)))
     | (with_reducible apply w_sks)
     | (with_reducible apply W.skp)
     | (with_reducible apply W.ext)
     | (with_reducible apply W.rt)
     | (with_reducible apply w_blk)
     | ((with_reducible apply W.cT); (· exact rfl))
     | ((with_reducible apply W.cF); (· exact rfl))
     | ((with_reducible apply W.cn); (· exact rfl); (· infer_instance))
     | (with_reducible apply W.sq)
     | (with_reducible apply q_tn)
     | (with_reducible apply q_te)
     | (with_reducible apply q_tr)
     | (with_reducible apply q_bn)
     | (with_reducible apply q_br)
     | ((with_reducible apply q_be); (· exact rfl))
     | ((with_reducible apply q_bx); (· exact rfl))
     | (with_reducible apply q_er)
     | (with_reducible apply q_en)
     | (with_reducible apply q_her)
     | (with_reducible apply q_hen)
     | (intro _))
    have hol := ordM_length arcs
    have hRo := R_length (ordM arcs)
    refine W.lop (X := Nat) (fun q => mk 72 [(1, .one (.r 1)), (33, .one (.r 15)), (34, .one (.c (.int .i64 (arcs.length : Int)))), (35, .one (.c (.int .i64 q))), (5, .one (.r 32))] [(1, some (.box 30 [.c (.int .i64 n), .r 5001])), (5001, some (.ro i5 arcs)), (15, some (.vec 3 i1 (R (ordM arcs)))), (32, some (.vec 3 i1 (R (((ordM arcs).take q).foldl (tstep n.toNat arcs) []))))] [1, 15, 32]) (fun q => q ≤ arcs.length) (fun q => arcs.length - q) 0 ?_ ?_ ?_
    · exact (Wk.list [] (by repeat' (first | exact TW.nil | refine TW.cons rfl ?_ | (refine TW.eq rfl ?_ ?_; (· show AV.one (.c (.int .i64 ((R (ordM arcs)).length : Int))) = _; rw [hRo, hol]; rfl)))) (by repeat' (first | exact HW.nil | refine HW.cons rfl ?_)) rfl)
    · omega
    · intro q h2
      have eq : ((q : Nat) : Int).toNat = q := by omega
      obtain ⟨hfl, hfm⟩ := foldt_spec n.toNat arcs ((ordM arcs).take q) []
      have hin : ∀ x ∈ ((ordM arcs).take q).foldl (tstep n.toNat arcs) [], 0 ≤ x ∧ x < arcs.length := fun x hx => by
        rcases hfm x hx with h | h
        · simp at h
        · exact ordM_mem arcs x (List.mem_of_mem_take h)
      rw [List.length_take] at hfl
      simp only [List.length_nil] at hfl
      by_cases hq : q < arcs.length
      · have hP : ((ordM arcs).take (q + 1)).foldl (tstep n.toNat arcs) [] = tstep n.toNat arcs (((ordM arcs).take q).foldl (tstep n.toNat arcs) []) (gt (ordM arcs) q) := by
          rw [List.take_succ_eq_append_getElem (by omega), List.foldl_append]
          simp only [List.foldl_cons, List.foldl_nil, gt, List.getD_eq_getElem?_getD, List.getElem?_eq_getElem (show q < (ordM arcs).length by omega), Option.getD_some]
        generalize hO : ((ordM arcs).take q).foldl (tstep n.toNat arcs) [] = out at *
        have ek : rd (R (ordM arcs)) ((q : Nat) : Int).toNat 0 = gt (ordM arcs) q := by rw [eq, R_rd (by omega)]; rfl
        have hk := ordM_mem arcs _ (gt_mem (L := ordM arcs) (j := q) (by omega))
        rw [← ek] at hk
        have ha := okM_arc ho (j := (rd (R (ordM arcs)) ((q : Nat) : Int).toNat 0).toNat) (by omega)
        have hjl := joinM_length n.toNat arcs out
        have hRj := R_length (joinM n.toNat arcs out)
        have hRout := R_length out
        have hc := c_101 n arcs out ho hin (by omega)
        have eA : rd (R (joinM n.toNat arcs out)) (rd arcs (rd (R (ordM arcs)) ((q : Nat) : Int).toNat 0).toNat 0).toNat 0 = gt (joinM n.toNat arcs out) (rd arcs (gt (ordM arcs) q).toNat 0).toNat := by rw [R_rd (by omega), ek]; rfl
        have eB : rd (R (joinM n.toNat arcs out)) (rd arcs (rd (R (ordM arcs)) ((q : Nat) : Int).toNat 0).toNat 1).toNat 0 = gt (joinM n.toNat arcs out) (rd arcs (gt (ordM arcs) q).toNat 1).toNat := by rw [R_rd (by omega), ek]; rfl
        repeat' (first
         | ((with_reducible apply v_call 410000 (hc)); (iterate 3 (· exact rfl)); (· repeat' (first | exact DVsOf.nil | apply DVsOf.cons | apply DVof.one | apply DVof.agg | exact DCof.c | exact DCof.nil | exact DCof.nils | ((apply DCof.r); (iterate 2 (· exact rfl))) | ((apply DCof.rs); (iterate 2 (· exact rfl))) | ((apply DCof.mu); (· exact rfl)) | exact DCsOf.nil | apply DCsOf.cons | ((apply DVof_mp); (· exact rfl)) | ((apply DVof_ptr); (iterate 2 (· exact rfl))) | apply DVof.fn | exact DPsOf.nil | ((apply DPsOf_cons); (iterate 2 (· exact rfl))) | exact rfl)); (iterate 4 (· exact rfl)))
         | ((with_reducible apply v_mv); (iterate 3 (· exact rfl)))
         | ((with_reducible apply v_as); (iterate 3 (· exact rfl)))
         | ((with_reducible apply v_fa); (iterate 6 (· exact rfl)))
         | ((with_reducible apply v_far); (iterate 6 (· exact rfl)))
         | ((with_reducible apply v_ia); (iterate 8 (· exact rfl)); (iterate 2 (· first | omega | (simp only [lens, List.length_map, List.length_range]; omega))))
         | ((with_reducible apply v_lr_i64); (iterate 7 (· exact rfl)); (· first | omega | (simp only [lens, List.length_map, List.length_range]; omega)))
         | ((with_reducible apply v_ld); (iterate 6 (· exact rfl)))
         | ((with_reducible apply v_st); (iterate 7 (· exact rfl)))
         | ((with_reducible apply v_sr); (iterate 7 (· exact rfl)); (· first | omega | (simp only [lens, List.length_map, List.length_range]; omega)))
         | ((with_reducible apply v_srN); (iterate 7 (· exact rfl)); (· repeat' (first | exact RowC.nil | apply RowC.i | apply RowC.b)); (· first | omega | (simp only [lens, List.length_map, List.length_range]; omega)))
         | ((with_reducible apply v_tgt); (iterate 9 (· exact rfl)); (iterate 3 (· first | omega | (simp only [lens, List.length_map, List.length_range]; omega))); (· exact rfl))
         | ((with_reducible apply v_mks); (iterate 10 (· exact rfl)); (iterate 3 (· first | omega | (simp only [lens, List.length_map, List.length_range]; omega))))
         | ((with_reducible apply v_ext); (iterate 5 (· exact rfl)))
         | ((with_reducible apply v_cnv); (iterate 6 (· exact rfl)))
         | ((with_reducible apply v_min); (iterate 4 (· exact rfl)))
         | ((with_reducible apply v_max); (iterate 4 (· exact rfl)))
         | ((with_reducible apply v_ncr); (iterate 4 (· exact rfl)))
         | ((with_reducible apply v_ncp); (iterate 3 (· exact rfl)))
         | ((with_reducible apply v_lr_b); (iterate 7 (· exact rfl)); (· first | omega | (simp only [lens, List.length_map, List.length_range]; omega)))
         | ((with_reducible apply v_lr_u8); (iterate 7 (· exact rfl)); (· first | omega | (simp only [lens, List.length_map, List.length_range]; omega)))
         | ((with_reducible apply v_mkf); (iterate 3 (· exact rfl)))
         | ((with_reducible apply v_lss); (iterate 4 (· exact rfl)))
         | ((with_reducible apply v_leq); (iterate 4 (· exact rfl)))
         | ((with_reducible apply v_gtr); (iterate 4 (· exact rfl)))
         | ((with_reducible apply v_geq); (iterate 4 (· exact rfl)))
         | ((with_reducible apply v_eql); (iterate 4 (· exact rfl)))
         | ((with_reducible apply v_neq); (iterate 4 (· exact rfl)))
         | ((with_reducible apply v_add); (iterate 4 (· exact rfl)); (· first | omega | (simp only [lens, List.length_map, List.length_range]; omega)))
         | ((with_reducible apply v_sub); (iterate 4 (· exact rfl)); (· first | omega | (simp only [lens, List.length_map, List.length_range]; omega)))
         | ((with_reducible apply v_pkT); (iterate 4 (· exact rfl)))
         | ((with_reducible apply v_pkF); (iterate 4 (· exact rfl)))
         | ((with_reducible apply v_not); (iterate 3 (· exact rfl)))
         | ((with_reducible apply v_len); (iterate 5 (· exact rfl)))
         | ((with_reducible apply v_lenn); (iterate 4 (· exact rfl)))
         | ((with_reducible apply v_lit); (iterate 9 (· exact rfl)); (· repeat' (first | exact PartsC.nil | ((apply PartsC.cons); (· exact rfl)) | exact RowC.nil | apply RowC.i | apply RowC.b)))
         | ((with_reducible apply v_ap); (iterate 11 (· exact rfl)); (· first | omega | (simp only [lens, List.length_map, List.length_range]; omega)))
         | ((with_reducible apply v_ap0); (iterate 10 (· exact rfl)); (· first | omega | (simp only [lens, List.length_map, List.length_range]; omega)))
         | ((with_reducible apply v_alc); (iterate 5 (· exact rfl)))
         | ((with_reducible apply v_box); (iterate 4 (· exact rfl)))
         | ((with_reducible apply v_ldN); (iterate 7 (· exact rfl)))
         | ((with_reducible apply v_lrN); (iterate 8 (· exact rfl)); (· first | omega | (simp only [lens, List.length_map, List.length_range]; omega)))
         | ((with_reducible apply v_fld); (iterate 5 (· exact rfl)); (· kernel_rfl))
         | ((with_reducible apply v_bld); (iterate 6 (· exact rfl)))
         | ((with_reducible apply v_no); (iterate 2 (· exact rfl)))
         | ((with_reducible apply v_no'); (· exact rfl))
         | ((with_reducible apply v_ift); (iterate 2 (· exact rfl)); (· infer_instance))
         | ((with_reducible apply v_iff); (iterate 2 (· exact rfl)); (· infer_instance))
         | ((with_reducible apply v_pif); (· exact rfl); (· infer_instance))
         | (with_reducible apply vo_nil0)
         | ((with_reducible apply vo_nil); (· kernel_rfl))
         | (with_reducible apply w_rs)
         | ((with_reducible apply w_ds); (rotate_left); (iterate 2 (· kernel_rfl)))
         | (with_reducible apply w_r)
         | ((with_reducible apply w_d); (rotate_left); (iterate 2 (· kernel_rfl)))
         | (with_reducible apply w_sks)
         | (with_reducible apply W.skp)
         | (with_reducible apply W.ext)
         | (with_reducible apply W.rt)
         | (with_reducible apply w_blk)
         | ((with_reducible apply W.cT); (· exact rfl))
         | ((with_reducible apply W.cF); (· exact rfl))
         | ((with_reducible apply W.cn); (· exact rfl); (· infer_instance))
         | (with_reducible apply W.sq)
         | (with_reducible apply q_tn)
         | (with_reducible apply q_te)
         | (with_reducible apply q_tr)
         | (with_reducible apply q_bn)
         | (with_reducible apply q_br)
         | ((with_reducible apply q_be); (· exact rfl))
         | ((with_reducible apply q_bx); (· exact rfl))
         | (with_reducible apply q_er)
         | (with_reducible apply q_en)
         | (with_reducible apply q_her)
         | (with_reducible apply q_hen)
         | (intro _))
        all_goals first
          | (exfalso; omega)
          | skip
        · rename_i hne
          rw [eA, eB] at hne
          refine W.round (q + 1) (Wk.list [(32, 64)] (by repeat' (first | exact TW.nil | refine TW.cons rfl ?_)) (by refine HW.cons rfl (HW.cons rfl (HW.cons rfl (HW.eq rfl ?_ HW.nil))); simp only [Obj.ren]; rw [hP, tstep, if_pos hne, R_append, ek]; rfl) rfl) (by omega) (by omega)
        · rename_i hne
          rw [eA, eB] at hne
          refine W.round (q + 1) (Wk.list [] (by repeat' (first | exact TW.nil | refine TW.cons rfl ?_)) (by refine HW.cons rfl (HW.cons rfl (HW.cons rfl (HW.eq rfl ?_ HW.nil))); simp only [Obj.ren]; rw [hP, tstep, if_neg hne]) rfl) (by omega) (by omega)
      · have : q = arcs.length := by omega
        subst this
        have hRl := R_length (((ordM arcs).take arcs.length).foldl (tstep n.toNat arcs) [])
        repeat' (first
         | ((with_reducible apply v_mv); (iterate 3 (· exact rfl)))
         | ((with_reducible apply v_as); (iterate 3 (· exact rfl)))
         | ((with_reducible apply v_fa); (iterate 6 (· exact rfl)))
         | ((with_reducible apply v_far); (iterate 6 (· exact rfl)))
         | ((with_reducible apply v_ia); (iterate 8 (· exact rfl)); (iterate 2 (· first | omega | (simp only [lens, List.length_map, List.length_range]; omega))))
         | ((with_reducible apply v_lr_i64); (iterate 7 (· exact rfl)); (· first | omega | (simp only [lens, List.length_map, List.length_range]; omega)))
         | ((with_reducible apply v_ld); (iterate 6 (· exact rfl)))
         | ((with_reducible apply v_st); (iterate 7 (· exact rfl)))
         | ((with_reducible apply v_sr); (iterate 7 (· exact rfl)); (· first | omega | (simp only [lens, List.length_map, List.length_range]; omega)))
         | ((with_reducible apply v_srN); (iterate 7 (· exact rfl)); (· repeat' (first | exact RowC.nil | apply RowC.i | apply RowC.b)); (· first | omega | (simp only [lens, List.length_map, List.length_range]; omega)))
         | ((with_reducible apply v_tgt); (iterate 9 (· exact rfl)); (iterate 3 (· first | omega | (simp only [lens, List.length_map, List.length_range]; omega))); (· exact rfl))
         | ((with_reducible apply v_mks); (iterate 10 (· exact rfl)); (iterate 3 (· first | omega | (simp only [lens, List.length_map, List.length_range]; omega))))
         | ((with_reducible apply v_ext); (iterate 5 (· exact rfl)))
         | ((with_reducible apply v_cnv); (iterate 6 (· exact rfl)))
         | ((with_reducible apply v_min); (iterate 4 (· exact rfl)))
         | ((with_reducible apply v_max); (iterate 4 (· exact rfl)))
         | ((with_reducible apply v_ncr); (iterate 4 (· exact rfl)))
         | ((with_reducible apply v_ncp); (iterate 3 (· exact rfl)))
         | ((with_reducible apply v_lr_b); (iterate 7 (· exact rfl)); (· first | omega | (simp only [lens, List.length_map, List.length_range]; omega)))
         | ((with_reducible apply v_lr_u8); (iterate 7 (· exact rfl)); (· first | omega | (simp only [lens, List.length_map, List.length_range]; omega)))
         | ((with_reducible apply v_mkf); (iterate 3 (· exact rfl)))
         | ((with_reducible apply v_lss); (iterate 4 (· exact rfl)))
         | ((with_reducible apply v_leq); (iterate 4 (· exact rfl)))
         | ((with_reducible apply v_gtr); (iterate 4 (· exact rfl)))
         | ((with_reducible apply v_geq); (iterate 4 (· exact rfl)))
         | ((with_reducible apply v_eql); (iterate 4 (· exact rfl)))
         | ((with_reducible apply v_neq); (iterate 4 (· exact rfl)))
         | ((with_reducible apply v_add); (iterate 4 (· exact rfl)); (· first | omega | (simp only [lens, List.length_map, List.length_range]; omega)))
         | ((with_reducible apply v_sub); (iterate 4 (· exact rfl)); (· first | omega | (simp only [lens, List.length_map, List.length_range]; omega)))
         | ((with_reducible apply v_pkT); (iterate 4 (· exact rfl)))
         | ((with_reducible apply v_pkF); (iterate 4 (· exact rfl)))
         | ((with_reducible apply v_not); (iterate 3 (· exact rfl)))
         | ((with_reducible apply v_len); (iterate 5 (· exact rfl)))
         | ((with_reducible apply v_lenn); (iterate 4 (· exact rfl)))
         | ((with_reducible apply v_lit); (iterate 9 (· exact rfl)); (· repeat' (first | exact PartsC.nil | ((apply PartsC.cons); (· exact rfl)) | exact RowC.nil | apply RowC.i | apply RowC.b)))
         | ((with_reducible apply v_ap); (iterate 11 (· exact rfl)); (· first | omega | (simp only [lens, List.length_map, List.length_range]; omega)))
         | ((with_reducible apply v_ap0); (iterate 10 (· exact rfl)); (· first | omega | (simp only [lens, List.length_map, List.length_range]; omega)))
         | ((with_reducible apply v_alc); (iterate 5 (· exact rfl)))
         | ((with_reducible apply v_box); (iterate 4 (· exact rfl)))
         | ((with_reducible apply v_ldN); (iterate 7 (· exact rfl)))
         | ((with_reducible apply v_lrN); (iterate 8 (· exact rfl)); (· first | omega | (simp only [lens, List.length_map, List.length_range]; omega)))
         | ((with_reducible apply v_fld); (iterate 5 (· exact rfl)); (· kernel_rfl))
         | ((with_reducible apply v_bld); (iterate 6 (· exact rfl)))
         | ((with_reducible apply v_no); (iterate 2 (· exact rfl)))
         | ((with_reducible apply v_no'); (· exact rfl))
         | ((with_reducible apply v_ift); (iterate 2 (· exact rfl)); (· infer_instance))
         | ((with_reducible apply v_iff); (iterate 2 (· exact rfl)); (· infer_instance))
         | ((with_reducible apply v_pif); (· exact rfl); (· infer_instance))
         | (with_reducible apply vo_nil0)
         | ((with_reducible apply vo_nil); (· kernel_rfl))
         | (with_reducible apply w_rs)
         | ((with_reducible apply w_ds); (rotate_left); (iterate 2 (· kernel_rfl)))
         | (with_reducible apply w_r)
         | ((with_reducible apply w_d); (rotate_left); (iterate 2 (· kernel_rfl)))
         | (with_reducible apply w_sks)
         | (with_reducible apply W.skp)
         | (with_reducible apply W.ext)
         | (with_reducible apply W.rt)
         | (with_reducible apply w_blk)
         | ((with_reducible apply W.cT); (· exact rfl))
         | ((with_reducible apply W.cF); (· exact rfl))
         | ((with_reducible apply W.cn); (· exact rfl); (· infer_instance))
         | (with_reducible apply W.sq)
         | (with_reducible apply q_tn)
         | (with_reducible apply q_te)
         | (with_reducible apply q_tr)
         | (with_reducible apply q_bn)
         | (with_reducible apply q_br)
         | ((with_reducible apply q_be); (· exact rfl))
         | ((with_reducible apply q_bx); (· exact rfl))
         | (with_reducible apply q_er)
         | (with_reducible apply q_en)
         | (with_reducible apply q_her)
         | (with_reducible apply q_hen)
         | (intro _))
        all_goals first
          | (exfalso; omega)
          | skip
        exact e_vec rfl rfl rfl (by rw [List.take_of_length_le (by omega), List.take_of_length_le (by omega)]; rfl)
end Go.AM
set_option linter.unusedVariables false
set_option linter.unusedSimpArgs false
set_option maxRecDepth 4000
namespace Go.AM
open Go.Proofs

/-- Parents go down. -/
def Par (one : List Int) : Prop := ∀ j, j < one.length → 0 ≤ gt one j ∧ gt one j ≤ j
def rootF : Nat → List Int → Int → Int
  | 0, _, v => v
  | f + 1, one, v => if gt one v.toNat = v then v else rootF f one (gt one v.toNat)
def root (one : List Int) (v : Int) : Int := rootF (v.toNat + 1) one v
theorem rootF_more {one : List Int} (hp : Par one) : ∀ (f : Nat) (v : Int), 0 ≤ v → v < one.length → v.toNat < f → rootF f one v = rootF (v.toNat + 1) one v := by
  intro f
  induction f using Nat.strongRecOn with
  | _ f ih =>
    intro v h0 h1 h2
    cases f with
    | zero => omega
    | succ f =>
      rw [rootF, rootF]
      split
      · rfl
      · rename_i hne
        have := hp v.toNat (by omega)
        by_cases hf : f = v.toNat
        · rw [hf]
        · rw [ih f (by omega) _ this.1 (by omega) (by omega)]
          rw [ih v.toNat (by omega) _ this.1 (by omega) (by omega)]
theorem root_self {one : List Int} {v : Int} (h : gt one v.toNat = v) : root one v = v := by rw [root, rootF, if_pos h]
theorem root_up {one : List Int} (hp : Par one) {v : Int} (h0 : 0 ≤ v) (h1 : v < one.length) (h : gt one v.toNat ≠ v) : root one v = root one (gt one v.toNat) := by
  have := hp v.toNat (by omega)
  rw [root, rootF, if_neg h, rootF_more hp _ _ this.1 (by omega) (by omega), root]
theorem root_in {one : List Int} (hp : Par one) : ∀ (k : Nat) (v : Int), v.toNat = k → 0 ≤ v → v < one.length → 0 ≤ root one v ∧ root one v ≤ v ∧ gt one (root one v).toNat = root one v := by
  intro k
  induction k using Nat.strongRecOn with
  | _ k ih =>
    intro v hk h0 h1
    by_cases h : gt one v.toNat = v
    · rw [root_self h]; exact ⟨h0, by omega, h⟩
    · have := hp v.toNat (by omega)
      rw [root_up hp h0 h1 h]
      obtain ⟨g1, g2, g3⟩ := ih (gt one v.toNat).toNat (by omega) _ rfl this.1 (by omega)
      exact ⟨g1, by omega, g3⟩

theorem c_189 (one : List Int) (v : Int) (hp : Par one) (h0 : 0 ≤ v) (h1 : v < one.length) : OK Try.prog 189 [dL one, dI v] (dI (root one v)) := by
  have hRl := R_length one
  refine W.fn 16 [.tmp 4] hTT Try.func189 rfl rfl rfl rfl rfl rfl rfl rfl ?_
  repeat' (first
   | ((with_reducible apply v_mv); (iterate 3 (· exact rfl)))
   | ((with_reducible apply v_as); (iterate 3 (· exact rfl)))
   | ((with_reducible apply v_fa); (iterate 6 (· exact rfl)))
   | ((with_reducible apply v_far); (iterate 6 (· exact rfl)))
   | ((with_reducible apply v_ia); (iterate 8 (· exact rfl)); (iterate 2 (· first | omega | (simp only [lens, List.length_map, List.length_range]; omega))))
   | ((with_reducible apply v_lr_i64); (iterate 7 (· exact rfl)); (· first | omega | (simp only [lens, List.length_map, List.length_range]; omega)))
   | ((with_reducible apply v_ld); (iterate 6 (· exact rfl)))
   | ((with_reducible apply v_st); (iterate 7 (· exact rfl)))
   | ((with_reducible apply v_sr); (iterate 7 (· exact rfl)); (· first | omega | (simp only [lens, List.length_map, List.length_range]; omega)))
   | ((with_reducible apply v_srN); (iterate 7 (· exact rfl)); (· repeat' (first | exact RowC.nil | apply RowC.i | apply RowC.b)); (· first | omega | (simp only [lens, List.length_map, List.length_range]; omega)))
   | ((with_reducible apply v_tgt); (iterate 9 (· exact rfl)); (iterate 3 (· first | omega | (simp only [lens, List.length_map, List.length_range]; omega))); (· exact rfl))
   | ((with_reducible apply v_mks); (iterate 10 (· exact rfl)); (iterate 3 (· first | omega | (simp only [lens, List.length_map, List.length_range]; omega))))
   | ((with_reducible apply v_ext); (iterate 5 (· exact rfl)))
   | ((with_reducible apply v_cnv); (iterate 6 (· exact rfl)))
   | ((with_reducible apply v_min); (iterate 4 (· exact rfl)))
   | ((with_reducible apply v_max); (iterate 4 (· exact rfl)))
   | ((with_reducible apply v_ncr); (iterate 4 (· exact rfl)))
   | ((with_reducible apply v_ncp); (iterate 3 (· exact rfl)))
   | ((with_reducible apply v_lr_b); (iterate 7 (· exact rfl)); (· first | omega | (simp only [lens, List.length_map, List.length_range]; omega)))
   | ((with_reducible apply v_lr_u8); (iterate 7 (· exact rfl)); (· first | omega | (simp only [lens, List.length_map, List.length_range]; omega)))
   | ((with_reducible apply v_mkf); (iterate 3 (· exact rfl)))
   | ((with_reducible apply v_lss); (iterate 4 (· exact rfl)))
   | ((with_reducible apply v_leq); (iterate 4 (· exact rfl)))
   | ((with_reducible apply v_gtr); (iterate 4 (· exact rfl)))
   | ((with_reducible apply v_geq); (iterate 4 (· exact rfl)))
   | ((with_reducible apply v_eql); (iterate 4 (· exact rfl)))
   | ((with_reducible apply v_neq); (iterate 4 (· exact rfl)))
   | ((with_reducible apply v_add); (iterate 4 (· exact rfl)); (· first | omega | (simp only [lens, List.length_map, List.length_range]; omega)))
   | ((with_reducible apply v_sub); (iterate 4 (· exact rfl)); (· first | omega | (simp only [lens, List.length_map, List.length_range]; omega)))
   | ((with_reducible apply v_pkT); (iterate 4 (· exact rfl)))
   | ((with_reducible apply v_pkF); (iterate 4 (· exact rfl)))
   | ((with_reducible apply v_not); (iterate 3 (· exact rfl)))
   | ((with_reducible apply v_len); (iterate 5 (· exact rfl)))
   | ((with_reducible apply v_lenn); (iterate 4 (· exact rfl)))
   | ((with_reducible apply v_lit); (iterate 9 (· exact rfl)); (· repeat' (first | exact PartsC.nil | ((apply PartsC.cons); (· exact rfl)) | exact RowC.nil | apply RowC.i | apply RowC.b)))
   | ((with_reducible apply v_ap); (iterate 11 (· exact rfl)); (· first | omega | (simp only [lens, List.length_map, List.length_range]; omega)))
   | ((with_reducible apply v_ap0); (iterate 10 (· exact rfl)); (· first | omega | (simp only [lens, List.length_map, List.length_range]; omega)))
   | ((with_reducible apply v_alc); (iterate 5 (· exact rfl)))
   | ((with_reducible apply v_box); (iterate 4 (· exact rfl)))
   | ((with_reducible apply v_ldN); (iterate 7 (· exact rfl)))
   | ((with_reducible apply v_lrN); (iterate 8 (· exact rfl)); (· first | omega | (simp only [lens, List.length_map, List.length_range]; omega)))
   | ((with_reducible apply v_fld); (iterate 5 (· exact rfl)); (· kernel_rfl))
   | ((with_reducible apply v_bld); (iterate 6 (· exact rfl)))
   | ((with_reducible apply v_no); (iterate 2 (· exact rfl)))
   | ((with_reducible apply v_no'); (· exact rfl))
   | ((with_reducible apply v_ift); (iterate 2 (· exact rfl)); (· infer_instance))
   | ((with_reducible apply v_iff); (iterate 2 (· exact rfl)); (· infer_instance))
   | ((with_reducible apply v_pif); (· exact rfl); (· infer_instance))
   | (with_reducible apply vo_nil0)
   | ((with_reducible apply vo_nil); (· kernel_rfl))
   | (with_reducible apply w_rs)
   | ((with_reducible apply w_ds); (rotate_left); (iterate 2 (· kernel_rfl)))
   | (with_reducible apply w_r)
   | ((with_reducible apply w_d); (rotate_left); (iterate 2 (· kernel_rfl)))
   | (with_reducible apply w_sks)
   | (with_reducible apply W.skp)
   | (with_reducible apply W.ext)
   | (with_reducible apply W.rt)
   | (with_reducible apply w_blk)
   | ((with_reducible apply W.cT); (· exact rfl))
   | ((with_reducible apply W.cF); (· exact rfl))
   | ((with_reducible apply W.cn); (· exact rfl); (· infer_instance))
   | (with_reducible apply W.sq)
   | (with_reducible apply q_tn)
   | (with_reducible apply q_te)
   | (with_reducible apply q_tr)
   | (with_reducible apply q_bn)
   | (with_reducible apply q_br)
   | ((with_reducible apply q_be); (· exact rfl))
   | ((with_reducible apply q_bx); (· exact rfl))
   | (with_reducible apply q_er)
   | (with_reducible apply q_en)
   | (with_reducible apply q_her)
   | (with_reducible apply q_hen)
   | (intro _))
  refine W.lop (X := Int) (fun x => mk 16 [(0, .one (.r 5000)), (1, .one (.c (.int .i64 x)))] [(5000, some (.ro i1 (R one)))] []) (fun x => 0 ≤ x ∧ x < one.length ∧ root one x = root one v) (fun x => x.toNat) v ?_ ?_ ?_
  · exact (Wk.list [] (by repeat' (first | exact TW.nil | refine TW.cons rfl ?_)) (by repeat' (first | exact HW.nil | refine HW.cons rfl ?_)) rfl)
  · exact ⟨h0, h1, rfl⟩
  · rintro x ⟨g0, g1, g2⟩
    have hx : rd (R one) x.toNat 0 = gt one x.toNat := by rw [R_rd (by omega)]; rfl
    have hpx := hp x.toNat (by omega)
    repeat' (first
     | ((with_reducible apply v_mv); (iterate 3 (· exact rfl)))
     | ((with_reducible apply v_as); (iterate 3 (· exact rfl)))
     | ((with_reducible apply v_fa); (iterate 6 (· exact rfl)))
     | ((with_reducible apply v_far); (iterate 6 (· exact rfl)))
     | ((with_reducible apply v_ia); (iterate 8 (· exact rfl)); (iterate 2 (· first | omega | (simp only [lens, List.length_map, List.length_range]; omega))))
     | ((with_reducible apply v_lr_i64); (iterate 7 (· exact rfl)); (· first | omega | (simp only [lens, List.length_map, List.length_range]; omega)))
     | ((with_reducible apply v_ld); (iterate 6 (· exact rfl)))
     | ((with_reducible apply v_st); (iterate 7 (· exact rfl)))
     | ((with_reducible apply v_sr); (iterate 7 (· exact rfl)); (· first | omega | (simp only [lens, List.length_map, List.length_range]; omega)))
     | ((with_reducible apply v_srN); (iterate 7 (· exact rfl)); (· repeat' (first | exact RowC.nil | apply RowC.i | apply RowC.b)); (· first | omega | (simp only [lens, List.length_map, List.length_range]; omega)))
     | ((with_reducible apply v_tgt); (iterate 9 (· exact rfl)); (iterate 3 (· first | omega | (simp only [lens, List.length_map, List.length_range]; omega))); (· exact rfl))
     | ((with_reducible apply v_mks); (iterate 10 (· exact rfl)); (iterate 3 (· first | omega | (simp only [lens, List.length_map, List.length_range]; omega))))
     | ((with_reducible apply v_ext); (iterate 5 (· exact rfl)))
     | ((with_reducible apply v_cnv); (iterate 6 (· exact rfl)))
     | ((with_reducible apply v_min); (iterate 4 (· exact rfl)))
     | ((with_reducible apply v_max); (iterate 4 (· exact rfl)))
     | ((with_reducible apply v_ncr); (iterate 4 (· exact rfl)))
     | ((with_reducible apply v_ncp); (iterate 3 (· exact rfl)))
     | ((with_reducible apply v_lr_b); (iterate 7 (· exact rfl)); (· first | omega | (simp only [lens, List.length_map, List.length_range]; omega)))
     | ((with_reducible apply v_lr_u8); (iterate 7 (· exact rfl)); (· first | omega | (simp only [lens, List.length_map, List.length_range]; omega)))
     | ((with_reducible apply v_mkf); (iterate 3 (· exact rfl)))
     | ((with_reducible apply v_lss); (iterate 4 (· exact rfl)))
     | ((with_reducible apply v_leq); (iterate 4 (· exact rfl)))
     | ((with_reducible apply v_gtr); (iterate 4 (· exact rfl)))
     | ((with_reducible apply v_geq); (iterate 4 (· exact rfl)))
     | ((with_reducible apply v_eql); (iterate 4 (· exact rfl)))
     | ((with_reducible apply v_neq); (iterate 4 (· exact rfl)))
     | ((with_reducible apply v_add); (iterate 4 (· exact rfl)); (· first | omega | (simp only [lens, List.length_map, List.length_range]; omega)))
     | ((with_reducible apply v_sub); (iterate 4 (· exact rfl)); (· first | omega | (simp only [lens, List.length_map, List.length_range]; omega)))
     | ((with_reducible apply v_pkT); (iterate 4 (· exact rfl)))
     | ((with_reducible apply v_pkF); (iterate 4 (· exact rfl)))
     | ((with_reducible apply v_not); (iterate 3 (· exact rfl)))
     | ((with_reducible apply v_len); (iterate 5 (· exact rfl)))
     | ((with_reducible apply v_lenn); (iterate 4 (· exact rfl)))
     | ((with_reducible apply v_lit); (iterate 9 (· exact rfl)); (· repeat' (first | exact PartsC.nil | ((apply PartsC.cons); (· exact rfl)) | exact RowC.nil | apply RowC.i | apply RowC.b)))
     | ((with_reducible apply v_ap); (iterate 11 (· exact rfl)); (· first | omega | (simp only [lens, List.length_map, List.length_range]; omega)))
     | ((with_reducible apply v_ap0); (iterate 10 (· exact rfl)); (· first | omega | (simp only [lens, List.length_map, List.length_range]; omega)))
     | ((with_reducible apply v_alc); (iterate 5 (· exact rfl)))
     | ((with_reducible apply v_box); (iterate 4 (· exact rfl)))
     | ((with_reducible apply v_ldN); (iterate 7 (· exact rfl)))
     | ((with_reducible apply v_lrN); (iterate 8 (· exact rfl)); (· first | omega | (simp only [lens, List.length_map, List.length_range]; omega)))
     | ((with_reducible apply v_fld); (iterate 5 (· exact rfl)); (· kernel_rfl))
     | ((with_reducible apply v_bld); (iterate 6 (· exact rfl)))
     | ((with_reducible apply v_no); (iterate 2 (· exact rfl)))
     | ((with_reducible apply v_no'); (· exact rfl))
     | ((with_reducible apply v_ift); (iterate 2 (· exact rfl)); (· infer_instance))
     | ((with_reducible apply v_iff); (iterate 2 (· exact rfl)); (· infer_instance))
     | ((with_reducible apply v_pif); (· exact rfl); (· infer_instance))
     | (with_reducible apply vo_nil0)
     | ((with_reducible apply vo_nil); (· kernel_rfl))
     | (with_reducible apply w_rs)
     | ((with_reducible apply w_ds); (rotate_left); (iterate 2 (· kernel_rfl)))
     | (with_reducible apply w_r)
     | ((with_reducible apply w_d); (rotate_left); (iterate 2 (· kernel_rfl)))
     | (with_reducible apply w_sks)
     | (with_reducible apply W.skp)
     | (with_reducible apply W.ext)
     | (with_reducible apply W.rt)
     | (with_reducible apply w_blk)
     | ((with_reducible apply W.cT); (· exact rfl))
     | ((with_reducible apply W.cF); (· exact rfl))
     | ((with_reducible apply W.cn); (· exact rfl); (· infer_instance))
     | (with_reducible apply W.sq)
     | (with_reducible apply q_tn)
     | (with_reducible apply q_te)
     | (with_reducible apply q_tr)
     | (with_reducible apply q_bn)
     | (with_reducible apply q_br)
     | ((with_reducible apply q_be); (· exact rfl))
     | ((with_reducible apply q_bx); (· exact rfl))
     | (with_reducible apply q_er)
     | (with_reducible apply q_en)
     | (with_reducible apply q_her)
     | (with_reducible apply q_hen)
     | (intro _))
    · rename_i hne
      rw [hx] at hne
      refine W.round (rd (R one) x.toNat 0) (Wk.list [] (by repeat' (first | exact TW.nil | refine TW.cons rfl ?_)) (by repeat' (first | exact HW.nil | refine HW.cons rfl ?_)) rfl) ⟨by rw [hx]; omega, by rw [hx]; omega, by rw [hx, ← g2, ← root_up hp g0 g1 hne]⟩ (by rw [hx]; omega)
    · rename_i he
      rw [hx] at he
      exact e_int rfl rfl (by rw [← g2, root_self (by simpa using he)])

def sstep (arcs : List (List Int)) (s : List Int × List Int) (k : Int) : List Int × List Int :=
  let a := root s.1 (rd arcs k.toNat 0)
  let b := root s.1 (rd arcs k.toNat 1)
  if a = b then s else (s.1.set (max a b).toNat (min a b), s.2 ++ [k])
def sordC (arcs : List (List Int)) (c : Nat) : List Int := (List.range c).flatMap fun (c : Nat) => (upto arcs.length).filter fun k => keyA arcs k == (c : Int)
def treeS (n : Nat) (arcs : List (List Int)) (l : List Int) : List Int × List Int := l.foldl (sstep arcs) (upto n, [])
structure Tok (n : Nat) (m : Nat) (s : List Int × List Int) : Prop where
  len : s.1.length = n
  par : Par s.1
  out : s.2.length ≤ m
theorem Tok.step {n m : Nat} {arcs : List (List Int)} {s : List Int × List Int} {k : Int} (h : Tok n m s) (h0 : 0 ≤ rd arcs k.toNat 0 ∧ rd arcs k.toNat 0 < n) (h1 : 0 ≤ rd arcs k.toNat 1 ∧ rd arcs k.toNat 1 < n) : Tok n (m + 1) (sstep arcs s k) := by
  obtain ⟨hl, hp, ho⟩ := h
  obtain ⟨a1, a2, a3⟩ := root_in hp _ _ rfl h0.1 (by omega)
  obtain ⟨b1, b2, b3⟩ := root_in hp _ _ rfl h1.1 (by omega)
  unfold sstep
  simp only
  split
  · exact ⟨hl, hp, by omega⟩
  · refine ⟨by simpa using hl, fun j hj => ?_, by simp; omega⟩
    simp only [List.length_set] at hj
    simp only [gt, List.getD_eq_getElem?_getD]
    rw [List.getElem?_set]
    split
    · rw [if_pos (by omega)]
      simp only [Option.getD_some]
      omega
    · have := hp j hj
      simpa [gt, List.getD_eq_getElem?_getD] using this
theorem treeS_app (n : Nat) (arcs : List (List Int)) (l : List Int) (k : Int) : treeS n arcs (l ++ [k]) = sstep arcs (treeS n arcs l) k := by simp [treeS]
theorem Tok.init (n : Nat) : Tok n 0 (upto n, []) := ⟨upto_length n, fun j hj => by
  rw [upto_length] at hj
  have : gt (upto n) j = j := by simp [gt, upto, List.getD_eq_getElem?_getD, List.getElem?_range, hj]
  simp only [this]; omega, by simp⟩
theorem Tok.all {n : Nat} {arcs : List (List Int)} (h : ∀ j, j < arcs.length → (0 ≤ rd arcs j 0 ∧ rd arcs j 0 < n) ∧ (0 ≤ rd arcs j 1 ∧ rd arcs j 1 < n)) : ∀ (l : List Int) (s : List Int × List Int) (m : Nat), (∀ x ∈ l, 0 ≤ x ∧ x < arcs.length) → Tok n m s → Tok n (m + l.length) (l.foldl (sstep arcs) s)
  | [], s, m, _, ht => ht
  | k :: l, s, m, hl, ht => by
    have hk := hl k (by simp)
    have := h k.toNat (by omega)
    rw [List.foldl_cons, show m + (k :: l).length = (m + 1) + l.length by simp; omega]
    exact Tok.all h l _ (m + 1) (fun x hx => hl x (by simp [hx])) (ht.step this.1 this.2)

theorem sordC_succ (arcs : List (List Int)) (c : Nat) : sordC arcs (c + 1) = sordC arcs c ++ (upto arcs.length).filter fun k => keyA arcs k == (c : Int) := by
  simp [sordC, List.range_succ]
theorem sordC_len (arcs : List (List Int)) : ∀ c, (sordC arcs c).length ≤ c * arcs.length
  | 0 => by simp [sordC]
  | c + 1 => by
    have h1 := sordC_len arcs c
    have h2 := List.length_filter_le (fun k => keyA arcs k == (c : Int)) (upto arcs.length)
    rw [upto_length] at h2
    rw [sordC_succ, List.length_append, Nat.add_mul]
    omega
theorem sordC_mem (arcs : List (List Int)) (c : Nat) : ∀ x ∈ sordC arcs c, 0 ≤ x ∧ x < arcs.length := by
  intro x hx
  simp only [sordC, List.mem_flatMap, List.mem_filter] at hx
  obtain ⟨_, _, h, _⟩ := hx
  exact upto_mem.1 h
theorem filt_succ (p : Int → Bool) (i : Nat) : (upto (i + 1)).filter p = (upto i).filter p ++ (if p i then [(i : Int)] else []) := by
  rw [upto_succ, List.filter_append]; congr 1; simp only [List.filter_cons, List.filter_nil]

theorem c_102 (n : Int) (arcs : List (List Int)) (ho : okM n arcs = true) : OK Try.prog 102 [dNet n arcs] (dL (treeS n.toNat arcs (sordC arcs 100)).2) := by
  obtain ⟨hn, hal⟩ := okM_n ho
  refine W.fn 78 [.tmp 2] hTT Try.func102 rfl rfl rfl rfl rfl rfl rfl rfl ?_
  repeat' (first
   | ((with_reducible apply v_mv); (iterate 3 (· exact rfl)))
   | ((with_reducible apply v_as); (iterate 3 (· exact rfl)))
   | ((with_reducible apply v_fa); (iterate 6 (· exact rfl)))
   | ((with_reducible apply v_far); (iterate 6 (· exact rfl)))
   | ((with_reducible apply v_ia); (iterate 8 (· exact rfl)); (iterate 2 (· first | omega | (simp only [lens, List.length_map, List.length_range]; omega))))
   | ((with_reducible apply v_lr_i64); (iterate 7 (· exact rfl)); (· first | omega | (simp only [lens, List.length_map, List.length_range]; omega)))
   | ((with_reducible apply v_ld); (iterate 6 (· exact rfl)))
   | ((with_reducible apply v_st); (iterate 7 (· exact rfl)))
   | ((with_reducible apply v_sr); (iterate 7 (· exact rfl)); (· first | omega | (simp only [lens, List.length_map, List.length_range]; omega)))
   | ((with_reducible apply v_srN); (iterate 7 (· exact rfl)); (· repeat' (first | exact RowC.nil | apply RowC.i | apply RowC.b)); (· first | omega | (simp only [lens, List.length_map, List.length_range]; omega)))
   | ((with_reducible apply v_tgt); (iterate 9 (· exact rfl)); (iterate 3 (· first | omega | (simp only [lens, List.length_map, List.length_range]; omega))); (· exact rfl))
   | ((with_reducible apply v_mks); (iterate 10 (· exact rfl)); (iterate 3 (· first | omega | (simp only [lens, List.length_map, List.length_range]; omega))))
   | ((with_reducible apply v_ext); (iterate 5 (· exact rfl)))
   | ((with_reducible apply v_cnv); (iterate 6 (· exact rfl)))
   | ((with_reducible apply v_min); (iterate 4 (· exact rfl)))
   | ((with_reducible apply v_max); (iterate 4 (· exact rfl)))
   | ((with_reducible apply v_ncr); (iterate 4 (· exact rfl)))
   | ((with_reducible apply v_ncp); (iterate 3 (· exact rfl)))
   | ((with_reducible apply v_lr_b); (iterate 7 (· exact rfl)); (· first | omega | (simp only [lens, List.length_map, List.length_range]; omega)))
   | ((with_reducible apply v_lr_u8); (iterate 7 (· exact rfl)); (· first | omega | (simp only [lens, List.length_map, List.length_range]; omega)))
   | ((with_reducible apply v_mkf); (iterate 3 (· exact rfl)))
   | ((with_reducible apply v_lss); (iterate 4 (· exact rfl)))
   | ((with_reducible apply v_leq); (iterate 4 (· exact rfl)))
   | ((with_reducible apply v_gtr); (iterate 4 (· exact rfl)))
   | ((with_reducible apply v_geq); (iterate 4 (· exact rfl)))
   | ((with_reducible apply v_eql); (iterate 4 (· exact rfl)))
   | ((with_reducible apply v_neq); (iterate 4 (· exact rfl)))
   | ((with_reducible apply v_add); (iterate 4 (· exact rfl)); (· first | omega | (simp only [lens, List.length_map, List.length_range]; omega)))
   | ((with_reducible apply v_sub); (iterate 4 (· exact rfl)); (· first | omega | (simp only [lens, List.length_map, List.length_range]; omega)))
   | ((with_reducible apply v_pkT); (iterate 4 (· exact rfl)))
   | ((with_reducible apply v_pkF); (iterate 4 (· exact rfl)))
   | ((with_reducible apply v_not); (iterate 3 (· exact rfl)))
   | ((with_reducible apply v_len); (iterate 5 (· exact rfl)))
   | ((with_reducible apply v_lenn); (iterate 4 (· exact rfl)))
   | ((with_reducible apply v_lit); (iterate 9 (· exact rfl)); (· repeat' (first | exact PartsC.nil | ((apply PartsC.cons); (· exact rfl)) | exact RowC.nil | apply RowC.i | apply RowC.b)))
   | ((with_reducible apply v_ap); (iterate 11 (· exact rfl)); (· first | omega | (simp only [lens, List.length_map, List.length_range]; omega)))
   | ((with_reducible apply v_ap0); (iterate 10 (· exact rfl)); (· first | omega | (simp only [lens, List.length_map, List.length_range]; omega)))
   | ((with_reducible apply v_alc); (iterate 5 (· exact rfl)))
   | ((with_reducible apply v_box); (iterate 4 (· exact rfl)))
   | ((with_reducible apply v_ldN); (iterate 7 (· exact rfl)))
   | ((with_reducible apply v_lrN); (iterate 8 (· exact rfl)); (· first | omega | (simp only [lens, List.length_map, List.length_range]; omega)))
   | ((with_reducible apply v_fld); (iterate 5 (· exact rfl)); (· kernel_rfl))
   | ((with_reducible apply v_bld); (iterate 6 (· exact rfl)))
   | ((with_reducible apply v_no); (iterate 2 (· exact rfl)))
   | ((with_reducible apply v_no'); (· exact rfl))
   | ((with_reducible apply v_ift); (iterate 2 (· exact rfl)); (· infer_instance))
   | ((with_reducible apply v_iff); (iterate 2 (· exact rfl)); (· infer_instance))
   | ((with_reducible apply v_pif); (· exact rfl); (· infer_instance))
   | (with_reducible apply vo_nil0)
   | ((with_reducible apply vo_nil); (· kernel_rfl))
   | (with_reducible apply w_rs)
   | ((with_reducible apply w_ds); (rotate_left); (iterate 2 (· kernel_rfl)))
   | (with_reducible apply w_r)
   | ((with_reducible apply w_d); (rotate_left); (iterate 2 (· kernel_rfl)))
   | (with_reducible apply w_sks)
   | (with_reducible apply W.skp)
   | (with_reducible apply W.ext)
   | (with_reducible apply W.rt)
   | (with_reducible apply w_blk)
   | ((with_reducible apply W.cT); (· exact rfl))
   | ((with_reducible apply W.cF); (· exact rfl))
   | ((with_reducible apply W.cn); (· exact rfl); (· infer_instance))
   | (with_reducible apply W.sq)
   | (with_reducible apply q_tn)
   | (with_reducible apply q_te)
   | (with_reducible apply q_tr)
   | (with_reducible apply q_bn)
   | (with_reducible apply q_br)
   | ((with_reducible apply q_be); (· exact rfl))
   | ((with_reducible apply q_bx); (· exact rfl))
   | (with_reducible apply q_er)
   | (with_reducible apply q_en)
   | (with_reducible apply q_her)
   | (with_reducible apply q_hen)
   | (intro _))
  refine W.lop (X := Nat) (fun i => mk 78 [(1, .one (.r 1)), (3, .one (.r 10)), (4, .one (.c (.int .i64 i)))] [(1, some (.box 30 [.c (.int .i64 n), .r 5001])), (5001, some (.ro i5 arcs)), (10, some (.vec 3 i1 (R (upto i))))] [1, 10]) (fun i => i ≤ n.toNat) (fun i => n.toNat - i) 0 ?_ ?_ ?_
  · exact (Wk.list [] (by repeat' (first | exact TW.nil | refine TW.cons rfl ?_)) (by repeat' (first | exact HW.nil | refine HW.cons rfl ?_)) rfl)
  · omega
  · intro i h1
    have hul := upto_length i
    have hRl := R_length (upto i)
    repeat' (first
     | ((with_reducible apply v_mv); (iterate 3 (· exact rfl)))
     | ((with_reducible apply v_as); (iterate 3 (· exact rfl)))
     | ((with_reducible apply v_fa); (iterate 6 (· exact rfl)))
     | ((with_reducible apply v_far); (iterate 6 (· exact rfl)))
     | ((with_reducible apply v_ia); (iterate 8 (· exact rfl)); (iterate 2 (· first | omega | (simp only [lens, List.length_map, List.length_range]; omega))))
     | ((with_reducible apply v_lr_i64); (iterate 7 (· exact rfl)); (· first | omega | (simp only [lens, List.length_map, List.length_range]; omega)))
     | ((with_reducible apply v_ld); (iterate 6 (· exact rfl)))
     | ((with_reducible apply v_st); (iterate 7 (· exact rfl)))
     | ((with_reducible apply v_sr); (iterate 7 (· exact rfl)); (· first | omega | (simp only [lens, List.length_map, List.length_range]; omega)))
     | ((with_reducible apply v_srN); (iterate 7 (· exact rfl)); (· repeat' (first | exact RowC.nil | apply RowC.i | apply RowC.b)); (· first | omega | (simp only [lens, List.length_map, List.length_range]; omega)))
     | ((with_reducible apply v_tgt); (iterate 9 (· exact rfl)); (iterate 3 (· first | omega | (simp only [lens, List.length_map, List.length_range]; omega))); (· exact rfl))
     | ((with_reducible apply v_mks); (iterate 10 (· exact rfl)); (iterate 3 (· first | omega | (simp only [lens, List.length_map, List.length_range]; omega))))
     | ((with_reducible apply v_ext); (iterate 5 (· exact rfl)))
     | ((with_reducible apply v_cnv); (iterate 6 (· exact rfl)))
     | ((with_reducible apply v_min); (iterate 4 (· exact rfl)))
     | ((with_reducible apply v_max); (iterate 4 (· exact rfl)))
     | ((with_reducible apply v_ncr); (iterate 4 (· exact rfl)))
     | ((with_reducible apply v_ncp); (iterate 3 (· exact rfl)))
     | ((with_reducible apply v_lr_b); (iterate 7 (· exact rfl)); (· first | omega | (simp only [lens, List.length_map, List.length_range]; omega)))
     | ((with_reducible apply v_lr_u8); (iterate 7 (· exact rfl)); (· first | omega | (simp only [lens, List.length_map, List.length_range]; omega)))
     | ((with_reducible apply v_mkf); (iterate 3 (· exact rfl)))
     | ((with_reducible apply v_lss); (iterate 4 (· exact rfl)))
     | ((with_reducible apply v_leq); (iterate 4 (· exact rfl)))
     | ((with_reducible apply v_gtr); (iterate 4 (· exact rfl)))
     | ((with_reducible apply v_geq); (iterate 4 (· exact rfl)))
     | ((with_reducible apply v_eql); (iterate 4 (· exact rfl)))
     | ((with_reducible apply v_neq); (iterate 4 (· exact rfl)))
     | ((with_reducible apply v_add); (iterate 4 (· exact rfl)); (· first | omega | (simp only [lens, List.length_map, List.length_range]; omega)))
     | ((with_reducible apply v_sub); (iterate 4 (· exact rfl)); (· first | omega | (simp only [lens, List.length_map, List.length_range]; omega)))
     | ((with_reducible apply v_pkT); (iterate 4 (· exact rfl)))
     | ((with_reducible apply v_pkF); (iterate 4 (· exact rfl)))
     | ((with_reducible apply v_not); (iterate 3 (· exact rfl)))
     | ((with_reducible apply v_len); (iterate 5 (· exact rfl)))
     | ((with_reducible apply v_lenn); (iterate 4 (· exact rfl)))
     | ((with_reducible apply v_lit); (iterate 9 (· exact rfl)); (· repeat' (first | exact PartsC.nil | ((apply PartsC.cons); (· exact rfl)) | exact RowC.nil | apply RowC.i | apply RowC.b)))
     | ((with_reducible apply v_ap); (iterate 11 (· exact rfl)); (· first | omega | (simp only [lens, List.length_map, List.length_range]; omega)))
     | ((with_reducible apply v_ap0); (iterate 10 (· exact rfl)); (· first | omega | (simp only [lens, List.length_map, List.length_range]; omega)))
     | ((with_reducible apply v_alc); (iterate 5 (· exact rfl)))
     | ((with_reducible apply v_box); (iterate 4 (· exact rfl)))
     | ((with_reducible apply v_ldN); (iterate 7 (· exact rfl)))
     | ((with_reducible apply v_lrN); (iterate 8 (· exact rfl)); (· first | omega | (simp only [lens, List.length_map, List.length_range]; omega)))
     | ((with_reducible apply v_fld); (iterate 5 (· exact rfl)); (· kernel_rfl))
     | ((with_reducible apply v_bld); (iterate 6 (· exact rfl)))
     | ((with_reducible apply v_no); (iterate 2 (· exact rfl)))
     | ((with_reducible apply v_no'); (· exact rfl))
     | ((with_reducible apply v_ift); (iterate 2 (· exact rfl)); (· infer_instance))
     | ((with_reducible apply v_iff); (iterate 2 (· exact rfl)); (· infer_instance))
     | ((with_reducible apply v_pif); (· exact rfl); (· infer_instance))
     | (with_reducible apply vo_nil0)
     | ((with_reducible apply vo_nil); (· kernel_rfl))
     | (with_reducible apply w_rs)
     | ((with_reducible apply w_ds); (rotate_left); (iterate 2 (· kernel_rfl)))
     | (with_reducible apply w_r)
     | ((with_reducible apply w_d); (rotate_left); (iterate 2 (· kernel_rfl)))
     | (with_reducible apply w_sks)
     | (with_reducible apply W.skp)
     | (with_reducible apply W.ext)
     | (with_reducible apply W.rt)
     | (with_reducible apply w_blk)
     | ((with_reducible apply W.cT); (· exact rfl))
     | ((with_reducible apply W.cF); (· exact rfl))
     | ((with_reducible apply W.cn); (· exact rfl); (· infer_instance))
     | (with_reducible apply W.sq)
     | (with_reducible apply q_tn)
     | (with_reducible apply q_te)
     | (with_reducible apply q_tr)
     | (with_reducible apply q_bn)
     | (with_reducible apply q_br)
     | ((with_reducible apply q_be); (· exact rfl))
     | ((with_reducible apply q_bx); (· exact rfl))
     | (with_reducible apply q_er)
     | (with_reducible apply q_en)
     | (with_reducible apply q_her)
     | (with_reducible apply q_hen)
     | (intro _))
    · refine W.round (i + 1) (Wk.list [(10, 20)] (by repeat' (first | exact TW.nil | refine TW.cons rfl ?_)) (by refine HW.cons rfl (HW.cons rfl (HW.eq rfl ?_ HW.nil)); simp only [Obj.ren]; rw [upto_succ, R_append]; rfl) rfl) (by omega) (by omega)
    have hi : i = n.toNat := by omega
    subst hi
    have hall : ∀ (l : List Int), (∀ x ∈ l, 0 ≤ x ∧ x < arcs.length) → Tok n.toNat l.length (treeS n.toNat arcs l) := fun l hl => by
      have := Tok.all (n := n.toNat) (arcs := arcs) (fun j hj => by have := okM_arc ho hj; omega) l _ 0 hl (Tok.init n.toNat)
      rwa [Nat.zero_add] at this
    refine W.lop (X := Nat) (fun c => mk 78 [(1, .one (.r 1)), (3, .one (.r 10)), (5, .one (.r 21)), (6, .one (.c (.int .i64 c)))] [(1, some (.box 30 [.c (.int .i64 n), .r 5001])), (5001, some (.ro i5 arcs)), (10, some (.vec 3 i1 (R (treeS n.toNat arcs (sordC arcs c)).1))), (21, some (.vec 3 i1 (R (treeS n.toNat arcs (sordC arcs c)).2)))] [1, 10, 21]) (fun c => c ≤ 100) (fun c => 100 - c) 0 ?_ ?_ ?_
    · exact (Wk.list [] (by repeat' (first | exact TW.nil | refine TW.cons rfl ?_)) (by repeat' (first | exact HW.nil | refine HW.cons rfl ?_)) rfl)
    · omega
    · intro c h2
      repeat' (first
       | ((with_reducible apply v_mv); (iterate 3 (· exact rfl)))
       | ((with_reducible apply v_as); (iterate 3 (· exact rfl)))
       | ((with_reducible apply v_fa); (iterate 6 (· exact rfl)))
       | ((with_reducible apply v_far); (iterate 6 (· exact rfl)))
       | ((with_reducible apply v_ia); (iterate 8 (· exact rfl)); (iterate 2 (· first | omega | (simp only [lens, List.length_map, List.length_range]; omega))))
       | ((with_reducible apply v_lr_i64); (iterate 7 (· exact rfl)); (· first | omega | (simp only [lens, List.length_map, List.length_range]; omega)))
       | ((with_reducible apply v_ld); (iterate 6 (· exact rfl)))
       | ((with_reducible apply v_st); (iterate 7 (· exact rfl)))
       | ((with_reducible apply v_sr); (iterate 7 (· exact rfl)); (· first | omega | (simp only [lens, List.length_map, List.length_range]; omega)))
       | ((with_reducible apply v_srN); (iterate 7 (· exact rfl)); (· repeat' (first | exact RowC.nil | apply RowC.i | apply RowC.b)); (· first | omega | (simp only [lens, List.length_map, List.length_range]; omega)))
       | ((with_reducible apply v_tgt); (iterate 9 (· exact rfl)); (iterate 3 (· first | omega | (simp only [lens, List.length_map, List.length_range]; omega))); (· exact rfl))
       | ((with_reducible apply v_mks); (iterate 10 (· exact rfl)); (iterate 3 (· first | omega | (simp only [lens, List.length_map, List.length_range]; omega))))
       | ((with_reducible apply v_ext); (iterate 5 (· exact rfl)))
       | ((with_reducible apply v_cnv); (iterate 6 (· exact rfl)))
       | ((with_reducible apply v_min); (iterate 4 (· exact rfl)))
       | ((with_reducible apply v_max); (iterate 4 (· exact rfl)))
       | ((with_reducible apply v_ncr); (iterate 4 (· exact rfl)))
       | ((with_reducible apply v_ncp); (iterate 3 (· exact rfl)))
       | ((with_reducible apply v_lr_b); (iterate 7 (· exact rfl)); (· first | omega | (simp only [lens, List.length_map, List.length_range]; omega)))
       | ((with_reducible apply v_lr_u8); (iterate 7 (· exact rfl)); (· first | omega | (simp only [lens, List.length_map, List.length_range]; omega)))
       | ((with_reducible apply v_mkf); (iterate 3 (· exact rfl)))
       | ((with_reducible apply v_lss); (iterate 4 (· exact rfl)))
       | ((with_reducible apply v_leq); (iterate 4 (· exact rfl)))
       | ((with_reducible apply v_gtr); (iterate 4 (· exact rfl)))
       | ((with_reducible apply v_geq); (iterate 4 (· exact rfl)))
       | ((with_reducible apply v_eql); (iterate 4 (· exact rfl)))
       | ((with_reducible apply v_neq); (iterate 4 (· exact rfl)))
       | ((with_reducible apply v_add); (iterate 4 (· exact rfl)); (· first | omega | (simp only [lens, List.length_map, List.length_range]; omega)))
       | ((with_reducible apply v_sub); (iterate 4 (· exact rfl)); (· first | omega | (simp only [lens, List.length_map, List.length_range]; omega)))
       | ((with_reducible apply v_pkT); (iterate 4 (· exact rfl)))
       | ((with_reducible apply v_pkF); (iterate 4 (· exact rfl)))
       | ((with_reducible apply v_not); (iterate 3 (· exact rfl)))
       | ((with_reducible apply v_len); (iterate 5 (· exact rfl)))
       | ((with_reducible apply v_lenn); (iterate 4 (· exact rfl)))
       | ((with_reducible apply v_lit); (iterate 9 (· exact rfl)); (· repeat' (first | exact PartsC.nil | ((apply PartsC.cons); (· exact rfl)) | exact RowC.nil | apply RowC.i | apply RowC.b)))
       | ((with_reducible apply v_ap); (iterate 11 (· exact rfl)); (· first | omega | (simp only [lens, List.length_map, List.length_range]; omega)))
       | ((with_reducible apply v_ap0); (iterate 10 (· exact rfl)); (· first | omega | (simp only [lens, List.length_map, List.length_range]; omega)))
       | ((with_reducible apply v_alc); (iterate 5 (· exact rfl)))
       | ((with_reducible apply v_box); (iterate 4 (· exact rfl)))
       | ((with_reducible apply v_ldN); (iterate 7 (· exact rfl)))
       | ((with_reducible apply v_lrN); (iterate 8 (· exact rfl)); (· first | omega | (simp only [lens, List.length_map, List.length_range]; omega)))
       | ((with_reducible apply v_fld); (iterate 5 (· exact rfl)); (· kernel_rfl))
       | ((with_reducible apply v_bld); (iterate 6 (· exact rfl)))
       | ((with_reducible apply v_no); (iterate 2 (· exact rfl)))
       | ((with_reducible apply v_no'); (· exact rfl))
       | ((with_reducible apply v_ift); (iterate 2 (· exact rfl)); (· infer_instance))
       | ((with_reducible apply v_iff); (iterate 2 (· exact rfl)); (· infer_instance))
       | ((with_reducible apply v_pif); (· exact rfl); (· infer_instance))
       | (with_reducible apply vo_nil0)
       | ((with_reducible apply vo_nil); (· kernel_rfl))
       | (with_reducible apply w_rs)
       | ((with_reducible apply w_ds); (rotate_left); (iterate 2 (· kernel_rfl)))
       | (with_reducible apply w_r)
       | ((with_reducible apply w_d); (rotate_left); (iterate 2 (· kernel_rfl)))
       | (with_reducible apply w_sks)
       | (with_reducible apply W.skp)
       | (with_reducible apply W.ext)
       | (with_reducible apply W.rt)
       | (with_reducible apply w_blk)
       | ((with_reducible apply W.cT); (· exact rfl))
       | ((with_reducible apply W.cF); (· exact rfl))
       | ((with_reducible apply W.cn); (· exact rfl); (· infer_instance))
       | (with_reducible apply W.sq)
       | (with_reducible apply q_tn)
       | (with_reducible apply q_te)
       | (with_reducible apply q_tr)
       | (with_reducible apply q_bn)
       | (with_reducible apply q_br)
       | ((with_reducible apply q_be); (· exact rfl))
       | ((with_reducible apply q_bx); (· exact rfl))
       | (with_reducible apply q_er)
       | (with_reducible apply q_en)
       | (with_reducible apply q_her)
       | (with_reducible apply q_hen)
       | (intro _))
      · rename_i hc
        refine W.lop (X := Nat) (fun i => mk 78 [(1, .one (.r 1)), (3, .one (.r 10)), (5, .one (.r 21)), (6, .one (.c (.int .i64 c))), (7, .one (.c (.int .i64 i)))] [(1, some (.box 30 [.c (.int .i64 n), .r 5001])), (5001, some (.ro i5 arcs)), (10, some (.vec 3 i1 (R (treeS n.toNat arcs (sordC arcs c ++ (upto i).filter fun k => keyA arcs k == (c : Int))).1))), (21, some (.vec 3 i1 (R (treeS n.toNat arcs (sordC arcs c ++ (upto i).filter fun k => keyA arcs k == (c : Int))).2)))] [1, 10, 21]) (fun i => i ≤ arcs.length) (fun i => arcs.length - i) 0 ?_ ?_ ?_
        · exact (Wk.list [] (by repeat' (first | exact TW.nil | refine TW.cons rfl ?_)) (by refine HW.cons rfl (HW.cons rfl (HW.eq rfl ?_ (HW.eq rfl ?_ HW.nil))) <;> simp [Obj.ren, upto]) rfl)
        · omega
        · intro i h3
          have hmem : ∀ x ∈ sordC arcs c ++ (upto i).filter fun k => keyA arcs k == (c : Int), 0 ≤ x ∧ x < arcs.length := fun x hx => by
            rcases List.mem_append.1 hx with hx | hx
            · exact sordC_mem arcs c x hx
            · have := upto_mem.1 (List.mem_filter.1 hx).1; omega
          have hT := hall _ hmem
          have hlen : (sordC arcs c ++ (upto i).filter fun k => keyA arcs k == (c : Int)).length ≤ 5000 := by
            have g1 := sordC_len arcs c
            have g2 := List.length_filter_le (fun k => keyA arcs k == (c : Int)) (upto i)
            have g3 : c * arcs.length ≤ 100 * 16 := Nat.mul_le_mul (by omega) (by omega)
            rw [upto_length] at g2
            rw [List.length_append]
            omega
          have hnext : sordC arcs c ++ (upto (i + 1)).filter (fun k => keyA arcs k == (c : Int)) = (sordC arcs c ++ (upto i).filter fun k => keyA arcs k == (c : Int)) ++ (if keyA arcs (i : Int) == (c : Int) then [(i : Int)] else []) := by rw [filt_succ, List.append_assoc]
          generalize hll : (sordC arcs c ++ (upto i).filter fun k => keyA arcs k == (c : Int)) = l at *
          obtain ⟨t1, t2, t3⟩ := hT
          by_cases hi : i < arcs.length
          · have ei : ((i : Nat) : Int).toNat = i := by omega
            have ha := okM_arc ho hi
            rw [← ei] at ha
            generalize hS : treeS n.toNat arcs l = s at *
            obtain ⟨one, out⟩ := s
            simp only at t1 t2 t3 ⊢
            have hRo := R_length one
            have hRu := R_length out
            obtain ⟨a1, a2, a3⟩ := root_in t2 _ _ rfl ha.1.1 (by omega)
            obtain ⟨b1, b2, b3⟩ := root_in t2 _ _ rfl ha.2.1.1 (by omega)
            have hsame : (rd arcs ((i : Nat) : Int).toNat 2 ≠ (c : Int) ∨ root one (rd arcs ((i : Nat) : Int).toNat 0) = root one (rd arcs ((i : Nat) : Int).toNat 1)) → treeS n.toNat arcs (sordC arcs c ++ (upto (i + 1)).filter fun k => keyA arcs k == (c : Int)) = (one, out) := fun h => by
              rw [hnext]
              by_cases hk : keyA arcs (i : Int) = (c : Int)
              · rw [if_pos (beq_iff_eq.2 hk), treeS_app, hS, sstep]
                simp only
                rw [if_pos (by rcases h with h | h; exact absurd hk h; exact h)]
              · rw [if_neg (by simpa using hk), List.append_nil, hS]
            have hdiff : rd arcs ((i : Nat) : Int).toNat 2 = (c : Int) → root one (rd arcs ((i : Nat) : Int).toNat 0) ≠ root one (rd arcs ((i : Nat) : Int).toNat 1) → treeS n.toNat arcs (sordC arcs c ++ (upto (i + 1)).filter fun k => keyA arcs k == (c : Int)) = (one.set (max (root one (rd arcs ((i : Nat) : Int).toNat 0)) (root one (rd arcs ((i : Nat) : Int).toNat 1))).toNat (min (root one (rd arcs ((i : Nat) : Int).toNat 0)) (root one (rd arcs ((i : Nat) : Int).toNat 1))), out ++ [(i : Int)]) := fun h1 h2 => by
              rw [hnext, if_pos (beq_iff_eq.2 h1), treeS_app, hS, sstep]
              simp only
              rw [if_neg h2]
            repeat' (first
             | ((with_reducible apply v_call 4000000 (c_189 one _ t2 ha.1.1 (by omega))); (iterate 3 (· exact rfl)); (· repeat' (first | exact DVsOf.nil | apply DVsOf.cons | apply DVof.one | apply DVof.agg | exact DCof.c | exact DCof.nil | exact DCof.nils | ((apply DCof.r); (iterate 2 (· exact rfl))) | ((apply DCof.rs); (iterate 2 (· exact rfl))) | ((apply DCof.mu); (· exact rfl)) | exact DCsOf.nil | apply DCsOf.cons | ((apply DVof_mp); (· exact rfl)) | ((apply DVof_ptr); (iterate 2 (· exact rfl))) | apply DVof.fn | exact DPsOf.nil | ((apply DPsOf_cons); (iterate 2 (· exact rfl))) | exact rfl)); (iterate 4 (· exact rfl)))
             | ((with_reducible apply v_call 4000000 (c_189 one _ t2 ha.2.1.1 (by omega))); (iterate 3 (· exact rfl)); (· repeat' (first | exact DVsOf.nil | apply DVsOf.cons | apply DVof.one | apply DVof.agg | exact DCof.c | exact DCof.nil | exact DCof.nils | ((apply DCof.r); (iterate 2 (· exact rfl))) | ((apply DCof.rs); (iterate 2 (· exact rfl))) | ((apply DCof.mu); (· exact rfl)) | exact DCsOf.nil | apply DCsOf.cons | ((apply DVof_mp); (· exact rfl)) | ((apply DVof_ptr); (iterate 2 (· exact rfl))) | apply DVof.fn | exact DPsOf.nil | ((apply DPsOf_cons); (iterate 2 (· exact rfl))) | exact rfl)); (iterate 4 (· exact rfl)))
             | ((with_reducible apply v_mv); (iterate 3 (· exact rfl)))
             | ((with_reducible apply v_as); (iterate 3 (· exact rfl)))
             | ((with_reducible apply v_fa); (iterate 6 (· exact rfl)))
             | ((with_reducible apply v_far); (iterate 6 (· exact rfl)))
             | ((with_reducible apply v_ia); (iterate 8 (· exact rfl)); (iterate 2 (· first | omega | (simp only [lens, List.length_map, List.length_range]; omega))))
             | ((with_reducible apply v_lr_i64); (iterate 7 (· exact rfl)); (· first | omega | (simp only [lens, List.length_map, List.length_range]; omega)))
             | ((with_reducible apply v_ld); (iterate 6 (· exact rfl)))
             | ((with_reducible apply v_st); (iterate 7 (· exact rfl)))
             | ((with_reducible apply v_sr); (iterate 7 (· exact rfl)); (· first | omega | (simp only [lens, List.length_map, List.length_range]; omega)))
             | ((with_reducible apply v_srN); (iterate 7 (· exact rfl)); (· repeat' (first | exact RowC.nil | apply RowC.i | apply RowC.b)); (· first | omega | (simp only [lens, List.length_map, List.length_range]; omega)))
             | ((with_reducible apply v_tgt); (iterate 9 (· exact rfl)); (iterate 3 (· first | omega | (simp only [lens, List.length_map, List.length_range]; omega))); (· exact rfl))
             | ((with_reducible apply v_mks); (iterate 10 (· exact rfl)); (iterate 3 (· first | omega | (simp only [lens, List.length_map, List.length_range]; omega))))
             | ((with_reducible apply v_ext); (iterate 5 (· exact rfl)))
             | ((with_reducible apply v_cnv); (iterate 6 (· exact rfl)))
             | ((with_reducible apply v_min); (iterate 4 (· exact rfl)))
             | ((with_reducible apply v_max); (iterate 4 (· exact rfl)))
             | ((with_reducible apply v_ncr); (iterate 4 (· exact rfl)))
             | ((with_reducible apply v_ncp); (iterate 3 (· exact rfl)))
             | ((with_reducible apply v_lr_b); (iterate 7 (· exact rfl)); (· first | omega | (simp only [lens, List.length_map, List.length_range]; omega)))
             | ((with_reducible apply v_lr_u8); (iterate 7 (· exact rfl)); (· first | omega | (simp only [lens, List.length_map, List.length_range]; omega)))
             | ((with_reducible apply v_mkf); (iterate 3 (· exact rfl)))
             | ((with_reducible apply v_lss); (iterate 4 (· exact rfl)))
             | ((with_reducible apply v_leq); (iterate 4 (· exact rfl)))
             | ((with_reducible apply v_gtr); (iterate 4 (· exact rfl)))
             | ((with_reducible apply v_geq); (iterate 4 (· exact rfl)))
             | ((with_reducible apply v_eql); (iterate 4 (· exact rfl)))
             | ((with_reducible apply v_neq); (iterate 4 (· exact rfl)))
             | ((with_reducible apply v_add); (iterate 4 (· exact rfl)); (· first | omega | (simp only [lens, List.length_map, List.length_range]; omega)))
             | ((with_reducible apply v_sub); (iterate 4 (· exact rfl)); (· first | omega | (simp only [lens, List.length_map, List.length_range]; omega)))
             | ((with_reducible apply v_pkT); (iterate 4 (· exact rfl)))
             | ((with_reducible apply v_pkF); (iterate 4 (· exact rfl)))
             | ((with_reducible apply v_not); (iterate 3 (· exact rfl)))
             | ((with_reducible apply v_len); (iterate 5 (· exact rfl)))
             | ((with_reducible apply v_lenn); (iterate 4 (· exact rfl)))
             | ((with_reducible apply v_lit); (iterate 9 (· exact rfl)); (· repeat' (first | exact PartsC.nil | ((apply PartsC.cons); (· exact rfl)) | exact RowC.nil | apply RowC.i | apply RowC.b)))
             | ((with_reducible apply v_ap); (iterate 11 (· exact rfl)); (· first | omega | (simp only [lens, List.length_map, List.length_range]; omega)))
             | ((with_reducible apply v_ap0); (iterate 10 (· exact rfl)); (· first | omega | (simp only [lens, List.length_map, List.length_range]; omega)))
             | ((with_reducible apply v_alc); (iterate 5 (· exact rfl)))
             | ((with_reducible apply v_box); (iterate 4 (· exact rfl)))
             | ((with_reducible apply v_ldN); (iterate 7 (· exact rfl)))
             | ((with_reducible apply v_lrN); (iterate 8 (· exact rfl)); (· first | omega | (simp only [lens, List.length_map, List.length_range]; omega)))
             | ((with_reducible apply v_fld); (iterate 5 (· exact rfl)); (· kernel_rfl))
             | ((with_reducible apply v_bld); (iterate 6 (· exact rfl)))
             | ((with_reducible apply v_no); (iterate 2 (· exact rfl)))
             | ((with_reducible apply v_no'); (· exact rfl))
             | ((with_reducible apply v_ift); (iterate 2 (· exact rfl)); (· infer_instance))
             | ((with_reducible apply v_iff); (iterate 2 (· exact rfl)); (· infer_instance))
             | ((with_reducible apply v_pif); (· exact rfl); (· infer_instance))
             | (with_reducible apply vo_nil0)
             | ((with_reducible apply vo_nil); (· kernel_rfl))
             | (with_reducible apply w_rs)
             | ((with_reducible apply w_ds); (rotate_left); (iterate 2 (· kernel_rfl)))
             | (with_reducible apply w_r)
             | ((with_reducible apply w_d); (rotate_left); (iterate 2 (· kernel_rfl)))
             | (with_reducible apply w_sks)
             | (with_reducible apply W.skp)
             | (with_reducible apply W.ext)
             | (with_reducible apply W.rt)
             | (with_reducible apply w_blk)
             | ((with_reducible apply W.cT); (· exact rfl))
             | ((with_reducible apply W.cF); (· exact rfl))
             | ((with_reducible apply W.cn); (· exact rfl); (· infer_instance))
             | (with_reducible apply W.sq)
             | (with_reducible apply q_tn)
             | (with_reducible apply q_te)
             | (with_reducible apply q_tr)
             | (with_reducible apply q_bn)
             | (with_reducible apply q_br)
             | ((with_reducible apply q_be); (· exact rfl))
             | ((with_reducible apply q_bx); (· exact rfl))
             | (with_reducible apply q_er)
             | (with_reducible apply q_en)
             | (with_reducible apply q_her)
             | (with_reducible apply q_hen)
             | (intro _))
            all_goals first
              | (exfalso; omega)
              | exact W.round (i + 1) (Wk.list [] (by repeat' (first | exact TW.nil | refine TW.cons rfl ?_)) (by refine HW.cons rfl (HW.cons rfl (HW.eq rfl ?_ (HW.eq rfl ?_ HW.nil))) <;> (simp only [Obj.ren]; rw [hsame (by first | exact .inl (by assumption) | exact .inr (by assumption))])) rfl) (by omega) (by omega)
              | exact W.round (i + 1) (Wk.list [(21, 76)] (by repeat' (first | exact TW.nil | refine TW.cons rfl ?_)) (by refine HW.cons rfl (HW.cons rfl (HW.eq rfl ?_ (HW.eq rfl ?_ HW.nil))) <;> (simp only [Obj.ren]; rw [hdiff (by omega) (by omega)]); (· first | (rw [R_set _ (by omega), show max (root one (rd arcs ((i : Nat) : Int).toNat 0)) (root one (rd arcs ((i : Nat) : Int).toNat 1)) = root one (rd arcs ((i : Nat) : Int).toNat 1) by omega, show min (root one (rd arcs ((i : Nat) : Int).toNat 0)) (root one (rd arcs ((i : Nat) : Int).toNat 1)) = root one (rd arcs ((i : Nat) : Int).toNat 0) by omega]) | (rw [R_set _ (by omega), show max (root one (rd arcs ((i : Nat) : Int).toNat 0)) (root one (rd arcs ((i : Nat) : Int).toNat 1)) = root one (rd arcs ((i : Nat) : Int).toNat 0) by omega, show min (root one (rd arcs ((i : Nat) : Int).toNat 0)) (root one (rd arcs ((i : Nat) : Int).toNat 1)) = root one (rd arcs ((i : Nat) : Int).toNat 1) by omega])); (· rw [R_append]; rfl)) rfl) (by omega) (by omega)
              | skip
          · have : i = arcs.length := by omega
            subst this
            repeat' (first
             | ((with_reducible apply v_mv); (iterate 3 (· exact rfl)))
             | ((with_reducible apply v_as); (iterate 3 (· exact rfl)))
             | ((with_reducible apply v_fa); (iterate 6 (· exact rfl)))
             | ((with_reducible apply v_far); (iterate 6 (· exact rfl)))
             | ((with_reducible apply v_ia); (iterate 8 (· exact rfl)); (iterate 2 (· first | omega | (simp only [lens, List.length_map, List.length_range]; omega))))
             | ((with_reducible apply v_lr_i64); (iterate 7 (· exact rfl)); (· first | omega | (simp only [lens, List.length_map, List.length_range]; omega)))
             | ((with_reducible apply v_ld); (iterate 6 (· exact rfl)))
             | ((with_reducible apply v_st); (iterate 7 (· exact rfl)))
             | ((with_reducible apply v_sr); (iterate 7 (· exact rfl)); (· first | omega | (simp only [lens, List.length_map, List.length_range]; omega)))
             | ((with_reducible apply v_srN); (iterate 7 (· exact rfl)); (· repeat' (first | exact RowC.nil | apply RowC.i | apply RowC.b)); (· first | omega | (simp only [lens, List.length_map, List.length_range]; omega)))
             | ((with_reducible apply v_tgt); (iterate 9 (· exact rfl)); (iterate 3 (· first | omega | (simp only [lens, List.length_map, List.length_range]; omega))); (· exact rfl))
             | ((with_reducible apply v_mks); (iterate 10 (· exact rfl)); (iterate 3 (· first | omega | (simp only [lens, List.length_map, List.length_range]; omega))))
             | ((with_reducible apply v_ext); (iterate 5 (· exact rfl)))
             | ((with_reducible apply v_cnv); (iterate 6 (· exact rfl)))
             | ((with_reducible apply v_min); (iterate 4 (· exact rfl)))
             | ((with_reducible apply v_max); (iterate 4 (· exact rfl)))
             | ((with_reducible apply v_ncr); (iterate 4 (· exact rfl)))
             | ((with_reducible apply v_ncp); (iterate 3 (· exact rfl)))
             | ((with_reducible apply v_lr_b); (iterate 7 (· exact rfl)); (· first | omega | (simp only [lens, List.length_map, List.length_range]; omega)))
             | ((with_reducible apply v_lr_u8); (iterate 7 (· exact rfl)); (· first | omega | (simp only [lens, List.length_map, List.length_range]; omega)))
             | ((with_reducible apply v_mkf); (iterate 3 (· exact rfl)))
             | ((with_reducible apply v_lss); (iterate 4 (· exact rfl)))
             | ((with_reducible apply v_leq); (iterate 4 (· exact rfl)))
             | ((with_reducible apply v_gtr); (iterate 4 (· exact rfl)))
             | ((with_reducible apply v_geq); (iterate 4 (· exact rfl)))
             | ((with_reducible apply v_eql); (iterate 4 (· exact rfl)))
             | ((with_reducible apply v_neq); (iterate 4 (· exact rfl)))
             | ((with_reducible apply v_add); (iterate 4 (· exact rfl)); (· first | omega | (simp only [lens, List.length_map, List.length_range]; omega)))
             | ((with_reducible apply v_sub); (iterate 4 (· exact rfl)); (· first | omega | (simp only [lens, List.length_map, List.length_range]; omega)))
             | ((with_reducible apply v_pkT); (iterate 4 (· exact rfl)))
             | ((with_reducible apply v_pkF); (iterate 4 (· exact rfl)))
             | ((with_reducible apply v_not); (iterate 3 (· exact rfl)))
             | ((with_reducible apply v_len); (iterate 5 (· exact rfl)))
             | ((with_reducible apply v_lenn); (iterate 4 (· exact rfl)))
             | ((with_reducible apply v_lit); (iterate 9 (· exact rfl)); (· repeat' (first | exact PartsC.nil | ((apply PartsC.cons); (· exact rfl)) | exact RowC.nil | apply RowC.i | apply RowC.b)))
             | ((with_reducible apply v_ap); (iterate 11 (· exact rfl)); (· first | omega | (simp only [lens, List.length_map, List.length_range]; omega)))
             | ((with_reducible apply v_ap0); (iterate 10 (· exact rfl)); (· first | omega | (simp only [lens, List.length_map, List.length_range]; omega)))
             | ((with_reducible apply v_alc); (iterate 5 (· exact rfl)))
             | ((with_reducible apply v_box); (iterate 4 (· exact rfl)))
             | ((with_reducible apply v_ldN); (iterate 7 (· exact rfl)))
             | ((with_reducible apply v_lrN); (iterate 8 (· exact rfl)); (· first | omega | (simp only [lens, List.length_map, List.length_range]; omega)))
             | ((with_reducible apply v_fld); (iterate 5 (· exact rfl)); (· kernel_rfl))
             | ((with_reducible apply v_bld); (iterate 6 (· exact rfl)))
             | ((with_reducible apply v_no); (iterate 2 (· exact rfl)))
             | ((with_reducible apply v_no'); (· exact rfl))
             | ((with_reducible apply v_ift); (iterate 2 (· exact rfl)); (· infer_instance))
             | ((with_reducible apply v_iff); (iterate 2 (· exact rfl)); (· infer_instance))
             | ((with_reducible apply v_pif); (· exact rfl); (· infer_instance))
             | (with_reducible apply vo_nil0)
             | ((with_reducible apply vo_nil); (· kernel_rfl))
             | (with_reducible apply w_rs)
             | ((with_reducible apply w_ds); (rotate_left); (iterate 2 (· kernel_rfl)))
             | (with_reducible apply w_r)
             | ((with_reducible apply w_d); (rotate_left); (iterate 2 (· kernel_rfl)))
             | (with_reducible apply w_sks)
             | (with_reducible apply W.skp)
             | (with_reducible apply W.ext)
             | (with_reducible apply W.rt)
             | (with_reducible apply w_blk)
             | ((with_reducible apply W.cT); (· exact rfl))
             | ((with_reducible apply W.cF); (· exact rfl))
             | ((with_reducible apply W.cn); (· exact rfl); (· infer_instance))
             | (with_reducible apply W.sq)
             | (with_reducible apply q_tn)
             | (with_reducible apply q_te)
             | (with_reducible apply q_tr)
             | (with_reducible apply q_bn)
             | (with_reducible apply q_br)
             | ((with_reducible apply q_be); (· exact rfl))
             | ((with_reducible apply q_bx); (· exact rfl))
             | (with_reducible apply q_er)
             | (with_reducible apply q_en)
             | (with_reducible apply q_her)
             | (with_reducible apply q_hen)
             | (intro _))
            all_goals first
              | (exfalso; omega)
              | skip
            refine W.round (c + 1) (Wk.list [] (by repeat' (first | exact TW.nil | refine TW.cons rfl ?_)) (by refine HW.cons rfl (HW.cons rfl (HW.eq rfl ?_ (HW.eq rfl ?_ HW.nil))) <;> (simp only [Obj.ren]; rw [sordC_succ, hll])) rfl) (by omega) (by omega)
      · have : c = 100 := by omega
        subst this
        exact e_vec rfl rfl rfl rfl
theorem c_34 (n : Int) (arcs : List (List Int)) (hl : arcs.length < 1000000000) : OK Try.prog 34 [dNet n arcs] (dL (if okM n arcs = true then (treeS n.toNat arcs (sordC arcs 100)).2 else [])) := by
  have h1 := c_89 n arcs hl
  rw [netB_okM] at h1
  by_cases ho : okM n arcs = true
  · have h2 := c_102 n arcs ho
    rw [if_pos ho]
    refine W.fn 8 [.tmp 2] hTT Try.func34 rfl rfl rfl rfl rfl rfl rfl rfl ?_
    repeat' (first
     | ((with_reducible apply v_call 4000000 (h1)); (iterate 3 (· exact rfl)); (· repeat' (first | exact DVsOf.nil | apply DVsOf.cons | apply DVof.one | apply DVof.agg | exact DCof.c | exact DCof.nil | exact DCof.nils | ((apply DCof.r); (iterate 2 (· exact rfl))) | ((apply DCof.rs); (iterate 2 (· exact rfl))) | ((apply DCof.mu); (· exact rfl)) | exact DCsOf.nil | apply DCsOf.cons | ((apply DVof_mp); (· exact rfl)) | ((apply DVof_ptr); (iterate 2 (· exact rfl))) | apply DVof.fn | exact DPsOf.nil | ((apply DPsOf_cons); (iterate 2 (· exact rfl))) | exact rfl)); (iterate 4 (· exact rfl)))
     | ((with_reducible apply v_call 60000 (h2)); (iterate 3 (· exact rfl)); (· repeat' (first | exact DVsOf.nil | apply DVsOf.cons | apply DVof.one | apply DVof.agg | exact DCof.c | exact DCof.nil | exact DCof.nils | ((apply DCof.r); (iterate 2 (· exact rfl))) | ((apply DCof.rs); (iterate 2 (· exact rfl))) | ((apply DCof.mu); (· exact rfl)) | exact DCsOf.nil | apply DCsOf.cons | ((apply DVof_mp); (· exact rfl)) | ((apply DVof_ptr); (iterate 2 (· exact rfl))) | apply DVof.fn | exact DPsOf.nil | ((apply DPsOf_cons); (iterate 2 (· exact rfl))) | exact rfl)); (iterate 4 (· exact rfl)))
     | ((with_reducible apply v_mv); (iterate 3 (· exact rfl)))
     | ((with_reducible apply v_as); (iterate 3 (· exact rfl)))
     | ((with_reducible apply v_fa); (iterate 6 (· exact rfl)))
     | ((with_reducible apply v_far); (iterate 6 (· exact rfl)))
     | ((with_reducible apply v_ia); (iterate 8 (· exact rfl)); (iterate 2 (· first | omega | (simp only [lens, List.length_map, List.length_range]; omega))))
     | ((with_reducible apply v_lr_i64); (iterate 7 (· exact rfl)); (· first | omega | (simp only [lens, List.length_map, List.length_range]; omega)))
     | ((with_reducible apply v_ld); (iterate 6 (· exact rfl)))
     | ((with_reducible apply v_st); (iterate 7 (· exact rfl)))
     | ((with_reducible apply v_sr); (iterate 7 (· exact rfl)); (· first | omega | (simp only [lens, List.length_map, List.length_range]; omega)))
     | ((with_reducible apply v_srN); (iterate 7 (· exact rfl)); (· repeat' (first | exact RowC.nil | apply RowC.i | apply RowC.b)); (· first | omega | (simp only [lens, List.length_map, List.length_range]; omega)))
     | ((with_reducible apply v_tgt); (iterate 9 (· exact rfl)); (iterate 3 (· first | omega | (simp only [lens, List.length_map, List.length_range]; omega))); (· exact rfl))
     | ((with_reducible apply v_mks); (iterate 10 (· exact rfl)); (iterate 3 (· first | omega | (simp only [lens, List.length_map, List.length_range]; omega))))
     | ((with_reducible apply v_ext); (iterate 5 (· exact rfl)))
     | ((with_reducible apply v_cnv); (iterate 6 (· exact rfl)))
     | ((with_reducible apply v_min); (iterate 4 (· exact rfl)))
     | ((with_reducible apply v_max); (iterate 4 (· exact rfl)))
     | ((with_reducible apply v_ncr); (iterate 4 (· exact rfl)))
     | ((with_reducible apply v_ncp); (iterate 3 (· exact rfl)))
     | ((with_reducible apply v_lr_b); (iterate 7 (· exact rfl)); (· first | omega | (simp only [lens, List.length_map, List.length_range]; omega)))
     | ((with_reducible apply v_lr_u8); (iterate 7 (· exact rfl)); (· first | omega | (simp only [lens, List.length_map, List.length_range]; omega)))
     | ((with_reducible apply v_mkf); (iterate 3 (· exact rfl)))
     | ((with_reducible apply v_lss); (iterate 4 (· exact rfl)))
     | ((with_reducible apply v_leq); (iterate 4 (· exact rfl)))
     | ((with_reducible apply v_gtr); (iterate 4 (· exact rfl)))
     | ((with_reducible apply v_geq); (iterate 4 (· exact rfl)))
     | ((with_reducible apply v_eql); (iterate 4 (· exact rfl)))
     | ((with_reducible apply v_neq); (iterate 4 (· exact rfl)))
     | ((with_reducible apply v_add); (iterate 4 (· exact rfl)); (· first | omega | (simp only [lens, List.length_map, List.length_range]; omega)))
     | ((with_reducible apply v_sub); (iterate 4 (· exact rfl)); (· first | omega | (simp only [lens, List.length_map, List.length_range]; omega)))
     | ((with_reducible apply v_pkT); (iterate 4 (· exact rfl)))
     | ((with_reducible apply v_pkF); (iterate 4 (· exact rfl)))
     | ((with_reducible apply v_not); (iterate 3 (· exact rfl)))
     | ((with_reducible apply v_len); (iterate 5 (· exact rfl)))
     | ((with_reducible apply v_lenn); (iterate 4 (· exact rfl)))
     | ((with_reducible apply v_lit); (iterate 9 (· exact rfl)); (· repeat' (first | exact PartsC.nil | ((apply PartsC.cons); (· exact rfl)) | exact RowC.nil | apply RowC.i | apply RowC.b)))
     | ((with_reducible apply v_ap); (iterate 11 (· exact rfl)); (· first | omega | (simp only [lens, List.length_map, List.length_range]; omega)))
     | ((with_reducible apply v_ap0); (iterate 10 (· exact rfl)); (· first | omega | (simp only [lens, List.length_map, List.length_range]; omega)))
     | ((with_reducible apply v_alc); (iterate 5 (· exact rfl)))
     | ((with_reducible apply v_box); (iterate 4 (· exact rfl)))
     | ((with_reducible apply v_ldN); (iterate 7 (· exact rfl)))
     | ((with_reducible apply v_lrN); (iterate 8 (· exact rfl)); (· first | omega | (simp only [lens, List.length_map, List.length_range]; omega)))
     | ((with_reducible apply v_fld); (iterate 5 (· exact rfl)); (· kernel_rfl))
     | ((with_reducible apply v_bld); (iterate 6 (· exact rfl)))
     | ((with_reducible apply v_no); (iterate 2 (· exact rfl)))
     | ((with_reducible apply v_no'); (· exact rfl))
     | ((with_reducible apply v_ift); (iterate 2 (· exact rfl)); (· infer_instance))
     | ((with_reducible apply v_iff); (iterate 2 (· exact rfl)); (· infer_instance))
     | ((with_reducible apply v_pif); (· exact rfl); (· infer_instance))
     | (with_reducible apply vo_nil0)
     | ((with_reducible apply vo_nil); (· kernel_rfl))
     | (with_reducible apply w_rs)
     | ((with_reducible apply w_ds); (rotate_left); (iterate 2 (· kernel_rfl)))
     | (with_reducible apply w_r)
     | ((with_reducible apply w_d); (rotate_left); (iterate 2 (· kernel_rfl)))
     | (with_reducible apply w_sks)
     | (with_reducible apply W.skp)
     | (with_reducible apply W.ext)
     | (with_reducible apply W.rt)
     | (with_reducible apply w_blk)
     | ((with_reducible apply W.cT); (· exact rfl))
     | ((with_reducible apply W.cF); (· exact rfl))
     | ((with_reducible apply W.cn); (· exact rfl); (· infer_instance))
     | (with_reducible apply W.sq)
     | (with_reducible apply q_tn)
     | (with_reducible apply q_te)
     | (with_reducible apply q_tr)
     | (with_reducible apply q_bn)
     | (with_reducible apply q_br)
     | ((with_reducible apply q_be); (· exact rfl))
     | ((with_reducible apply q_bx); (· exact rfl))
     | (with_reducible apply q_er)
     | (with_reducible apply q_en)
     | (with_reducible apply q_her)
     | (with_reducible apply q_hen)
     | (intro _))
    · exfalso; simp_all
    · exact e_vec rfl rfl rfl rfl
  · rw [if_neg ho]
    refine W.fn 8 [.tmp 2] hTT Try.func34 rfl rfl rfl rfl rfl rfl rfl rfl ?_
    repeat' (first
     | ((with_reducible apply v_call 4000000 (h1)); (iterate 3 (· exact rfl)); (· repeat' (first | exact DVsOf.nil | apply DVsOf.cons | apply DVof.one | apply DVof.agg | exact DCof.c | exact DCof.nil | exact DCof.nils | ((apply DCof.r); (iterate 2 (· exact rfl))) | ((apply DCof.rs); (iterate 2 (· exact rfl))) | ((apply DCof.mu); (· exact rfl)) | exact DCsOf.nil | apply DCsOf.cons | ((apply DVof_mp); (· exact rfl)) | ((apply DVof_ptr); (iterate 2 (· exact rfl))) | apply DVof.fn | exact DPsOf.nil | ((apply DPsOf_cons); (iterate 2 (· exact rfl))) | exact rfl)); (iterate 4 (· exact rfl)))
     | ((with_reducible apply v_mv); (iterate 3 (· exact rfl)))
     | ((with_reducible apply v_as); (iterate 3 (· exact rfl)))
     | ((with_reducible apply v_fa); (iterate 6 (· exact rfl)))
     | ((with_reducible apply v_far); (iterate 6 (· exact rfl)))
     | ((with_reducible apply v_ia); (iterate 8 (· exact rfl)); (iterate 2 (· first | omega | (simp only [lens, List.length_map, List.length_range]; omega))))
     | ((with_reducible apply v_lr_i64); (iterate 7 (· exact rfl)); (· first | omega | (simp only [lens, List.length_map, List.length_range]; omega)))
     | ((with_reducible apply v_ld); (iterate 6 (· exact rfl)))
     | ((with_reducible apply v_st); (iterate 7 (· exact rfl)))
     | ((with_reducible apply v_sr); (iterate 7 (· exact rfl)); (· first | omega | (simp only [lens, List.length_map, List.length_range]; omega)))
     | ((with_reducible apply v_srN); (iterate 7 (· exact rfl)); (· repeat' (first | exact RowC.nil | apply RowC.i | apply RowC.b)); (· first | omega | (simp only [lens, List.length_map, List.length_range]; omega)))
     | ((with_reducible apply v_tgt); (iterate 9 (· exact rfl)); (iterate 3 (· first | omega | (simp only [lens, List.length_map, List.length_range]; omega))); (· exact rfl))
     | ((with_reducible apply v_mks); (iterate 10 (· exact rfl)); (iterate 3 (· first | omega | (simp only [lens, List.length_map, List.length_range]; omega))))
     | ((with_reducible apply v_ext); (iterate 5 (· exact rfl)))
     | ((with_reducible apply v_cnv); (iterate 6 (· exact rfl)))
     | ((with_reducible apply v_min); (iterate 4 (· exact rfl)))
     | ((with_reducible apply v_max); (iterate 4 (· exact rfl)))
     | ((with_reducible apply v_ncr); (iterate 4 (· exact rfl)))
     | ((with_reducible apply v_ncp); (iterate 3 (· exact rfl)))
     | ((with_reducible apply v_lr_b); (iterate 7 (· exact rfl)); (· first | omega | (simp only [lens, List.length_map, List.length_range]; omega)))
     | ((with_reducible apply v_lr_u8); (iterate 7 (· exact rfl)); (· first | omega | (simp only [lens, List.length_map, List.length_range]; omega)))
     | ((with_reducible apply v_mkf); (iterate 3 (· exact rfl)))
     | ((with_reducible apply v_lss); (iterate 4 (· exact rfl)))
     | ((with_reducible apply v_leq); (iterate 4 (· exact rfl)))
     | ((with_reducible apply v_gtr); (iterate 4 (· exact rfl)))
     | ((with_reducible apply v_geq); (iterate 4 (· exact rfl)))
     | ((with_reducible apply v_eql); (iterate 4 (· exact rfl)))
     | ((with_reducible apply v_neq); (iterate 4 (· exact rfl)))
     | ((with_reducible apply v_add); (iterate 4 (· exact rfl)); (· first | omega | (simp only [lens, List.length_map, List.length_range]; omega)))
     | ((with_reducible apply v_sub); (iterate 4 (· exact rfl)); (· first | omega | (simp only [lens, List.length_map, List.length_range]; omega)))
     | ((with_reducible apply v_pkT); (iterate 4 (· exact rfl)))
     | ((with_reducible apply v_pkF); (iterate 4 (· exact rfl)))
     | ((with_reducible apply v_not); (iterate 3 (· exact rfl)))
     | ((with_reducible apply v_len); (iterate 5 (· exact rfl)))
     | ((with_reducible apply v_lenn); (iterate 4 (· exact rfl)))
     | ((with_reducible apply v_lit); (iterate 9 (· exact rfl)); (· repeat' (first | exact PartsC.nil | ((apply PartsC.cons); (· exact rfl)) | exact RowC.nil | apply RowC.i | apply RowC.b)))
     | ((with_reducible apply v_ap); (iterate 11 (· exact rfl)); (· first | omega | (simp only [lens, List.length_map, List.length_range]; omega)))
     | ((with_reducible apply v_ap0); (iterate 10 (· exact rfl)); (· first | omega | (simp only [lens, List.length_map, List.length_range]; omega)))
     | ((with_reducible apply v_alc); (iterate 5 (· exact rfl)))
     | ((with_reducible apply v_box); (iterate 4 (· exact rfl)))
     | ((with_reducible apply v_ldN); (iterate 7 (· exact rfl)))
     | ((with_reducible apply v_lrN); (iterate 8 (· exact rfl)); (· first | omega | (simp only [lens, List.length_map, List.length_range]; omega)))
     | ((with_reducible apply v_fld); (iterate 5 (· exact rfl)); (· kernel_rfl))
     | ((with_reducible apply v_bld); (iterate 6 (· exact rfl)))
     | ((with_reducible apply v_no); (iterate 2 (· exact rfl)))
     | ((with_reducible apply v_no'); (· exact rfl))
     | ((with_reducible apply v_ift); (iterate 2 (· exact rfl)); (· infer_instance))
     | ((with_reducible apply v_iff); (iterate 2 (· exact rfl)); (· infer_instance))
     | ((with_reducible apply v_pif); (· exact rfl); (· infer_instance))
     | (with_reducible apply vo_nil0)
     | ((with_reducible apply vo_nil); (· kernel_rfl))
     | (with_reducible apply w_rs)
     | ((with_reducible apply w_ds); (rotate_left); (iterate 2 (· kernel_rfl)))
     | (with_reducible apply w_r)
     | ((with_reducible apply w_d); (rotate_left); (iterate 2 (· kernel_rfl)))
     | (with_reducible apply w_sks)
     | (with_reducible apply W.skp)
     | (with_reducible apply W.ext)
     | (with_reducible apply W.rt)
     | (with_reducible apply w_blk)
     | ((with_reducible apply W.cT); (· exact rfl))
     | ((with_reducible apply W.cF); (· exact rfl))
     | ((with_reducible apply W.cn); (· exact rfl); (· infer_instance))
     | (with_reducible apply W.sq)
     | (with_reducible apply q_tn)
     | (with_reducible apply q_te)
     | (with_reducible apply q_tr)
     | (with_reducible apply q_bn)
     | (with_reducible apply q_br)
     | ((with_reducible apply q_be); (· exact rfl))
     | ((with_reducible apply q_bx); (· exact rfl))
     | (with_reducible apply q_er)
     | (with_reducible apply q_en)
     | (with_reducible apply q_her)
     | (with_reducible apply q_hen)
     | (intro _))
    · exact e_nil rfl rfl rfl
    · exfalso; simp_all
end Go.AM
set_option linter.unusedVariables false
set_option linter.unusedSimpArgs false
set_option maxRecDepth 4000
namespace Go.AM
open Go.Proofs

theorem gt_set {L : List Int} {i j : Nat} {x : Int} (hi : i < L.length) : gt (L.set i x) j = if i = j then x else gt L j := by
  simp only [gt, List.getD_eq_getElem?_getD]
  rw [List.getElem?_set]
  split
  · first
      | rfl
      | (rw [if_pos (by omega)]; rfl)
  · rfl
theorem root_set {one : List Int} (hp : Par one) {a b : Int} (ha0 : 0 ≤ a) (ha1 : a < one.length) (hb0 : 0 ≤ b) (hb1 : b < one.length) (ha : gt one a.toNat = a) (hb : gt one b.toNat = b) (hab : a < b) (hp' : Par (one.set b.toNat a)) : ∀ (k : Nat) (v : Int), v.toNat = k → 0 ≤ v → v < one.length → root (one.set b.toNat a) v = if root one v = b then a else root one v := by
  intro k
  induction k using Nat.strongRecOn with
  | _ k ih =>
    intro v hk h0 h1
    have hg : ∀ j : Nat, gt (one.set b.toNat a) j = if b.toNat = j then a else gt one j := fun j => gt_set (by omega)
    by_cases hr : gt one v.toNat = v
    · rw [root_self hr]
      by_cases hvb : v = b
      · subst hvb
        rw [if_pos rfl]
        have h2 : gt (one.set v.toNat a) v.toNat ≠ v := by rw [hg, if_pos rfl]; omega
        rw [root_up hp' h0 (by simpa using h1) h2, hg, if_pos rfl, root_self (by rw [hg, if_neg (by omega), ha])]
      · rw [if_neg hvb, root_self (by rw [hg, if_neg (by omega), hr])]
    · have hw := hp v.toNat (by omega)
      have hvb : v ≠ b := fun e => by subst e; exact hr hb
      have h2 : gt (one.set b.toNat a) v.toNat = gt one v.toNat := by rw [hg, if_neg (by omega)]
      rw [root_up hp' h0 (by simpa using h1) (by rw [h2]; exact hr), h2, root_up hp h0 h1 hr]
      exact ih (gt one v.toNat).toNat (by omega) _ rfl hw.1 (by omega)
theorem gt_map {L : List Int} {j : Nat} (f : Int → Int) (h : j < L.length) : gt (L.map f) j = f (gt L j) := by
  simp [gt, List.getD_eq_getElem?_getD, List.getElem?_map, List.getElem?_eq_getElem h]
theorem gt_upto {n j : Nat} (h : j < n) : gt (upto n) j = j := by
  simp [gt, upto, List.getD_eq_getElem?_getD, List.getElem?_range, h]
/-- The two ways to take arcs go together. -/
theorem tree_same {n : Nat} {arcs : List (List Int)} (h : ∀ j, j < arcs.length → (0 ≤ rd arcs j 0 ∧ rd arcs j 0 < n) ∧ (0 ≤ rd arcs j 1 ∧ rd arcs j 1 < n)) : ∀ (l : List Int) (s : List Int × List Int) (m : Nat), (∀ x ∈ l, 0 ≤ x ∧ x < arcs.length) → Tok n m s → (∀ v : Nat, v < n → gt (joinM n arcs s.2) v = root s.1 v) →
    l.foldl (tstep n arcs) s.2 = (l.foldl (sstep arcs) s).2
  | [], s, m, _, _, _ => rfl
  | k :: l, s, m, hl, ht, hr => by
    have hk := hl k (by simp)
    obtain ⟨h0, h1⟩ := h k.toNat (by omega)
    obtain ⟨one, out⟩ := s
    obtain ⟨t1, t2, t3⟩ := ht
    simp only at t1 t2 t3 hr
    have e0 := hr (rd arcs k.toNat 0).toNat (by omega)
    have e1 := hr (rd arcs k.toNat 1).toNat (by omega)
    rw [Int.toNat_of_nonneg h0.1] at e0
    rw [Int.toNat_of_nonneg h1.1] at e1
    obtain ⟨a1, a2, a3⟩ := root_in t2 _ _ rfl h0.1 (by omega)
    obtain ⟨b1, b2, b3⟩ := root_in t2 _ _ rfl h1.1 (by omega)
    have ht' := Tok.step (arcs := arcs) (k := k) (⟨t1, t2, t3⟩ : Tok n m (one, out)) h0 h1
    rw [List.foldl_cons, List.foldl_cons]
    by_cases hab : root one (rd arcs k.toNat 0) = root one (rd arcs k.toNat 1)
    · have q1 : tstep n arcs out k = out := by rw [tstep, e0, e1, if_neg (by simpa using hab)]
      have q2 : sstep arcs (one, out) k = (one, out) := by rw [sstep]; simp only; rw [if_pos hab]
      rw [q2]
      show l.foldl _ (tstep n arcs out k) = _
      rw [q1]
      exact tree_same h l (one, out) m (fun x hx => hl x (by simp [hx])) ⟨t1, t2, t3⟩ hr
    · have q1 : tstep n arcs out k = out ++ [k] := by rw [tstep, e0, e1, if_pos hab]
      have q2 : sstep arcs (one, out) k = (one.set (max (root one (rd arcs k.toNat 0)) (root one (rd arcs k.toNat 1))).toNat (min (root one (rd arcs k.toNat 0)) (root one (rd arcs k.toNat 1))), out ++ [k]) := by rw [sstep]; simp only; rw [if_neg hab]
      rw [q2] at ht' ⊢
      show l.foldl _ (tstep n arcs out k) = _
      rw [q1]
      refine tree_same h l (_, out ++ [k]) (m + 1) (fun x hx => hl x (by simp [hx])) ht' (fun v hv => ?_)
      have hj : joinM n arcs (out ++ [k]) = jstep arcs (joinM n arcs out) k := by simp [joinM]
      rw [hj, jstep, e0, e1, gt_map _ (by rw [joinM_length]; exact hv), hr v hv, relab]
      have := root_set t2 (a := min (root one (rd arcs k.toNat 0)) (root one (rd arcs k.toNat 1))) (b := max (root one (rd arcs k.toNat 0)) (root one (rd arcs k.toNat 1))) (by omega) (by omega) (by omega) (by omega)
        (by rcases Int.le_total (root one (rd arcs k.toNat 0)) (root one (rd arcs k.toNat 1)) with g | g
            · rw [Int.min_eq_left g]; exact a3
            · rw [Int.min_eq_right g]; exact b3)
        (by rcases Int.le_total (root one (rd arcs k.toNat 0)) (root one (rd arcs k.toNat 1)) with g | g
            · rw [Int.max_eq_right g]; exact b3
            · rw [Int.max_eq_left g]; exact a3) (by omega) ht'.par _ (v : Int) rfl (by omega) (by omega)
      exact this.symm

/-! ### The order is the same -/
abbrev leK (key : Int → Int) (x : Int) (y : Int) : Bool := decide (key y ≤ key x)
abbrev gtK (key : Int → Int) (x : Int) (y : Int) : Bool := decide (key x < key y)
theorem gt_app_at {P S : List Int} {x : Int} : gt (P ++ x :: S) P.length = x := by
  simp [gt, List.getD_eq_getElem?_getD]
theorem bub_ins (key : Int → Int) : ∀ (P : List Int) (x : Int) (S : List Int), P.Pairwise (fun a b => key a ≤ key b) → bub key P.length (P ++ x :: S) = P.filter (leK key x) ++ x :: (P.filter (gtK key x) ++ S) := by
  intro P
  induction hl : P.length generalizing P with
  | zero =>
    intro x S _
    have : P = [] := List.eq_nil_of_length_eq_zero hl
    subst this
    simp [bub]
  | succ j ih =>
    intro x S hs
    obtain ⟨P', y, rfl⟩ : ∃ P' y, P = P' ++ [y] := ⟨P.dropLast, P.getLast (by intro h; subst h; simp at hl), (List.dropLast_concat_getLast _).symm⟩
    have hl' : P'.length = j := by simpa using hl
    rw [List.pairwise_append] at hs
    obtain ⟨s1, _, s3⟩ := hs
    have e1 : gt (P' ++ [y] ++ x :: S) (j + 1) = x := by
      have := gt_app_at (P := P' ++ [y]) (S := S) (x := x)
      rwa [hl] at this
    have e2 : gt (P' ++ [y] ++ x :: S) j = y := by
      have := gt_app_at (P := P') (S := x :: S) (x := y)
      rw [hl'] at this
      simpa using this
    have e3 : swp (P' ++ [y] ++ x :: S) j = P' ++ x :: (y :: S) := by
      rw [swp, e1, e2]
      apply List.ext_getElem?
      intro m
      simp only [List.append_assoc, List.cons_append, List.nil_append, List.getElem?_set, List.length_set, List.length_append, List.length_cons]
      rcases Nat.lt_trichotomy m j with h | h | h
      · rw [if_neg (by omega), if_neg (by omega), List.getElem?_append_left (by omega), List.getElem?_append_left (by omega)]
      · subst h
        rw [if_pos rfl, if_pos (by omega), List.getElem?_append_right (by omega)]
        simp [hl']
      · rw [if_neg (by omega)]
        by_cases h2 : m = j + 1
        · subst h2
          rw [if_pos rfl, if_pos (by omega), List.getElem?_append_right (by omega)]
          simp [hl']
        · rw [if_neg (by omega), List.getElem?_append_right (by omega), List.getElem?_append_right (by omega)]
          obtain ⟨q, hq⟩ : ∃ q, m - P'.length = q + 2 := ⟨m - P'.length - 2, by omega⟩
          rw [hq]; simp
    rw [bub, e1, e2, e3]
    by_cases hlt : key x < key y
    · rw [if_pos hlt]
      have := ih P' hl' x (y :: S) s1
      rw [this]
      simp only [List.filter_append, List.filter_cons, List.filter_nil, leK, gtK]
      simp [hlt, show ¬ key y ≤ key x by omega]
    · rw [if_neg hlt]
      have hall : ∀ a ∈ P', key a ≤ key x := fun a ha => by have := s3 a ha y (by simp); omega
      have f1 : P'.filter (leK key x) = P' := List.filter_eq_self.2 fun a ha => by simpa [leK] using hall a ha
      have f2 : P'.filter (gtK key x) = [] := List.filter_eq_nil_iff.2 fun a ha => by have := hall a ha; simp [gtK]; omega
      simp only [List.filter_append, List.filter_cons, List.filter_nil, f1, f2, leK, gtK]
      simp [hlt, show key y ≤ key x by omega]

/-- What lies below i, by key, up to C. -/
def srtF (key : Int → Int) (i C : Nat) : List Int := (List.range C).flatMap fun (c : Nat) => (upto i).filter fun k => key k == (c : Int)
theorem srtF_succ (key : Int → Int) (i C : Nat) : srtF key i (C + 1) = srtF key i C ++ (upto i).filter fun k => key k == (C : Int) := by simp [srtF, List.range_succ]
theorem srtF_key (key : Int → Int) (i C : Nat) : ∀ x ∈ srtF key i C, 0 ≤ key x ∧ key x < C := by
  intro x hx
  simp only [srtF, List.mem_flatMap, List.mem_filter, List.mem_range] at hx
  obtain ⟨c, h1, _, h2⟩ := hx
  have := beq_iff_eq.1 h2
  omega
theorem srtF_sorted (key : Int → Int) (i : Nat) : ∀ C, (srtF key i C).Pairwise (fun a b => key a ≤ key b)
  | 0 => by simp [srtF]
  | C + 1 => by
    rw [srtF_succ, List.pairwise_append]
    refine ⟨srtF_sorted key i C, ?_, fun a ha b hb => ?_⟩
    · rw [List.pairwise_iff_forall_sublist]
      intro a b hab
      have h1 := hab.subset (show a ∈ [a, b] by simp)
      have h2 := hab.subset (show b ∈ [a, b] by simp)
      have h3 := beq_iff_eq.1 (List.mem_filter.1 h1).2
      have h4 := beq_iff_eq.1 (List.mem_filter.1 h2).2
      omega
    · have h1 := srtF_key key i C a ha
      have h2 := beq_iff_eq.1 (List.mem_filter.1 hb).2
      omega
theorem srtF_next (key : Int → Int) (i : Nat) (hk : 0 ≤ key i) : ∀ C, srtF key (i + 1) C = (srtF key i C).filter (leK key i) ++ (if key i < (C : Int) then [(i : Int)] else []) ++ (srtF key i C).filter (gtK key i)
  | 0 => by simp [srtF]; omega
  | C + 1 => by
    rw [srtF_succ, srtF_next key i hk C, srtF_succ, filt_succ]
    simp only [List.filter_append]
    rcases Int.lt_trichotomy (key i) C with h | h | h
    · have f1 : ((upto i).filter fun k => key k == (C : Int)).filter (leK key i) = [] := by
        rw [List.filter_eq_nil_iff]; intro a ha; have := beq_iff_eq.1 (List.mem_filter.1 ha).2; simp [leK]; omega
      have f2 : ((upto i).filter fun k => key k == (C : Int)).filter (gtK key i) = (upto i).filter fun k => key k == (C : Int) := by
        rw [List.filter_eq_self]; intro a ha; have := beq_iff_eq.1 (List.mem_filter.1 ha).2; simp [gtK]; omega
      simp [f1, f2, h, show key i < (C : Int) + 1 by omega, show ¬ key i = (C : Int) by omega]
    · have f1 : ((upto i).filter fun k => key k == (C : Int)).filter (leK key i) = (upto i).filter fun k => key k == (C : Int) := by
        rw [List.filter_eq_self]; intro a ha; have := beq_iff_eq.1 (List.mem_filter.1 ha).2; simp [leK]; omega
      have f2 : ((upto i).filter fun k => key k == (C : Int)).filter (gtK key i) = [] := by
        rw [List.filter_eq_nil_iff]; intro a ha; have := beq_iff_eq.1 (List.mem_filter.1 ha).2; simp [gtK]; omega
      have f3 : (srtF key i C).filter (gtK key i) = [] := by
        rw [List.filter_eq_nil_iff]; intro a ha; have := srtF_key key i C a ha; simp [gtK]; omega
      simp [f1, f2, f3, h, show (C : Int) < (C : Int) + 1 by omega]
    · have f1 : ((upto i).filter fun k => key k == (C : Int)).filter (leK key i) = (upto i).filter fun k => key k == (C : Int) := by
        rw [List.filter_eq_self]; intro a ha; have := beq_iff_eq.1 (List.mem_filter.1 ha).2; simp [leK]; omega
      have f2 : ((upto i).filter fun k => key k == (C : Int)).filter (gtK key i) = [] := by
        rw [List.filter_eq_nil_iff]; intro a ha; have := beq_iff_eq.1 (List.mem_filter.1 ha).2; simp [gtK]; omega
      have f3 : (srtF key i C).filter (gtK key i) = [] := by
        rw [List.filter_eq_nil_iff]; intro a ha; have := srtF_key key i C a ha; simp [gtK]; omega
      simp [f1, f2, f3, show ¬ key i < (C : Int) + 1 by omega, show ¬ key i < (C : Int) by omega, show ¬ key i = (C : Int) by omega]
theorem upto_drop {m i : Nat} (h : i < m) : (upto m).drop i = (i : Int) :: (upto m).drop (i + 1) := by
  rw [List.drop_eq_getElem_cons (by rw [upto_length]; exact h)]
  congr 1
  simp [upto]
theorem srt_upto (key : Int → Int) (m C : Nat) (hk : ∀ j : Nat, j < m → 0 ≤ key j ∧ key j < C) : ∀ i, i ≤ m → srt key (upto m) i = srtF key i C ++ (upto m).drop i ∧ (srtF key i C).length = i
  | 0, _ => by
    have e : srtF key 0 C = [] := by
      rw [List.eq_nil_iff_forall_not_mem]; intro x hx; simp [srtF, upto] at hx
    rw [e]; simp [srt]
  | i + 1, h => by
    obtain ⟨h1, h2⟩ := srt_upto key m C hk i (by omega)
    have h3 := bub_ins key (srtF key i C) i ((upto m).drop (i + 1)) (srtF_sorted key i C)
    have hki := hk i (by omega)
    have h4 := srtF_next key i hki.1 C
    rw [if_pos hki.2] at h4
    have hlen : (srtF key (i + 1) C).length = i + 1 := by
      have g : ∀ (l : List Int), (l.filter (leK key i)).length + (l.filter (gtK key i)).length = l.length := by
        intro l
        induction l with
        | nil => rfl
        | cons a l ih =>
          simp only [List.filter_cons, leK, gtK, decide_eq_true_eq]
          by_cases ha : key a ≤ key i
          · rw [if_pos ha, if_neg (by omega)]; simp only [List.length_cons]; omega
          · rw [if_neg ha, if_pos (by omega)]; simp only [List.length_cons]; omega
      have := g (srtF key i C)
      rw [h4]; simp; omega
    refine ⟨?_, hlen⟩
    rw [srt, h1, upto_drop (by omega)]
    rw [h2] at h3
    rw [h3, h4]
    simp
theorem ord_same (n : Int) (arcs : List (List Int)) (ho : okM n arcs = true) : ordM arcs = sordC arcs 100 := by
  have := (srt_upto (keyA arcs) arcs.length 100 (fun j hj => by
    have := okM_arc ho hj
    have e : ((j : Nat) : Int).toNat = j := by omega
    simp only [keyA, e]
    omega) arcs.length (Nat.le_refl _)).1
  rw [ordM, this, List.drop_of_length_le (by rw [upto_length]; omega), List.append_nil]
  rfl
theorem treeI_treeS (n : Int) (arcs : List (List Int)) (ho : okM n arcs = true) : treeI n.toNat arcs = (treeS n.toNat arcs (sordC arcs 100)).2 := by
  have hn := (okM_n ho).1
  rw [treeI, ord_same n arcs ho, treeS]
  refine tree_same (n := n.toNat) (fun j hj => by have := okM_arc ho hj; omega) _ (upto n.toNat, []) 0 (sordC_mem arcs 100) (Tok.init _) (fun v hv => ?_)
  have : gt (upto n.toNat) v = v := gt_upto hv
  rw [root_self (by simpa using this)]
  exact this
end Go.AM
set_option linter.unusedVariables false
set_option linter.unusedSimpArgs false
set_option maxRecDepth 4000
namespace Go.AM
open Go.Proofs

theorem eqI_refl (a : List (List Int)) : eqI a a = true := by simp [eqI]
theorem eqA_refl (a : List (List Int)) : eqA a a = true := by simp [eqA, eqR]
def mkL (L : List Int) (k : Int) (i : Nat) : List Int := ((List.range i).map fun (j : Nat) => k + j) ++ L.drop i
theorem mkI_R (L : List Int) (k : Int) : ∀ i, i ≤ L.length → mkI (R L) k i = R (mkL L k i)
  | 0, _ => by simp [mkI, mkL]
  | i + 1, h => by
    rw [mkI, mkI_R L k i (by omega), R_set _ (by simp [mkL]; omega)]
    congr 1
    have hd := List.drop_eq_getElem_cons (show i < L.length by omega)
    simp only [mkL]
    rw [List.set_append_right _ _ (by simp), List.range_succ, List.map_append]
    simp only [List.length_map, List.length_range, Nat.sub_self]
    rw [hd, List.set_cons_zero, List.append_assoc]
    rfl
theorem heldM_mk (L : List Int) (k : Int) : heldM (mkI (R L) k L.length) k = k + L.length := by
  rw [mkI_R L k _ (Nat.le_refl _)]
  have hlen : (mkL L k L.length).length = L.length := by simp [mkL]
  unfold heldM
  rw [R_length, hlen, if_pos]
  refine range_all_true fun j hj => ?_
  rw [R_rd (by omega)]
  simp [mkL, List.getD_eq_getElem?_getD, List.getElem?_range, hj]

/-- What a law of the form 'the program's answers as the reference's' needs of the answer: a fresh list of ints. -/
structure Fresh (L : List Int) : Prop where
  h26 : OK Try.prog 26 [dL L, dL L] (dB true)
  h29 : OK Try.prog 29 [.one (.mu 3 i1 (R L) (mkI (R L) 1 L.length)), dI 1] (dI (1 + (L.length : Int)))
  h30 : OK Try.prog 30 [dInts (mkI (R L) 1 L.length), dI 1] (dI (1 + (L.length : Int)))
theorem fresh (L : List Int) (hl : L.length < 1000000) : Fresh L := by
  have hR := R_length L
  refine ⟨?_, ?_, ?_⟩
  · have := c_26 (R L) (R L) (by omega); rwa [eqI_refl] at this
  · have := c_29 (R L) 1 (by omega) (by omega); rwa [hR] at this
  · have := c_30 (mkI (R L) 1 L.length) 1 (by rw [mkI_length]; omega) (by omega); rwa [heldM_mk] at this

theorem treeS_len (n : Int) (arcs : List (List Int)) (ho : okM n arcs = true) : (treeS n.toNat arcs (sordC arcs 100)).2.length ≤ 1600 := by
  obtain ⟨hn, hal⟩ := okM_n ho
  have := (Tok.all (n := n.toNat) (arcs := arcs) (fun j hj => by have := okM_arc ho hj; omega) (sordC arcs 100) _ 0 (sordC_mem arcs 100) (Tok.init _)).out
  have h2 := sordC_len arcs 100
  simp only [treeS] at *
  omega
theorem c_9 (n : Int) (arcs : List (List Int)) (hw : Wf i5 arcs) (hl0 : arcs.length < 1000000000) : OK Try.prog 9 [dNetL n arcs] (dB true) := by
  obtain ⟨L, hL, h34, h32⟩ : ∃ L : List Int, L.length < 1000000 ∧ OK Try.prog 34 [dNet n arcs] (dL L) ∧ OK Try.prog 32 [dNet n arcs] (dL L) := by
    have h1 := c_34 n arcs hl0
    have h2 := c_32 n arcs (by omega)
    by_cases ho : okM n arcs = true
    · rw [if_pos ho] at h1 h2
      rw [treeI_treeS n arcs ho] at h2
      exact ⟨_, by have := treeS_len n arcs ho; omega, h1, h2⟩
    · rw [if_neg ho] at h1 h2
      exact ⟨[], by simp, h1, h2⟩
  obtain ⟨h26, h29, h30⟩ := fresh L hL
  have h22 := c_22 n arcs 1048576 (by omega) (by omega)
  have h24 := c_24 n arcs hw (by omega)
  have h27 := c_27 n n arcs arcs (by omega)
  rw [eqA_refl, show (n == n && true) = true by simp] at h27
  have h28 := c_28 n arcs 1 (by omega) (by omega)
  refine W.fn 69 [.tmp 2] hTT Try.func9 rfl rfl rfl rfl rfl rfl rfl rfl ?_
  repeat' (first
   | ((with_reducible apply v_call 4000000 (h22)); (iterate 3 (· exact rfl)); (· repeat' (first | exact DVsOf.nil | apply DVsOf.cons | apply DVof.one | apply DVof.agg | exact DCof.c | exact DCof.nil | exact DCof.nils | ((apply DCof.r); (iterate 2 (· exact rfl))) | ((apply DCof.rs); (iterate 2 (· exact rfl))) | ((apply DCof.mu); (· exact rfl)) | exact DCsOf.nil | apply DCsOf.cons | ((apply DVof_mp); (· exact rfl)) | ((apply DVof_ptr); (iterate 2 (· exact rfl))) | apply DVof.fn | exact DPsOf.nil | ((apply DPsOf_cons); (iterate 2 (· exact rfl))) | exact rfl)); (iterate 4 (· exact rfl)))
   | ((with_reducible apply v_call 4000000 (h26)); (iterate 3 (· exact rfl)); (· repeat' (first | exact DVsOf.nil | apply DVsOf.cons | apply DVof.one | apply DVof.agg | exact DCof.c | exact DCof.nil | exact DCof.nils | ((apply DCof.r); (iterate 2 (· exact rfl))) | ((apply DCof.rs); (iterate 2 (· exact rfl))) | ((apply DCof.mu); (· exact rfl)) | exact DCsOf.nil | apply DCsOf.cons | ((apply DVof_mp); (· exact rfl)) | ((apply DVof_ptr); (iterate 2 (· exact rfl))) | apply DVof.fn | exact DPsOf.nil | ((apply DPsOf_cons); (iterate 2 (· exact rfl))) | exact rfl)); (iterate 4 (· exact rfl)))
   | ((with_reducible apply v_call 4000000 (h27)); (iterate 3 (· exact rfl)); (· repeat' (first | exact DVsOf.nil | apply DVsOf.cons | apply DVof.one | apply DVof.agg | exact DCof.c | exact DCof.nil | exact DCof.nils | ((apply DCof.r); (iterate 2 (· exact rfl))) | ((apply DCof.rs); (iterate 2 (· exact rfl))) | ((apply DCof.mu); (· exact rfl)) | exact DCsOf.nil | apply DCsOf.cons | ((apply DVof_mp); (· exact rfl)) | ((apply DVof_ptr); (iterate 2 (· exact rfl))) | apply DVof.fn | exact DPsOf.nil | ((apply DPsOf_cons); (iterate 2 (· exact rfl))) | exact rfl)); (iterate 4 (· exact rfl)))
   | ((with_reducible apply v_call 4000000 (h28)); (iterate 3 (· exact rfl)); (· repeat' (first | exact DVsOf.nil | apply DVsOf.cons | apply DVof.one | apply DVof.agg | exact DCof.c | exact DCof.nil | exact DCof.nils | ((apply DCof.r); (iterate 2 (· exact rfl))) | ((apply DCof.rs); (iterate 2 (· exact rfl))) | ((apply DCof.mu); (· exact rfl)) | exact DCsOf.nil | apply DCsOf.cons | ((apply DVof_mp); (· exact rfl)) | ((apply DVof_ptr); (iterate 2 (· exact rfl))) | apply DVof.fn | exact DPsOf.nil | ((apply DPsOf_cons); (iterate 2 (· exact rfl))) | exact rfl)); (iterate 4 (· exact rfl)))
   | ((with_reducible apply v_call 4000000 (h29)); (iterate 3 (· exact rfl)); (· repeat' (first | exact DVsOf.nil | apply DVsOf.cons | apply DVof.one | apply DVof.agg | exact DCof.c | exact DCof.nil | exact DCof.nils | ((apply DCof.r); (iterate 2 (· exact rfl))) | ((apply DCof.rs); (iterate 2 (· exact rfl))) | ((apply DCof.mu); (· exact rfl)) | exact DCsOf.nil | apply DCsOf.cons | ((apply DVof_mp); (· exact rfl)) | ((apply DVof_ptr); (iterate 2 (· exact rfl))) | apply DVof.fn | exact DPsOf.nil | ((apply DPsOf_cons); (iterate 2 (· exact rfl))) | exact rfl)); (iterate 4 (· exact rfl)))
   | ((with_reducible apply v_call 4000000 (h30)); (iterate 3 (· exact rfl)); (· repeat' (first | exact DVsOf.nil | apply DVsOf.cons | apply DVof.one | apply DVof.agg | exact DCof.c | exact DCof.nil | exact DCof.nils | ((apply DCof.r); (iterate 2 (· exact rfl))) | ((apply DCof.rs); (iterate 2 (· exact rfl))) | ((apply DCof.mu); (· exact rfl)) | exact DCsOf.nil | apply DCsOf.cons | ((apply DVof_mp); (· exact rfl)) | ((apply DVof_ptr); (iterate 2 (· exact rfl))) | apply DVof.fn | exact DPsOf.nil | ((apply DPsOf_cons); (iterate 2 (· exact rfl))) | exact rfl)); (iterate 4 (· exact rfl)))
   | ((with_reducible apply v_call 100000 (h24)); (iterate 3 (· exact rfl)); (· repeat' (first | exact DVsOf.nil | apply DVsOf.cons | apply DVof.one | apply DVof.agg | exact DCof.c | exact DCof.nil | exact DCof.nils | ((apply DCof.r); (iterate 2 (· exact rfl))) | ((apply DCof.rs); (iterate 2 (· exact rfl))) | ((apply DCof.mu); (· exact rfl)) | exact DCsOf.nil | apply DCsOf.cons | ((apply DVof_mp); (· exact rfl)) | ((apply DVof_ptr); (iterate 2 (· exact rfl))) | apply DVof.fn | exact DPsOf.nil | ((apply DPsOf_cons); (iterate 2 (· exact rfl))) | exact rfl)); (iterate 4 (· exact rfl)))
   | ((with_reducible apply v_call 110000 (h24)); (iterate 3 (· exact rfl)); (· repeat' (first | exact DVsOf.nil | apply DVsOf.cons | apply DVof.one | apply DVof.agg | exact DCof.c | exact DCof.nil | exact DCof.nils | ((apply DCof.r); (iterate 2 (· exact rfl))) | ((apply DCof.rs); (iterate 2 (· exact rfl))) | ((apply DCof.mu); (· exact rfl)) | exact DCsOf.nil | apply DCsOf.cons | ((apply DVof_mp); (· exact rfl)) | ((apply DVof_ptr); (iterate 2 (· exact rfl))) | apply DVof.fn | exact DPsOf.nil | ((apply DPsOf_cons); (iterate 2 (· exact rfl))) | exact rfl)); (iterate 4 (· exact rfl)))
   | ((with_reducible apply v_call 120000 (h24)); (iterate 3 (· exact rfl)); (· repeat' (first | exact DVsOf.nil | apply DVsOf.cons | apply DVof.one | apply DVof.agg | exact DCof.c | exact DCof.nil | exact DCof.nils | ((apply DCof.r); (iterate 2 (· exact rfl))) | ((apply DCof.rs); (iterate 2 (· exact rfl))) | ((apply DCof.mu); (· exact rfl)) | exact DCsOf.nil | apply DCsOf.cons | ((apply DVof_mp); (· exact rfl)) | ((apply DVof_ptr); (iterate 2 (· exact rfl))) | apply DVof.fn | exact DPsOf.nil | ((apply DPsOf_cons); (iterate 2 (· exact rfl))) | exact rfl)); (iterate 4 (· exact rfl)))
   | ((with_reducible apply v_call 130000 (h24)); (iterate 3 (· exact rfl)); (· repeat' (first | exact DVsOf.nil | apply DVsOf.cons | apply DVof.one | apply DVof.agg | exact DCof.c | exact DCof.nil | exact DCof.nils | ((apply DCof.r); (iterate 2 (· exact rfl))) | ((apply DCof.rs); (iterate 2 (· exact rfl))) | ((apply DCof.mu); (· exact rfl)) | exact DCsOf.nil | apply DCsOf.cons | ((apply DVof_mp); (· exact rfl)) | ((apply DVof_ptr); (iterate 2 (· exact rfl))) | apply DVof.fn | exact DPsOf.nil | ((apply DPsOf_cons); (iterate 2 (· exact rfl))) | exact rfl)); (iterate 4 (· exact rfl)))
   | ((with_reducible apply v_call 140000 (h34)); (iterate 3 (· exact rfl)); (· repeat' (first | exact DVsOf.nil | apply DVsOf.cons | apply DVof.one | apply DVof.agg | exact DCof.c | exact DCof.nil | exact DCof.nils | ((apply DCof.r); (iterate 2 (· exact rfl))) | ((apply DCof.rs); (iterate 2 (· exact rfl))) | ((apply DCof.mu); (· exact rfl)) | exact DCsOf.nil | apply DCsOf.cons | ((apply DVof_mp); (· exact rfl)) | ((apply DVof_ptr); (iterate 2 (· exact rfl))) | apply DVof.fn | exact DPsOf.nil | ((apply DPsOf_cons); (iterate 2 (· exact rfl))) | exact rfl)); (iterate 4 (· exact rfl)))
   | ((with_reducible apply v_call 150000 (h32)); (iterate 3 (· exact rfl)); (· repeat' (first | exact DVsOf.nil | apply DVsOf.cons | apply DVof.one | apply DVof.agg | exact DCof.c | exact DCof.nil | exact DCof.nils | ((apply DCof.r); (iterate 2 (· exact rfl))) | ((apply DCof.rs); (iterate 2 (· exact rfl))) | ((apply DCof.mu); (· exact rfl)) | exact DCsOf.nil | apply DCsOf.cons | ((apply DVof_mp); (· exact rfl)) | ((apply DVof_ptr); (iterate 2 (· exact rfl))) | apply DVof.fn | exact DPsOf.nil | ((apply DPsOf_cons); (iterate 2 (· exact rfl))) | exact rfl)); (iterate 4 (· exact rfl)))
   | ((with_reducible apply v_call 160000 (h32)); (iterate 3 (· exact rfl)); (· repeat' (first | exact DVsOf.nil | apply DVsOf.cons | apply DVof.one | apply DVof.agg | exact DCof.c | exact DCof.nil | exact DCof.nils | ((apply DCof.r); (iterate 2 (· exact rfl))) | ((apply DCof.rs); (iterate 2 (· exact rfl))) | ((apply DCof.mu); (· exact rfl)) | exact DCsOf.nil | apply DCsOf.cons | ((apply DVof_mp); (· exact rfl)) | ((apply DVof_ptr); (iterate 2 (· exact rfl))) | apply DVof.fn | exact DPsOf.nil | ((apply DPsOf_cons); (iterate 2 (· exact rfl))) | exact rfl)); (iterate 4 (· exact rfl)))
   | ((with_reducible apply v_mv); (iterate 3 (· exact rfl)))
   | ((with_reducible apply v_as); (iterate 3 (· exact rfl)))
   | ((with_reducible apply v_fa); (iterate 6 (· exact rfl)))
   | ((with_reducible apply v_far); (iterate 6 (· exact rfl)))
   | ((with_reducible apply v_ia); (iterate 8 (· exact rfl)); (iterate 2 (· first | omega | (simp only [lens, List.length_map, List.length_range]; omega))))
   | ((with_reducible apply v_lr_i64); (iterate 7 (· exact rfl)); (· first | omega | (simp only [lens, List.length_map, List.length_range]; omega)))
   | ((with_reducible apply v_ld); (iterate 6 (· exact rfl)))
   | ((with_reducible apply v_st); (iterate 7 (· exact rfl)))
   | ((with_reducible apply v_sr); (iterate 7 (· exact rfl)); (· first | omega | (simp only [lens, List.length_map, List.length_range]; omega)))
   | ((with_reducible apply v_srN); (iterate 7 (· exact rfl)); (· repeat' (first | exact RowC.nil | apply RowC.i | apply RowC.b)); (· first | omega | (simp only [lens, List.length_map, List.length_range]; omega)))
   | ((with_reducible apply v_tgt); (iterate 9 (· exact rfl)); (iterate 3 (· first | omega | (simp only [lens, List.length_map, List.length_range]; omega))); (· exact rfl))
   | ((with_reducible apply v_mks); (iterate 10 (· exact rfl)); (iterate 3 (· first | omega | (simp only [lens, List.length_map, List.length_range]; omega))))
   | ((with_reducible apply v_ext); (iterate 5 (· exact rfl)))
   | ((with_reducible apply v_cnv); (iterate 6 (· exact rfl)))
   | ((with_reducible apply v_min); (iterate 4 (· exact rfl)))
   | ((with_reducible apply v_max); (iterate 4 (· exact rfl)))
   | ((with_reducible apply v_ncr); (iterate 4 (· exact rfl)))
   | ((with_reducible apply v_ncp); (iterate 3 (· exact rfl)))
   | ((with_reducible apply v_lr_b); (iterate 7 (· exact rfl)); (· first | omega | (simp only [lens, List.length_map, List.length_range]; omega)))
   | ((with_reducible apply v_lr_u8); (iterate 7 (· exact rfl)); (· first | omega | (simp only [lens, List.length_map, List.length_range]; omega)))
   | ((with_reducible apply v_mkf); (iterate 3 (· exact rfl)))
   | ((with_reducible apply v_lss); (iterate 4 (· exact rfl)))
   | ((with_reducible apply v_leq); (iterate 4 (· exact rfl)))
   | ((with_reducible apply v_gtr); (iterate 4 (· exact rfl)))
   | ((with_reducible apply v_geq); (iterate 4 (· exact rfl)))
   | ((with_reducible apply v_eql); (iterate 4 (· exact rfl)))
   | ((with_reducible apply v_neq); (iterate 4 (· exact rfl)))
   | ((with_reducible apply v_add); (iterate 4 (· exact rfl)); (· first | omega | (simp only [lens, List.length_map, List.length_range]; omega)))
   | ((with_reducible apply v_sub); (iterate 4 (· exact rfl)); (· first | omega | (simp only [lens, List.length_map, List.length_range]; omega)))
   | ((with_reducible apply v_pkT); (iterate 4 (· exact rfl)))
   | ((with_reducible apply v_pkF); (iterate 4 (· exact rfl)))
   | ((with_reducible apply v_not); (iterate 3 (· exact rfl)))
   | ((with_reducible apply v_len); (iterate 5 (· exact rfl)))
   | ((with_reducible apply v_lenn); (iterate 4 (· exact rfl)))
   | ((with_reducible apply v_lit); (iterate 9 (· exact rfl)); (· repeat' (first | exact PartsC.nil | ((apply PartsC.cons); (· exact rfl)) | exact RowC.nil | apply RowC.i | apply RowC.b)))
   | ((with_reducible apply v_ap); (iterate 11 (· exact rfl)); (· first | omega | (simp only [lens, List.length_map, List.length_range]; omega)))
   | ((with_reducible apply v_ap0); (iterate 10 (· exact rfl)); (· first | omega | (simp only [lens, List.length_map, List.length_range]; omega)))
   | ((with_reducible apply v_alc); (iterate 5 (· exact rfl)))
   | ((with_reducible apply v_box); (iterate 4 (· exact rfl)))
   | ((with_reducible apply v_ldN); (iterate 7 (· exact rfl)))
   | ((with_reducible apply v_lrN); (iterate 8 (· exact rfl)); (· first | omega | (simp only [lens, List.length_map, List.length_range]; omega)))
   | ((with_reducible apply v_fld); (iterate 5 (· exact rfl)); (· kernel_rfl))
   | ((with_reducible apply v_bld); (iterate 6 (· exact rfl)))
   | ((with_reducible apply v_no); (iterate 2 (· exact rfl)))
   | ((with_reducible apply v_no'); (· exact rfl))
   | ((with_reducible apply v_ift); (iterate 2 (· exact rfl)); (· infer_instance))
   | ((with_reducible apply v_iff); (iterate 2 (· exact rfl)); (· infer_instance))
   | ((with_reducible apply v_pif); (· exact rfl); (· infer_instance))
   | (with_reducible apply vo_nil0)
   | ((with_reducible apply vo_nil); (· kernel_rfl))
   | (with_reducible apply w_rs)
   | ((with_reducible apply w_ds); (rotate_left); (iterate 2 (· kernel_rfl)))
   | (with_reducible apply w_r)
   | ((with_reducible apply w_d); (rotate_left); (iterate 2 (· kernel_rfl)))
   | (with_reducible apply w_sks)
   | (with_reducible apply W.skp)
   | (with_reducible apply W.ext)
   | (with_reducible apply W.rt)
   | (with_reducible apply w_blk)
   | ((with_reducible apply W.cT); (· exact rfl))
   | ((with_reducible apply W.cF); (· exact rfl))
   | ((with_reducible apply W.cn); (· exact rfl); (· infer_instance))
   | (with_reducible apply W.sq)
   | (with_reducible apply q_tn)
   | (with_reducible apply q_te)
   | (with_reducible apply q_tr)
   | (with_reducible apply q_bn)
   | (with_reducible apply q_br)
   | ((with_reducible apply q_be); (· exact rfl))
   | ((with_reducible apply q_bx); (· exact rfl))
   | (with_reducible apply q_er)
   | (with_reducible apply q_en)
   | (with_reducible apply q_her)
   | (with_reducible apply q_hen)
   | (intro _))
  all_goals first
    | exact e_bool rfl rfl rfl
    | (exfalso; omega)
    | skip
theorem c_9big (n : Int) (arcs : List (List Int)) (h1 : 1048576 < arcs.length) (h2 : arcs.length ≤ 9223372036854775807) : OK Try.prog 9 [dNetL n arcs] (dB true) := by
  have h22 := c_22 n arcs 1048576 h2 (by omega)
  rw [szM, if_pos (by omega)] at h22
  refine W.fn 69 [.tmp 2] hTT Try.func9 rfl rfl rfl rfl rfl rfl rfl rfl ?_
  repeat' (first
   | ((with_reducible apply v_call 4000000 (h22)); (iterate 3 (· exact rfl)); (· repeat' (first | exact DVsOf.nil | apply DVsOf.cons | apply DVof.one | apply DVof.agg | exact DCof.c | exact DCof.nil | exact DCof.nils | ((apply DCof.r); (iterate 2 (· exact rfl))) | ((apply DCof.rs); (iterate 2 (· exact rfl))) | ((apply DCof.mu); (· exact rfl)) | exact DCsOf.nil | apply DCsOf.cons | ((apply DVof_mp); (· exact rfl)) | ((apply DVof_ptr); (iterate 2 (· exact rfl))) | apply DVof.fn | exact DPsOf.nil | ((apply DPsOf_cons); (iterate 2 (· exact rfl))) | exact rfl)); (iterate 4 (· exact rfl)))
   | ((with_reducible apply v_mv); (iterate 3 (· exact rfl)))
   | ((with_reducible apply v_as); (iterate 3 (· exact rfl)))
   | ((with_reducible apply v_fa); (iterate 6 (· exact rfl)))
   | ((with_reducible apply v_far); (iterate 6 (· exact rfl)))
   | ((with_reducible apply v_ia); (iterate 8 (· exact rfl)); (iterate 2 (· first | omega | (simp only [lens, List.length_map, List.length_range]; omega))))
   | ((with_reducible apply v_lr_i64); (iterate 7 (· exact rfl)); (· first | omega | (simp only [lens, List.length_map, List.length_range]; omega)))
   | ((with_reducible apply v_ld); (iterate 6 (· exact rfl)))
   | ((with_reducible apply v_st); (iterate 7 (· exact rfl)))
   | ((with_reducible apply v_sr); (iterate 7 (· exact rfl)); (· first | omega | (simp only [lens, List.length_map, List.length_range]; omega)))
   | ((with_reducible apply v_srN); (iterate 7 (· exact rfl)); (· repeat' (first | exact RowC.nil | apply RowC.i | apply RowC.b)); (· first | omega | (simp only [lens, List.length_map, List.length_range]; omega)))
   | ((with_reducible apply v_tgt); (iterate 9 (· exact rfl)); (iterate 3 (· first | omega | (simp only [lens, List.length_map, List.length_range]; omega))); (· exact rfl))
   | ((with_reducible apply v_mks); (iterate 10 (· exact rfl)); (iterate 3 (· first | omega | (simp only [lens, List.length_map, List.length_range]; omega))))
   | ((with_reducible apply v_ext); (iterate 5 (· exact rfl)))
   | ((with_reducible apply v_cnv); (iterate 6 (· exact rfl)))
   | ((with_reducible apply v_min); (iterate 4 (· exact rfl)))
   | ((with_reducible apply v_max); (iterate 4 (· exact rfl)))
   | ((with_reducible apply v_ncr); (iterate 4 (· exact rfl)))
   | ((with_reducible apply v_ncp); (iterate 3 (· exact rfl)))
   | ((with_reducible apply v_lr_b); (iterate 7 (· exact rfl)); (· first | omega | (simp only [lens, List.length_map, List.length_range]; omega)))
   | ((with_reducible apply v_lr_u8); (iterate 7 (· exact rfl)); (· first | omega | (simp only [lens, List.length_map, List.length_range]; omega)))
   | ((with_reducible apply v_mkf); (iterate 3 (· exact rfl)))
   | ((with_reducible apply v_lss); (iterate 4 (· exact rfl)))
   | ((with_reducible apply v_leq); (iterate 4 (· exact rfl)))
   | ((with_reducible apply v_gtr); (iterate 4 (· exact rfl)))
   | ((with_reducible apply v_geq); (iterate 4 (· exact rfl)))
   | ((with_reducible apply v_eql); (iterate 4 (· exact rfl)))
   | ((with_reducible apply v_neq); (iterate 4 (· exact rfl)))
   | ((with_reducible apply v_add); (iterate 4 (· exact rfl)); (· first | omega | (simp only [lens, List.length_map, List.length_range]; omega)))
   | ((with_reducible apply v_sub); (iterate 4 (· exact rfl)); (· first | omega | (simp only [lens, List.length_map, List.length_range]; omega)))
   | ((with_reducible apply v_pkT); (iterate 4 (· exact rfl)))
   | ((with_reducible apply v_pkF); (iterate 4 (· exact rfl)))
   | ((with_reducible apply v_not); (iterate 3 (· exact rfl)))
   | ((with_reducible apply v_len); (iterate 5 (· exact rfl)))
   | ((with_reducible apply v_lenn); (iterate 4 (· exact rfl)))
   | ((with_reducible apply v_lit); (iterate 9 (· exact rfl)); (· repeat' (first | exact PartsC.nil | ((apply PartsC.cons); (· exact rfl)) | exact RowC.nil | apply RowC.i | apply RowC.b)))
   | ((with_reducible apply v_ap); (iterate 11 (· exact rfl)); (· first | omega | (simp only [lens, List.length_map, List.length_range]; omega)))
   | ((with_reducible apply v_ap0); (iterate 10 (· exact rfl)); (· first | omega | (simp only [lens, List.length_map, List.length_range]; omega)))
   | ((with_reducible apply v_alc); (iterate 5 (· exact rfl)))
   | ((with_reducible apply v_box); (iterate 4 (· exact rfl)))
   | ((with_reducible apply v_ldN); (iterate 7 (· exact rfl)))
   | ((with_reducible apply v_lrN); (iterate 8 (· exact rfl)); (· first | omega | (simp only [lens, List.length_map, List.length_range]; omega)))
   | ((with_reducible apply v_fld); (iterate 5 (· exact rfl)); (· kernel_rfl))
   | ((with_reducible apply v_bld); (iterate 6 (· exact rfl)))
   | ((with_reducible apply v_no); (iterate 2 (· exact rfl)))
   | ((with_reducible apply v_no'); (· exact rfl))
   | ((with_reducible apply v_ift); (iterate 2 (· exact rfl)); (· infer_instance))
   | ((with_reducible apply v_iff); (iterate 2 (· exact rfl)); (· infer_instance))
   | ((with_reducible apply v_pif); (· exact rfl); (· infer_instance))
   | (with_reducible apply vo_nil0)
   | ((with_reducible apply vo_nil); (· kernel_rfl))
   | (with_reducible apply w_rs)
   | ((with_reducible apply w_ds); (rotate_left); (iterate 2 (· kernel_rfl)))
   | (with_reducible apply w_r)
   | ((with_reducible apply w_d); (rotate_left); (iterate 2 (· kernel_rfl)))
   | (with_reducible apply w_sks)
   | (with_reducible apply W.skp)
   | (with_reducible apply W.ext)
   | (with_reducible apply W.rt)
   | (with_reducible apply w_blk)
   | ((with_reducible apply W.cT); (· exact rfl))
   | ((with_reducible apply W.cF); (· exact rfl))
   | ((with_reducible apply W.cn); (· exact rfl); (· infer_instance))
   | (with_reducible apply W.sq)
   | (with_reducible apply q_tn)
   | (with_reducible apply q_te)
   | (with_reducible apply q_tr)
   | (with_reducible apply q_bn)
   | (with_reducible apply q_br)
   | ((with_reducible apply q_be); (· exact rfl))
   | ((with_reducible apply q_bx); (· exact rfl))
   | (with_reducible apply q_er)
   | (with_reducible apply q_en)
   | (with_reducible apply q_her)
   | (with_reducible apply q_hen)
   | (intro _))
  exact e_bool rfl rfl rfl
theorem c_9all (n : Int) (arcs : List (List Int)) (hw : Wf i5 arcs) (h2 : arcs.length ≤ 9223372036854775807) : OK Try.prog 9 [dNetL n arcs] (dB true) := by
  by_cases h : 1048576 < arcs.length
  · exact c_9big n arcs h h2
  · exact c_9 n arcs hw (by omega)
end Go.AM
set_option linter.unusedVariables false
set_option linter.unusedSimpArgs false
namespace Go.AM
open Go.Proofs Go.RowKit

section
variable {H : Type} {enc : TypeId × Value → H} {w : World} {base : Nat} {sp : Nat → Bool} {held : Bool}
theorem cells3 : Try.prog.cellsOf 3 = 1 := by kernel_rfl
theorem cells22 : Try.prog.cellsOf 22 = 1 := by kernel_rfl
theorem cells24 : Try.prog.cellsOf 24 = 2 := by kernel_rfl
theorem cells181 : Try.prog.cellsOf 181 = 5 := by kernel_rfl
theorem cellT24 : Try.prog.cellTypes Try.prog.depth 24 = some [3, 22] := by kernel_rfl
set_option maxRecDepth 100000
theorem el_arc (fuel : Nat) (cs : List Value) (x : DataW H × List MemPlace) (h : DataW.trod enc Try.prog w base sp held fuel 181 cs = some x) (hl : cs.length = i5.length) : ∃ r : List Int, True ∧ r.length = i5.length ∧ cs = cellsOf i5 r := by
  obtain ⟨r, h1, h2⟩ := el_fields (te := 181) (ti := 3) 5 Try.underlying181 Try.underlying3 cells3 (fun i hi => by
    match i, hi with
    | 0, _ | 1, _ | 2, _ | 3, _ | 4, _ => exact ⟨_, rfl, rfl, rfl⟩) rfl fuel cs x h hl
  refine ⟨r, trivial, h1, ?_⟩
  match r, h1 with
  | [a, b, c, d, e], _ => simpa [cellsOf, FK.val] using h2
/-- A net as data. -/
theorem open_net {r : Reach} {b0 : Nat} {v : Value} {d : DataW H} {p : List MemPlace} (hv : Value.okWide Try.prog w r b0 24 v) (h : DataW.Trod enc Try.prog w base sp held 24 v d p) :
    ∃ (n : Int) (arcs : List (List Int)) (us : List Value), v = .agg us.toArray ∧ Wf i5 arcs ∧ arcs.length ≤ 9223372036854775807 ∧ RV w None0 (dNetL n arcs) v := by
  obtain ⟨cs, rfl, hl, hc⟩ := okWide_cells Try.underlying24 cellT24 hv
  rw [cells24] at hl
  obtain ⟨fuel, hf⟩ := h
  obtain ⟨xs, m, _, _, _, hxl, hall⟩ := DataW.trod_struct Try.underlying24 hf
  match cs, hl with
  | [c0, c1], _ =>
    have h0 := hall 0 ⟨ "Nodes", 3, 0, false, "", "", 0⟩ rfl
    have h1 := hall 1 ⟨ "Arcs", 22, 1, false, "", "", 8⟩ rfl
    rw [List.getElem?_eq_getElem (by rw [hxl]; decide)] at h0 h1
    simp only [Value.cells, List.drop_zero, List.drop_succ_cons] at h0 h1
    rw [cells3] at h0
    rw [cells22] at h1
    simp at h0 h1
    obtain ⟨n, e0, _⟩ := DataW.trod_int Try.underlying3 h0
    simp at e0
    subst e0
    obtain ⟨rows, _, g2, g3, g4⟩ := open_rows (fks := i5) (fun _ => True) Try.underlying22 cells181 (by decide) el_arc h1
    have hb := blk_cell Try.underlying22 (hc 1 22 c1 (by decide) rfl rfl)
    exact ⟨n, rows, _, rfl, g2, g3.len, ⟨_, rfl, ⟨rfl, rfl⟩, rc_sl g2 g3 g4 hb, trivial⟩⟩
end
end Go.AM
