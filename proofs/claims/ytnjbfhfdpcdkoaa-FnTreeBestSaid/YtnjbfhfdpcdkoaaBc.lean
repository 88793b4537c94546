import Derived.Test.YtnjbfhfdpcdkoaaBb
import Derived.Test.YtnjbfhfdpcdkoaaBa
import Derived.DataShut
import Derived.Test.YtnjbfhfdpcdkoaaMb
set_option linter.unusedVariables false
set_option linter.unusedSimpArgs false
set_option maxRecDepth 4000
namespace Go.AM
open Go.Proofs

/-! ### Draws -/
abbrev u1 : List FK := [.i .u8]
/-- Rows of one byte each. -/
def By (b : List (List Int)) : Prop := ∀ j, 0 ≤ rd b j 0 ∧ rd b j 0 ≤ 255
def pickX (b : List (List Int)) (k : Int) : Int := rd b (k % (b.length : Int)).toNat 0 * 131 + rd b ((k * 7 + 3) % (b.length : Int)).toNat 0 * 1117 + k * 29 + k / (b.length : Int) * 53
def pickV (b : List (List Int)) (k n : Int) : Int :=
  if n < 1 ∨ (b.length : Int) = 0 then 0 else if k < (b.length : Int) then rd b k.toNat 0 % n else (((pickX b k).toNat ^^^ (pickX b k / 64).toNat : Nat) : Int) % n
theorem pickV_range (b : List (List Int)) (k n : Int) (h : 1 ≤ n) : 0 ≤ pickV b k n ∧ pickV b k n < n := by
  unfold pickV
  split
  · omega
  · split
    · exact ⟨Int.emod_nonneg _ (by omega), Int.emod_lt_of_pos _ (by omega)⟩
    · exact ⟨Int.emod_nonneg _ (by omega), Int.emod_lt_of_pos _ (by omega)⟩
abbrev rdB (b : List (List Int)) (p : Int) : List (Nat × Obj) := [(5001, .box 184 [.r 5000, .c (.int .i64 p)]), (5000, .ro u1 b)]
abbrev pickC (b : List (List Int)) (p n : Int) : Ctr := ⟨[.one (.r 5001), .one (.c (.int .i64 n))], rdB b p, .one (.c (.int .i64 (pickV b p n))), [(5001, .box 184 [.r 5000, .c (.int .i64 (p + 1))])]⟩
theorem u8_conv (x : Int) (h : 0 ≤ x ∧ x ≤ 255) : IntKind.i64.wrap x = x := IntWalk.i64_in _ (by omega)
theorem c_185 (b : List (List Int)) (hb : By b) (hl : b.length ≤ 2000) (p n : Int) (hp : 0 ≤ p ∧ p < 1000000) : HOK Try.prog 185 (pickC b p n) := by
  have h1 : p + 1 - 1 = p := by omega
  have hB := hb (p + 1 - 1).toNat
  have hB1 := hb ((p + 1 - 1) % (b.length : Int)).toNat
  have hB2 := hb (((p + 1 - 1) * 7 + 3) % (b.length : Int)).toNat
  have c0 := u8_conv _ hB
  have c1 := u8_conv _ hB1
  have c2 := u8_conv _ hB2
  have m1 : (b.length : Int) = 0 ∨ 0 ≤ (p + 1 - 1) % (b.length : Int) ∧ (p + 1 - 1) % (b.length : Int) < b.length := by
    by_cases hz : (b.length : Int) = 0
    · exact .inl hz
    · exact .inr ⟨Int.emod_nonneg _ hz, Int.emod_lt_of_pos _ (by omega)⟩
  have m2 : (b.length : Int) = 0 ∨ 0 ≤ ((p + 1 - 1) * 7 + 3) % (b.length : Int) ∧ ((p + 1 - 1) * 7 + 3) % (b.length : Int) < b.length := by
    by_cases hz : (b.length : Int) = 0
    · exact .inl hz
    · exact .inr ⟨Int.emod_nonneg _ hz, Int.emod_lt_of_pos _ (by omega)⟩
  have m3 : 0 ≤ (p + 1 - 1) / (b.length : Int) ∧ (p + 1 - 1) / (b.length : Int) ≤ p := ⟨Int.ediv_nonneg (by omega) (by omega), Int.le_trans (Int.ediv_le_self _ (by omega)) (by omega)⟩
  refine W.hfn 99 [.tmp 4] hTT Try.func185 rfl rfl rfl rfl rfl rfl rfl ?_
  repeat' (first
   | ((with_reducible apply v_quo); (iterate 4 (· exact rfl)); (· first | omega | (simp only [lens, List.length_map, List.length_range]; omega)))
   | ((with_reducible apply v_mul); (iterate 4 (· exact rfl)); (· first | omega | (simp only [lens, List.length_map, List.length_range]; omega)))
   | ((with_reducible apply v_rem); (iterate 4 (· exact rfl)); (· first | omega | (simp only [lens, List.length_map, List.length_range]; omega)))
   | ((with_reducible apply v_xor); (iterate 4 (· exact rfl)); (· first | omega | (simp only [lens, List.length_map, List.length_range]; omega)))
   | ((with_reducible apply v_mv); (iterate 3 (· exact rfl)))
   | ((with_reducible apply v_as); (iterate 3 (· exact rfl)))
   | ((with_reducible apply v_fa); (iterate 6 (· exact rfl)))
   | ((with_reducible apply v_far); (iterate 6 (· exact rfl)))
   | ((with_reducible apply v_ia); (iterate 8 (· exact rfl)); (iterate 2 (· first | omega | (simp only [lens, List.length_map, List.length_range]; omega))))
   | ((with_reducible apply v_lr_i64); (iterate 7 (· exact rfl)); (· first | omega | (simp only [lens, List.length_map, List.length_range]; omega)))
   | ((with_reducible apply v_ld); (iterate 6 (· exact rfl)))
   | ((with_reducible apply v_st); (iterate 7 (· exact rfl)))
   | ((with_reducible apply v_sr); (iterate 7 (· exact rfl)); (· first | omega | (simp only [lens, List.length_map, List.length_range]; omega)))
   | ((with_reducible apply v_srN); (iterate 7 (· exact rfl)); (· repeat' (first | exact RowC.nil | apply RowC.i | apply RowC.b)); (· first | omega | (simp only [lens, List.length_map, List.length_range]; omega)))
   | ((with_reducible apply v_tgt); (iterate 9 (· exact rfl)); (iterate 3 (· first | omega | (simp only [lens, List.length_map, List.length_range]; omega))); (· exact rfl))
   | ((with_reducible apply v_mks); (iterate 10 (· exact rfl)); (iterate 3 (· first | omega | (simp only [lens, List.length_map, List.length_range]; omega))))
   | ((with_reducible apply v_ext); (iterate 5 (· exact rfl)))
   | ((with_reducible apply v_cnv); (iterate 6 (· exact rfl)))
   | ((with_reducible apply v_min); (iterate 4 (· exact rfl)))
   | ((with_reducible apply v_max); (iterate 4 (· exact rfl)))
   | ((with_reducible apply v_ncr); (iterate 4 (· exact rfl)))
   | ((with_reducible apply v_ncp); (iterate 3 (· exact rfl)))
   | ((with_reducible apply v_lr_b); (iterate 7 (· exact rfl)); (· first | omega | (simp only [lens, List.length_map, List.length_range]; omega)))
   | ((with_reducible apply v_lr_u8); (iterate 7 (· exact rfl)); (· first | omega | (simp only [lens, List.length_map, List.length_range]; omega)))
   | ((with_reducible apply v_mkf); (iterate 3 (· exact rfl)))
   | ((with_reducible apply v_lss); (iterate 4 (· exact rfl)))
   | ((with_reducible apply v_leq); (iterate 4 (· exact rfl)))
   | ((with_reducible apply v_gtr); (iterate 4 (· exact rfl)))
   | ((with_reducible apply v_geq); (iterate 4 (· exact rfl)))
   | ((with_reducible apply v_eql); (iterate 4 (· exact rfl)))
   | ((with_reducible apply v_neq); (iterate 4 (· exact rfl)))
   | ((with_reducible apply v_add); (iterate 4 (· exact rfl)); (· first | omega | (simp only [lens, List.length_map, List.length_range]; omega)))
   | ((with_reducible apply v_sub); (iterate 4 (· exact rfl)); (· first | omega | (simp only [lens, List.length_map, List.length_range]; omega)))
   | ((with_reducible apply v_pkT); (iterate 4 (· exact rfl)))
   | ((with_reducible apply v_pkF); (iterate 4 (· exact rfl)))
   | ((with_reducible apply v_not); (iterate 3 (· exact rfl)))
   | ((with_reducible apply v_len); (iterate 5 (· exact rfl)))
   | ((with_reducible apply v_lenn); (iterate 4 (· exact rfl)))
   | ((with_reducible apply v_lit); (iterate 9 (· exact rfl)); (· repeat' (first | exact PartsC.nil | ((apply PartsC.cons); (· exact rfl)) | exact RowC.nil | apply RowC.i | apply RowC.b)))
   | ((with_reducible apply v_ap); (iterate 11 (· exact rfl)); (· first | omega | (simp only [lens, List.length_map, List.length_range]; omega)))
   | ((with_reducible apply v_ap0); (iterate 10 (· exact rfl)); (· first | omega | (simp only [lens, List.length_map, List.length_range]; omega)))
   | ((with_reducible apply v_alc); (iterate 5 (· exact rfl)))
   | ((with_reducible apply v_box); (iterate 4 (· exact rfl)))
   | ((with_reducible apply v_ldN); (iterate 7 (· exact rfl)))
   | ((with_reducible apply v_lrN); (iterate 8 (· exact rfl)); (· first | omega | (simp only [lens, List.length_map, List.length_range]; omega)))
   | ((with_reducible apply v_fld); (iterate 5 (· exact rfl)); (· kernel_rfl))
   | ((with_reducible apply v_bld); (iterate 6 (· exact rfl)))
   | ((with_reducible apply v_no); (iterate 2 (· exact rfl)))
   | ((with_reducible apply v_no'); (· exact rfl))
   | ((with_reducible apply v_ift); (iterate 2 (· exact rfl)); (· infer_instance))
   | ((with_reducible apply v_iff); (iterate 2 (· exact rfl)); (· infer_instance))
   | ((with_reducible apply v_pif); (· exact rfl); (· infer_instance))
   | (with_reducible apply vo_nil0)
   | ((with_reducible apply vo_nil); (· kernel_rfl))
   | (with_reducible apply w_rs)
   | ((with_reducible apply w_ds); (rotate_left); (iterate 2 (· kernel_rfl)))
   | (with_reducible apply w_r)
   | ((with_reducible apply w_d); (rotate_left); (iterate 2 (· kernel_rfl)))
   | (with_reducible apply w_sks)
   | (with_reducible apply W.skp)
   | (with_reducible apply W.ext)
   | (with_reducible apply W.rt)
   | (with_reducible apply w_blk)
   | ((with_reducible apply W.cT); (· exact rfl))
   | ((with_reducible apply W.cF); (· exact rfl))
   | ((with_reducible apply W.cn); (· exact rfl); (· infer_instance))
   | (with_reducible apply W.sq)
   | (with_reducible apply q_tn)
   | (with_reducible apply q_te)
   | (with_reducible apply q_tr)
   | (with_reducible apply q_bn)
   | (with_reducible apply q_br)
   | ((with_reducible apply q_be); (· exact rfl))
   | ((with_reducible apply q_bx); (· exact rfl))
   | (with_reducible apply q_er)
   | (with_reducible apply q_en)
   | (with_reducible apply q_her)
   | (with_reducible apply q_hen)
   | (intro _))
  · ((apply e_h []); (· repeat' (first | exact ResVs.nil | ((apply r_tmp); (· exact rfl)) | ((apply r_cellN); (iterate 5 (· exact rfl))) | ((apply r_cell1); (iterate 4 (· exact rfl))))); (· exact rfl); (· exact av_int (by rw [pickV, if_pos (by omega)])); (· repeat' (first | exact PostOf.nil | ((apply p_cons); (iterate 2 (· exact rfl))))); (· exact rfl))
  · ((apply e_h []); (· repeat' (first | exact ResVs.nil | ((apply r_tmp); (· exact rfl)) | ((apply r_cellN); (iterate 5 (· exact rfl))) | ((apply r_cell1); (iterate 4 (· exact rfl))))); (· exact rfl); (· exact av_int (by rw [pickV, if_pos (by omega)])); (· repeat' (first | exact PostOf.nil | ((apply p_cons); (iterate 2 (· exact rfl))))); (· exact rfl))
  · ((apply e_h []); (· repeat' (first | exact ResVs.nil | ((apply r_tmp); (· exact rfl)) | ((apply r_cellN); (iterate 5 (· exact rfl))) | ((apply r_cell1); (iterate 4 (· exact rfl))))); (· exact rfl); (· exact av_int (by rw [pickV, if_neg (by omega), if_pos (by omega), c0, h1])); (· repeat' (first | exact PostOf.nil | ((apply p_cons); (iterate 2 (· exact rfl))))); (· exact rfl))
  · ((apply e_h []); (· repeat' (first | exact ResVs.nil | ((apply r_tmp); (· exact rfl)) | ((apply r_cellN); (iterate 5 (· exact rfl))) | ((apply r_cell1); (iterate 4 (· exact rfl))))); (· exact rfl); (· exact av_int (by rw [pickV, if_neg (by omega), if_neg (by omega), c1, c2, h1]; rfl)); (· repeat' (first | exact PostOf.nil | ((apply p_cons); (iterate 2 (· exact rfl))))); (· exact rfl))
end Go.AM
set_option linter.unusedVariables false
set_option linter.unusedSimpArgs false
set_option maxRecDepth 4000
namespace Go.AM
open Go.Proofs

theorem rd_lt {b : List (List Int)} {j : Nat} (h : rd b j 0 ≠ 0) : j < b.length := by
  rcases Nat.lt_or_ge j b.length with h' | h'
  · exact h'
  · exact absurd (by simp [rd, List.getD_eq_getElem?_getD, List.getElem?_eq_none h']) h
theorem By.take {b : List (List Int)} (h : By b) (n : Nat) : By (b.take n) := by
  intro j
  by_cases hj : j < n
  · have : rd (b.take n) j 0 = rd b j 0 := by simp [rd, List.getD_eq_getElem?_getD, List.getElem?_take, hj]
    rw [this]; exact h j
  · have : rd (b.take n) j 0 = 0 := by simp [rd, List.getD_eq_getElem?_getD, List.getElem?_take, hj]
    rw [this]; omega
abbrev openC (b : List (List Int)) : Ctr := ⟨[.one (.r 5000)], [(5000, .ro u1 b)], .one (.r 1), [(1, .box 184 [.r 2, .c (.int .i64 0)]), (2, .ro u1 (b.take 2000))]⟩
theorem c_97 (b : List (List Int)) (hl : b.length ≤ 9223372036854775807) : HOK Try.prog 97 (openC b) := by
  refine W.hfn 11 [.tmp 2] hTT Try.func97 rfl rfl rfl rfl rfl rfl rfl ?_
  repeat' (first
   | ((with_reducible apply v_cut); (iterate 10 (· exact rfl)); (iterate 3 (· first | omega | (simp only [lens, List.length_map, List.length_range]; omega))); (· exact rfl))
   | ((with_reducible apply v_mv); (iterate 3 (· exact rfl)))
   | ((with_reducible apply v_as); (iterate 3 (· exact rfl)))
   | ((with_reducible apply v_fa); (iterate 6 (· exact rfl)))
   | ((with_reducible apply v_far); (iterate 6 (· exact rfl)))
   | ((with_reducible apply v_ia); (iterate 8 (· exact rfl)); (iterate 2 (· first | omega | (simp only [lens, List.length_map, List.length_range]; omega))))
   | ((with_reducible apply v_lr_i64); (iterate 7 (· exact rfl)); (· first | omega | (simp only [lens, List.length_map, List.length_range]; omega)))
   | ((with_reducible apply v_ld); (iterate 6 (· exact rfl)))
   | ((with_reducible apply v_st); (iterate 7 (· exact rfl)))
   | ((with_reducible apply v_sr); (iterate 7 (· exact rfl)); (· first | omega | (simp only [lens, List.length_map, List.length_range]; omega)))
   | ((with_reducible apply v_srN); (iterate 7 (· exact rfl)); (· repeat' (first | exact RowC.nil | apply RowC.i | apply RowC.b)); (· first | omega | (simp only [lens, List.length_map, List.length_range]; omega)))
   | ((with_reducible apply v_tgt); (iterate 9 (· exact rfl)); (iterate 3 (· first | omega | (simp only [lens, List.length_map, List.length_range]; omega))); (· exact rfl))
   | ((with_reducible apply v_mks); (iterate 10 (· exact rfl)); (iterate 3 (· first | omega | (simp only [lens, List.length_map, List.length_range]; omega))))
   | ((with_reducible apply v_ext); (iterate 5 (· exact rfl)))
   | ((with_reducible apply v_cnv); (iterate 6 (· exact rfl)))
   | ((with_reducible apply v_min); (iterate 4 (· exact rfl)))
   | ((with_reducible apply v_max); (iterate 4 (· exact rfl)))
   | ((with_reducible apply v_ncr); (iterate 4 (· exact rfl)))
   | ((with_reducible apply v_ncp); (iterate 3 (· exact rfl)))
   | ((with_reducible apply v_lr_b); (iterate 7 (· exact rfl)); (· first | omega | (simp only [lens, List.length_map, List.length_range]; omega)))
   | ((with_reducible apply v_lr_u8); (iterate 7 (· exact rfl)); (· first | omega | (simp only [lens, List.length_map, List.length_range]; omega)))
   | ((with_reducible apply v_mkf); (iterate 3 (· exact rfl)))
   | ((with_reducible apply v_lss); (iterate 4 (· exact rfl)))
   | ((with_reducible apply v_leq); (iterate 4 (· exact rfl)))
   | ((with_reducible apply v_gtr); (iterate 4 (· exact rfl)))
   | ((with_reducible apply v_geq); (iterate 4 (· exact rfl)))
   | ((with_reducible apply v_eql); (iterate 4 (· exact rfl)))
   | ((with_reducible apply v_neq); (iterate 4 (· exact rfl)))
   | ((with_reducible apply v_add); (iterate 4 (· exact rfl)); (· first | omega | (simp only [lens, List.length_map, List.length_range]; omega)))
   | ((with_reducible apply v_sub); (iterate 4 (· exact rfl)); (· first | omega | (simp only [lens, List.length_map, List.length_range]; omega)))
   | ((with_reducible apply v_pkT); (iterate 4 (· exact rfl)))
   | ((with_reducible apply v_pkF); (iterate 4 (· exact rfl)))
   | ((with_reducible apply v_not); (iterate 3 (· exact rfl)))
   | ((with_reducible apply v_len); (iterate 5 (· exact rfl)))
   | ((with_reducible apply v_lenn); (iterate 4 (· exact rfl)))
   | ((with_reducible apply v_lit); (iterate 9 (· exact rfl)); (· repeat' (first | exact PartsC.nil | ((apply PartsC.cons); (· exact rfl)) | exact RowC.nil | apply RowC.i | apply RowC.b)))
   | ((with_reducible apply v_ap); (iterate 11 (· exact rfl)); (· first | omega | (simp only [lens, List.length_map, List.length_range]; omega)))
   | ((with_reducible apply v_ap0); (iterate 10 (· exact rfl)); (· first | omega | (simp only [lens, List.length_map, List.length_range]; omega)))
   | ((with_reducible apply v_alc); (iterate 5 (· exact rfl)))
   | ((with_reducible apply v_box); (iterate 4 (· exact rfl)))
   | ((with_reducible apply v_ldN); (iterate 7 (· exact rfl)))
   | ((with_reducible apply v_lrN); (iterate 8 (· exact rfl)); (· first | omega | (simp only [lens, List.length_map, List.length_range]; omega)))
   | ((with_reducible apply v_fld); (iterate 5 (· exact rfl)); (· kernel_rfl))
   | ((with_reducible apply v_bld); (iterate 6 (· exact rfl)))
   | ((with_reducible apply v_no); (iterate 2 (· exact rfl)))
   | ((with_reducible apply v_no'); (· exact rfl))
   | ((with_reducible apply v_ift); (iterate 2 (· exact rfl)); (· infer_instance))
   | ((with_reducible apply v_iff); (iterate 2 (· exact rfl)); (· infer_instance))
   | ((with_reducible apply v_pif); (· exact rfl); (· infer_instance))
   | (with_reducible apply vo_nil0)
   | ((with_reducible apply vo_nil); (· kernel_rfl))
   | (with_reducible apply w_rs)
   | ((with_reducible apply w_ds); (rotate_left); (iterate 2 (· kernel_rfl)))
   | (with_reducible apply w_r)
   | ((with_reducible apply w_d); (rotate_left); (iterate 2 (· kernel_rfl)))
   | (with_reducible apply w_sks)
   | (with_reducible apply W.skp)
   | (with_reducible apply W.ext)
   | (with_reducible apply W.rt)
   | (with_reducible apply w_blk)
   | ((with_reducible apply W.cT); (· exact rfl))
   | ((with_reducible apply W.cF); (· exact rfl))
   | ((with_reducible apply W.cn); (· exact rfl); (· infer_instance))
   | (with_reducible apply W.sq)
   | (with_reducible apply q_tn)
   | (with_reducible apply q_te)
   | (with_reducible apply q_tr)
   | (with_reducible apply q_bn)
   | (with_reducible apply q_br)
   | ((with_reducible apply q_be); (· exact rfl))
   | ((with_reducible apply q_bx); (· exact rfl))
   | (with_reducible apply q_er)
   | (with_reducible apply q_en)
   | (with_reducible apply q_her)
   | (with_reducible apply q_hen)
   | (intro _))
  · (apply e_h [(1, 10), (2, 7)]); (· repeat' (first | exact ResVs.nil | ((apply r_tmp); (· exact rfl)) | ((apply r_cellN); (iterate 5 (· exact rfl))) | ((apply r_cell1); (iterate 4 (· exact rfl))))); (· exact rfl)
    · rfl
    · refine p_cons rfl rfl (p_cons rfl ?_ .nil)
      simp [Obj.ren]
    · rfl
  · (apply e_h [(1, 10), (2, 5000)]); (· repeat' (first | exact ResVs.nil | ((apply r_tmp); (· exact rfl)) | ((apply r_cellN); (iterate 5 (· exact rfl))) | ((apply r_cell1); (iterate 4 (· exact rfl))))); (· exact rfl)
    · rfl
    · refine p_cons rfl rfl (p_cons rfl ?_ .nil)
      simp only [Obj.ren]
      rw [List.take_of_length_le (by omega)]
    · rfl
abbrev oneC (b : List (List Int)) (p : Int) (L : List (List Int)) : Ctr := ⟨[.one (.r 5001), .one (.r 5100)], (5100, .ro i1 L) :: rdB b p, .one (.c (.int .i64 (rd L (pickV b p (L.length : Int)).toNat 0))), [(5001, .box 184 [.r 5000, .c (.int .i64 (p + 1))])]⟩
theorem c_186 (b : List (List Int)) (hb : By b) (hl : b.length ≤ 2000) (p : Int) (hp : 0 ≤ p ∧ p < 1000000) (L : List (List Int)) (hL : 1 ≤ L.length) : HOK Try.prog 186 (oneC b p L) := by
  have hr := pickV_range b p (L.length : Int) (by omega)
  refine W.hfn 12 [.tmp 4] hTT Try.func186 rfl rfl rfl rfl rfl rfl rfl ?_
  repeat' (first
   | ((with_reducible apply v_hcall [] (c_185 b hb hl p _ hp)); (iterate 6 (· exact rfl)); (· repeat' (first | exact PreOf.nil | ((apply PreOf.same); (iterate 2 (· exact rfl))) | ((apply PreOf.ro); (iterate 2 (· exact rfl))) | ((apply PreOf.sro); (iterate 2 (· exact rfl))) | ((apply PreOf.rbox); (iterate 3 (· exact rfl))))); (iterate 2 (· exact rfl)))
   | ((with_reducible apply v_mv); (iterate 3 (· exact rfl)))
   | ((with_reducible apply v_as); (iterate 3 (· exact rfl)))
   | ((with_reducible apply v_fa); (iterate 6 (· exact rfl)))
   | ((with_reducible apply v_far); (iterate 6 (· exact rfl)))
   | ((with_reducible apply v_ia); (iterate 8 (· exact rfl)); (iterate 2 (· first | omega | (simp only [lens, List.length_map, List.length_range]; omega))))
   | ((with_reducible apply v_lr_i64); (iterate 7 (· exact rfl)); (· first | omega | (simp only [lens, List.length_map, List.length_range]; omega)))
   | ((with_reducible apply v_ld); (iterate 6 (· exact rfl)))
   | ((with_reducible apply v_st); (iterate 7 (· exact rfl)))
   | ((with_reducible apply v_sr); (iterate 7 (· exact rfl)); (· first | omega | (simp only [lens, List.length_map, List.length_range]; omega)))
   | ((with_reducible apply v_srN); (iterate 7 (· exact rfl)); (· repeat' (first | exact RowC.nil | apply RowC.i | apply RowC.b)); (· first | omega | (simp only [lens, List.length_map, List.length_range]; omega)))
   | ((with_reducible apply v_tgt); (iterate 9 (· exact rfl)); (iterate 3 (· first | omega | (simp only [lens, List.length_map, List.length_range]; omega))); (· exact rfl))
   | ((with_reducible apply v_mks); (iterate 10 (· exact rfl)); (iterate 3 (· first | omega | (simp only [lens, List.length_map, List.length_range]; omega))))
   | ((with_reducible apply v_ext); (iterate 5 (· exact rfl)))
   | ((with_reducible apply v_cnv); (iterate 6 (· exact rfl)))
   | ((with_reducible apply v_min); (iterate 4 (· exact rfl)))
   | ((with_reducible apply v_max); (iterate 4 (· exact rfl)))
   | ((with_reducible apply v_ncr); (iterate 4 (· exact rfl)))
   | ((with_reducible apply v_ncp); (iterate 3 (· exact rfl)))
   | ((with_reducible apply v_lr_b); (iterate 7 (· exact rfl)); (· first | omega | (simp only [lens, List.length_map, List.length_range]; omega)))
   | ((with_reducible apply v_lr_u8); (iterate 7 (· exact rfl)); (· first | omega | (simp only [lens, List.length_map, List.length_range]; omega)))
   | ((with_reducible apply v_mkf); (iterate 3 (· exact rfl)))
   | ((with_reducible apply v_lss); (iterate 4 (· exact rfl)))
   | ((with_reducible apply v_leq); (iterate 4 (· exact rfl)))
   | ((with_reducible apply v_gtr); (iterate 4 (· exact rfl)))
   | ((with_reducible apply v_geq); (iterate 4 (· exact rfl)))
   | ((with_reducible apply v_eql); (iterate 4 (· exact rfl)))
   | ((with_reducible apply v_neq); (iterate 4 (· exact rfl)))
   | ((with_reducible apply v_add); (iterate 4 (· exact rfl)); (· first | omega | (simp only [lens, List.length_map, List.length_range]; omega)))
   | ((with_reducible apply v_sub); (iterate 4 (· exact rfl)); (· first | omega | (simp only [lens, List.length_map, List.length_range]; omega)))
   | ((with_reducible apply v_pkT); (iterate 4 (· exact rfl)))
   | ((with_reducible apply v_pkF); (iterate 4 (· exact rfl)))
   | ((with_reducible apply v_not); (iterate 3 (· exact rfl)))
   | ((with_reducible apply v_len); (iterate 5 (· exact rfl)))
   | ((with_reducible apply v_lenn); (iterate 4 (· exact rfl)))
   | ((with_reducible apply v_lit); (iterate 9 (· exact rfl)); (· repeat' (first | exact PartsC.nil | ((apply PartsC.cons); (· exact rfl)) | exact RowC.nil | apply RowC.i | apply RowC.b)))
   | ((with_reducible apply v_ap); (iterate 11 (· exact rfl)); (· first | omega | (simp only [lens, List.length_map, List.length_range]; omega)))
   | ((with_reducible apply v_ap0); (iterate 10 (· exact rfl)); (· first | omega | (simp only [lens, List.length_map, List.length_range]; omega)))
   | ((with_reducible apply v_alc); (iterate 5 (· exact rfl)))
   | ((with_reducible apply v_box); (iterate 4 (· exact rfl)))
   | ((with_reducible apply v_ldN); (iterate 7 (· exact rfl)))
   | ((with_reducible apply v_lrN); (iterate 8 (· exact rfl)); (· first | omega | (simp only [lens, List.length_map, List.length_range]; omega)))
   | ((with_reducible apply v_fld); (iterate 5 (· exact rfl)); (· kernel_rfl))
   | ((with_reducible apply v_bld); (iterate 6 (· exact rfl)))
   | ((with_reducible apply v_no); (iterate 2 (· exact rfl)))
   | ((with_reducible apply v_no'); (· exact rfl))
   | ((with_reducible apply v_ift); (iterate 2 (· exact rfl)); (· infer_instance))
   | ((with_reducible apply v_iff); (iterate 2 (· exact rfl)); (· infer_instance))
   | ((with_reducible apply v_pif); (· exact rfl); (· infer_instance))
   | (with_reducible apply vo_nil0)
   | ((with_reducible apply vo_nil); (· kernel_rfl))
   | (with_reducible apply w_rs)
   | ((with_reducible apply w_ds); (rotate_left); (iterate 2 (· kernel_rfl)))
   | (with_reducible apply w_r)
   | ((with_reducible apply w_d); (rotate_left); (iterate 2 (· kernel_rfl)))
   | (with_reducible apply w_sks)
   | (with_reducible apply W.skp)
   | (with_reducible apply W.ext)
   | (with_reducible apply W.rt)
   | (with_reducible apply w_blk)
   | ((with_reducible apply W.cT); (· exact rfl))
   | ((with_reducible apply W.cF); (· exact rfl))
   | ((with_reducible apply W.cn); (· exact rfl); (· infer_instance))
   | (with_reducible apply W.sq)
   | (with_reducible apply q_tn)
   | (with_reducible apply q_te)
   | (with_reducible apply q_tr)
   | (with_reducible apply q_bn)
   | (with_reducible apply q_br)
   | ((with_reducible apply q_be); (· exact rfl))
   | ((with_reducible apply q_bx); (· exact rfl))
   | (with_reducible apply q_er)
   | (with_reducible apply q_en)
   | (with_reducible apply q_her)
   | (with_reducible apply q_hen)
   | (intro _))
  ((apply e_h []); (· repeat' (first | exact ResVs.nil | ((apply r_tmp); (· exact rfl)) | ((apply r_cellN); (iterate 5 (· exact rfl))) | ((apply r_cell1); (iterate 4 (· exact rfl))))); (· exact rfl); (· exact rfl); (· repeat' (first | exact PostOf.nil | ((apply p_cons); (iterate 2 (· exact rfl))))); (· exact rfl))
end Go.AM
set_option linter.unusedVariables false
set_option linter.unusedSimpArgs false
set_option maxRecDepth 4000
namespace Go.AM
open Go.Proofs

def netArc (b : List (List Int)) (p N : Int) : List Int :=
  [pickV b p N, (if pickV b p N = pickV b (p + 1) N then (pickV b (p + 1) N + 1) % N else pickV b (p + 1) N), rd [[0], [1], [2], [5], [9], [pickV b (p + 1 + 1) 100]] (pickV b (p + 1 + 1 + 1) 6).toNat 0, rd [[0], [0], [3], [8]] (pickV b (p + 1 + 1 + 1 + 1) 4).toNat 0, pickV b (p + 1 + 1 + 1 + 1 + 1) 10]
def netArcs (b : List (List Int)) (q N : Int) (i : Nat) : List (List Int) := (List.range i).map fun (j : Nat) => netArc b (q + 6 * (j : Int)) N
theorem netArcs_succ (b : List (List Int)) (q N : Int) (i : Nat) : netArcs b q N (i + 1) = netArcs b q N i ++ [netArc b (q + 6 * (i : Int)) N] := by simp [netArcs, List.range_succ]
theorem netArcs_length (b : List (List Int)) (q N : Int) (i : Nat) : (netArcs b q N i).length = i := by simp [netArcs]
abbrev netN (b : List (List Int)) (p : Int) : Int := 2 + pickV b p 5
abbrev netM (b : List (List Int)) (p : Int) : Int := pickV b (p + 1) 14
abbrev netA (b : List (List Int)) (p : Int) : List (List Int) := netArcs b (p + 1 + 1) (netN b p) (netM b p).toNat
abbrev netP (b : List (List Int)) (p : Int) : Int := p + 1 + 1 + 6 * netM b p
abbrev netC (b : List (List Int)) (p : Int) : Ctr := ⟨[.one (.r 5001)], rdB b p, .agg [.c (.int .i64 (netN b p)), .r 1], [(5001, .box 184 [.r 5000, .c (.int .i64 (netP b p))]), (1, .vec 54 i5 (netA b p))]⟩
theorem c_184 (b : List (List Int)) (hb : By b) (hl : b.length ≤ 2000) (p : Int) (hp : 0 ≤ p ∧ p < 900000) : HOK Try.prog 184 (netC b p) := by
  have hm : 0 ≤ netM b p ∧ netM b p < 14 := pickV_range b (p + 1) 14 (by omega)
  have hN0 := pickV_range b p 5 (by omega)
  have hN : 2 ≤ netN b p ∧ netN b p ≤ 6 := by
    show 2 ≤ 2 + pickV b p 5 ∧ 2 + pickV b p 5 ≤ 6
    omega
  refine W.hfn 54 [.cell 2 30] hTT Try.func184 rfl rfl rfl rfl rfl rfl rfl ?_
  repeat' (first
   | ((with_reducible apply v_hcall [] (c_185 b hb hl _ _ ?hq1)); (iterate 6 (· exact rfl)); (· repeat' (first | exact PreOf.nil | ((apply PreOf.same); (iterate 2 (· exact rfl))) | ((apply PreOf.ro); (iterate 2 (· exact rfl))) | ((apply PreOf.sro); (iterate 2 (· exact rfl))) | ((apply PreOf.rbox); (iterate 3 (· exact rfl))))); (iterate 2 (· exact rfl)); (case hq1 => first | omega | (simp only [lens, List.length_map, List.length_range]; omega)))
   | ((with_reducible apply v_mv); (iterate 3 (· exact rfl)))
   | ((with_reducible apply v_as); (iterate 3 (· exact rfl)))
   | ((with_reducible apply v_fa); (iterate 6 (· exact rfl)))
   | ((with_reducible apply v_far); (iterate 6 (· exact rfl)))
   | ((with_reducible apply v_ia); (iterate 8 (· exact rfl)); (iterate 2 (· first | omega | (simp only [lens, List.length_map, List.length_range]; omega))))
   | ((with_reducible apply v_lr_i64); (iterate 7 (· exact rfl)); (· first | omega | (simp only [lens, List.length_map, List.length_range]; omega)))
   | ((with_reducible apply v_ld); (iterate 6 (· exact rfl)))
   | ((with_reducible apply v_st); (iterate 7 (· exact rfl)))
   | ((with_reducible apply v_sr); (iterate 7 (· exact rfl)); (· first | omega | (simp only [lens, List.length_map, List.length_range]; omega)))
   | ((with_reducible apply v_srN); (iterate 7 (· exact rfl)); (· repeat' (first | exact RowC.nil | apply RowC.i | apply RowC.b)); (· first | omega | (simp only [lens, List.length_map, List.length_range]; omega)))
   | ((with_reducible apply v_tgt); (iterate 9 (· exact rfl)); (iterate 3 (· first | omega | (simp only [lens, List.length_map, List.length_range]; omega))); (· exact rfl))
   | ((with_reducible apply v_mks); (iterate 10 (· exact rfl)); (iterate 3 (· first | omega | (simp only [lens, List.length_map, List.length_range]; omega))))
   | ((with_reducible apply v_ext); (iterate 5 (· exact rfl)))
   | ((with_reducible apply v_cnv); (iterate 6 (· exact rfl)))
   | ((with_reducible apply v_min); (iterate 4 (· exact rfl)))
   | ((with_reducible apply v_max); (iterate 4 (· exact rfl)))
   | ((with_reducible apply v_ncr); (iterate 4 (· exact rfl)))
   | ((with_reducible apply v_ncp); (iterate 3 (· exact rfl)))
   | ((with_reducible apply v_lr_b); (iterate 7 (· exact rfl)); (· first | omega | (simp only [lens, List.length_map, List.length_range]; omega)))
   | ((with_reducible apply v_lr_u8); (iterate 7 (· exact rfl)); (· first | omega | (simp only [lens, List.length_map, List.length_range]; omega)))
   | ((with_reducible apply v_mkf); (iterate 3 (· exact rfl)))
   | ((with_reducible apply v_lss); (iterate 4 (· exact rfl)))
   | ((with_reducible apply v_leq); (iterate 4 (· exact rfl)))
   | ((with_reducible apply v_gtr); (iterate 4 (· exact rfl)))
   | ((with_reducible apply v_geq); (iterate 4 (· exact rfl)))
   | ((with_reducible apply v_eql); (iterate 4 (· exact rfl)))
   | ((with_reducible apply v_neq); (iterate 4 (· exact rfl)))
   | ((with_reducible apply v_add); (iterate 4 (· exact rfl)); (· first | omega | (simp only [lens, List.length_map, List.length_range]; omega)))
   | ((with_reducible apply v_sub); (iterate 4 (· exact rfl)); (· first | omega | (simp only [lens, List.length_map, List.length_range]; omega)))
   | ((with_reducible apply v_pkT); (iterate 4 (· exact rfl)))
   | ((with_reducible apply v_pkF); (iterate 4 (· exact rfl)))
   | ((with_reducible apply v_not); (iterate 3 (· exact rfl)))
   | ((with_reducible apply v_len); (iterate 5 (· exact rfl)))
   | ((with_reducible apply v_lenn); (iterate 4 (· exact rfl)))
   | ((with_reducible apply v_lit); (iterate 9 (· exact rfl)); (· repeat' (first | exact PartsC.nil | ((apply PartsC.cons); (· exact rfl)) | exact RowC.nil | apply RowC.i | apply RowC.b)))
   | ((with_reducible apply v_ap); (iterate 11 (· exact rfl)); (· first | omega | (simp only [lens, List.length_map, List.length_range]; omega)))
   | ((with_reducible apply v_ap0); (iterate 10 (· exact rfl)); (· first | omega | (simp only [lens, List.length_map, List.length_range]; omega)))
   | ((with_reducible apply v_alc); (iterate 5 (· exact rfl)))
   | ((with_reducible apply v_box); (iterate 4 (· exact rfl)))
   | ((with_reducible apply v_ldN); (iterate 7 (· exact rfl)))
   | ((with_reducible apply v_lrN); (iterate 8 (· exact rfl)); (· first | omega | (simp only [lens, List.length_map, List.length_range]; omega)))
   | ((with_reducible apply v_fld); (iterate 5 (· exact rfl)); (· kernel_rfl))
   | ((with_reducible apply v_bld); (iterate 6 (· exact rfl)))
   | ((with_reducible apply v_no); (iterate 2 (· exact rfl)))
   | ((with_reducible apply v_no'); (· exact rfl))
   | ((with_reducible apply v_ift); (iterate 2 (· exact rfl)); (· infer_instance))
   | ((with_reducible apply v_iff); (iterate 2 (· exact rfl)); (· infer_instance))
   | ((with_reducible apply v_pif); (· exact rfl); (· infer_instance))
   | (with_reducible apply vo_nil0)
   | ((with_reducible apply vo_nil); (· kernel_rfl))
   | (with_reducible apply w_rs)
   | ((with_reducible apply w_ds); (rotate_left); (iterate 2 (· kernel_rfl)))
   | (with_reducible apply w_r)
   | ((with_reducible apply w_d); (rotate_left); (iterate 2 (· kernel_rfl)))
   | (with_reducible apply w_sks)
   | (with_reducible apply W.skp)
   | (with_reducible apply W.ext)
   | (with_reducible apply W.rt)
   | (with_reducible apply w_blk)
   | ((with_reducible apply W.cT); (· exact rfl))
   | ((with_reducible apply W.cF); (· exact rfl))
   | ((with_reducible apply W.cn); (· exact rfl); (· infer_instance))
   | (with_reducible apply W.sq)
   | (with_reducible apply q_tn)
   | (with_reducible apply q_te)
   | (with_reducible apply q_tr)
   | (with_reducible apply q_bn)
   | (with_reducible apply q_br)
   | ((with_reducible apply q_be); (· exact rfl))
   | ((with_reducible apply q_bx); (· exact rfl))
   | (with_reducible apply q_er)
   | (with_reducible apply q_en)
   | (with_reducible apply q_her)
   | (with_reducible apply q_hen)
   | (intro _))
  (apply W.weak); (apply Wk.nilB 3 1 70000 54 i5); (iterate 4 (· exact rfl))
  refine W.lop (X := Nat) (fun i => mk 54 [(0, .one (.r 5001)), (2, .one (.r 2)), (3, .one (.r 3)), (4, .one (.c (.int .i64 (netM b p - i))))] [(5001, some (.box 184 [.r 5000, .c (.int .i64 (p + 1 + 1 + 6 * (i : Int)))])), (5000, some (.ro u1 b)), (2, some (.box 30 [.c (.int .i64 0), .c (.slice none 0 0)])), (3, some (.box 30 [.c (.int .i64 (netN b p)), .r 70000])), (70000, some (.vec 54 i5 (netArcs b (p + 1 + 1) (netN b p) i)))] [2, 3, 70000]) (fun i => (i : Int) ≤ netM b p) (fun i => (netM b p - i).toNat) 0 ?_ ?_ ?_
  · exact Wk.list [] (by refine TW.cons rfl (TW.cons rfl (TW.cons rfl (TW.eq rfl ?_ .nil))); simp [AV.ren, Sc.ren]) (by refine HW.eq rfl ?_ (HW.cons rfl (HW.cons rfl (HW.cons rfl (HW.cons rfl .nil)))); rw [show p + 1 + 1 + 6 * ((0 : Nat) : Int) = p + 1 + 1 by omega]; rfl) rfl
  · exact hm.1
  · intro i h1
    have hq := pickV_range b (p + 1 + 1 + 6 * (i : Int) + 1) (netN b p) (by omega)
    have hlen := netArcs_length b (p + 1 + 1) (netN b p) i
    repeat' (first
     | ((with_reducible apply v_hcall [] (c_185 b hb hl _ _ ?hq1)); (iterate 6 (· exact rfl)); (· repeat' (first | exact PreOf.nil | ((apply PreOf.same); (iterate 2 (· exact rfl))) | ((apply PreOf.ro); (iterate 2 (· exact rfl))) | ((apply PreOf.sro); (iterate 2 (· exact rfl))) | ((apply PreOf.rbox); (iterate 3 (· exact rfl))))); (iterate 2 (· exact rfl)); (case hq1 => first | omega | (simp only [lens, List.length_map, List.length_range]; omega)))
     | ((with_reducible apply v_hcall [] (c_186 b hb hl _ ?hq1 _ ?hq2)); (iterate 6 (· exact rfl)); (· repeat' (first | exact PreOf.nil | ((apply PreOf.same); (iterate 2 (· exact rfl))) | ((apply PreOf.ro); (iterate 2 (· exact rfl))) | ((apply PreOf.sro); (iterate 2 (· exact rfl))) | ((apply PreOf.rbox); (iterate 3 (· exact rfl))))); (iterate 2 (· exact rfl)); (case hq1 => first | omega | (simp only [lens, List.length_map, List.length_range]; omega)); (case hq2 => first | omega | (simp only [lens, List.length_map, List.length_range]; omega)))
     | ((with_reducible apply v_rem); (iterate 4 (· exact rfl)); (· first | omega | (simp only [lens, List.length_map, List.length_range]; omega)))
     | ((with_reducible apply v_mv); (iterate 3 (· exact rfl)))
     | ((with_reducible apply v_as); (iterate 3 (· exact rfl)))
     | ((with_reducible apply v_fa); (iterate 6 (· exact rfl)))
     | ((with_reducible apply v_far); (iterate 6 (· exact rfl)))
     | ((with_reducible apply v_ia); (iterate 8 (· exact rfl)); (iterate 2 (· first | omega | (simp only [lens, List.length_map, List.length_range]; omega))))
     | ((with_reducible apply v_lr_i64); (iterate 7 (· exact rfl)); (· first | omega | (simp only [lens, List.length_map, List.length_range]; omega)))
     | ((with_reducible apply v_ld); (iterate 6 (· exact rfl)))
     | ((with_reducible apply v_st); (iterate 7 (· exact rfl)))
     | ((with_reducible apply v_sr); (iterate 7 (· exact rfl)); (· first | omega | (simp only [lens, List.length_map, List.length_range]; omega)))
     | ((with_reducible apply v_srN); (iterate 7 (· exact rfl)); (· repeat' (first | exact RowC.nil | apply RowC.i | apply RowC.b)); (· first | omega | (simp only [lens, List.length_map, List.length_range]; omega)))
     | ((with_reducible apply v_tgt); (iterate 9 (· exact rfl)); (iterate 3 (· first | omega | (simp only [lens, List.length_map, List.length_range]; omega))); (· exact rfl))
     | ((with_reducible apply v_mks); (iterate 10 (· exact rfl)); (iterate 3 (· first | omega | (simp only [lens, List.length_map, List.length_range]; omega))))
     | ((with_reducible apply v_ext); (iterate 5 (· exact rfl)))
     | ((with_reducible apply v_cnv); (iterate 6 (· exact rfl)))
     | ((with_reducible apply v_min); (iterate 4 (· exact rfl)))
     | ((with_reducible apply v_max); (iterate 4 (· exact rfl)))
     | ((with_reducible apply v_ncr); (iterate 4 (· exact rfl)))
     | ((with_reducible apply v_ncp); (iterate 3 (· exact rfl)))
     | ((with_reducible apply v_lr_b); (iterate 7 (· exact rfl)); (· first | omega | (simp only [lens, List.length_map, List.length_range]; omega)))
     | ((with_reducible apply v_lr_u8); (iterate 7 (· exact rfl)); (· first | omega | (simp only [lens, List.length_map, List.length_range]; omega)))
     | ((with_reducible apply v_mkf); (iterate 3 (· exact rfl)))
     | ((with_reducible apply v_lss); (iterate 4 (· exact rfl)))
     | ((with_reducible apply v_leq); (iterate 4 (· exact rfl)))
     | ((with_reducible apply v_gtr); (iterate 4 (· exact rfl)))
     | ((with_reducible apply v_geq); (iterate 4 (· exact rfl)))
     | ((with_reducible apply v_eql); (iterate 4 (· exact rfl)))
     | ((with_reducible apply v_neq); (iterate 4 (· exact rfl)))
     | ((with_reducible apply v_add); (iterate 4 (· exact rfl)); (· first | omega | (simp only [lens, List.length_map, List.length_range]; omega)))
     | ((with_reducible apply v_sub); (iterate 4 (· exact rfl)); (· first | omega | (simp only [lens, List.length_map, List.length_range]; omega)))
     | ((with_reducible apply v_pkT); (iterate 4 (· exact rfl)))
     | ((with_reducible apply v_pkF); (iterate 4 (· exact rfl)))
     | ((with_reducible apply v_not); (iterate 3 (· exact rfl)))
     | ((with_reducible apply v_len); (iterate 5 (· exact rfl)))
     | ((with_reducible apply v_lenn); (iterate 4 (· exact rfl)))
     | ((with_reducible apply v_lit); (iterate 9 (· exact rfl)); (· repeat' (first | exact PartsC.nil | ((apply PartsC.cons); (· exact rfl)) | exact RowC.nil | apply RowC.i | apply RowC.b)))
     | ((with_reducible apply v_ap); (iterate 11 (· exact rfl)); (· first | omega | (simp only [lens, List.length_map, List.length_range]; omega)))
     | ((with_reducible apply v_ap0); (iterate 10 (· exact rfl)); (· first | omega | (simp only [lens, List.length_map, List.length_range]; omega)))
     | ((with_reducible apply v_alc); (iterate 5 (· exact rfl)))
     | ((with_reducible apply v_box); (iterate 4 (· exact rfl)))
     | ((with_reducible apply v_ldN); (iterate 7 (· exact rfl)))
     | ((with_reducible apply v_lrN); (iterate 8 (· exact rfl)); (· first | omega | (simp only [lens, List.length_map, List.length_range]; omega)))
     | ((with_reducible apply v_fld); (iterate 5 (· exact rfl)); (· kernel_rfl))
     | ((with_reducible apply v_bld); (iterate 6 (· exact rfl)))
     | ((with_reducible apply v_no); (iterate 2 (· exact rfl)))
     | ((with_reducible apply v_no'); (· exact rfl))
     | ((with_reducible apply v_ift); (iterate 2 (· exact rfl)); (· infer_instance))
     | ((with_reducible apply v_iff); (iterate 2 (· exact rfl)); (· infer_instance))
     | ((with_reducible apply v_pif); (· exact rfl); (· infer_instance))
     | (with_reducible apply vo_nil0)
     | ((with_reducible apply vo_nil); (· kernel_rfl))
     | (with_reducible apply w_rs)
     | ((with_reducible apply w_ds); (rotate_left); (iterate 2 (· kernel_rfl)))
     | (with_reducible apply w_r)
     | ((with_reducible apply w_d); (rotate_left); (iterate 2 (· kernel_rfl)))
     | (with_reducible apply w_sks)
     | (with_reducible apply W.skp)
     | (with_reducible apply W.ext)
     | (with_reducible apply W.rt)
     | (with_reducible apply w_blk)
     | ((with_reducible apply W.cT); (· exact rfl))
     | ((with_reducible apply W.cF); (· exact rfl))
     | ((with_reducible apply W.cn); (· exact rfl); (· infer_instance))
     | (with_reducible apply W.sq)
     | (with_reducible apply q_tn)
     | (with_reducible apply q_te)
     | (with_reducible apply q_tr)
     | (with_reducible apply q_bn)
     | (with_reducible apply q_br)
     | ((with_reducible apply q_be); (· exact rfl))
     | ((with_reducible apply q_bx); (· exact rfl))
     | (with_reducible apply q_er)
     | (with_reducible apply q_en)
     | (with_reducible apply q_her)
     | (with_reducible apply q_hen)
     | (intro _))
    · rename_i hc
      refine W.round (i + 1) (Wk.list [(70000, 51)] (by refine TW.cons rfl (TW.cons rfl (TW.cons rfl (TW.eq rfl ?_ .nil))); simp only [AV.ren, Sc.ren]; congr 3; omega) (by refine HW.eq rfl ?_ (HW.cons rfl (HW.cons rfl (HW.cons rfl (HW.eq rfl ?_ .nil)))); (rw [show p + 1 + 1 + 6 * ((i + 1 : Nat) : Int) = p + 1 + 1 + 6 * (i : Int) + 1 + 1 + 1 + 1 + 1 + 1 by omega]; rfl); (simp only [Obj.ren]; rw [netArcs_succ, netArc, if_pos hc]; rfl)) rfl) (by omega) (by omega)
    · rename_i hc
      refine W.round (i + 1) (Wk.list [(70000, 51)] (by refine TW.cons rfl (TW.cons rfl (TW.cons rfl (TW.eq rfl ?_ .nil))); simp only [AV.ren, Sc.ren]; congr 3; omega) (by refine HW.eq rfl ?_ (HW.cons rfl (HW.cons rfl (HW.cons rfl (HW.eq rfl ?_ .nil)))); (rw [show p + 1 + 1 + 6 * ((i + 1 : Nat) : Int) = p + 1 + 1 + 6 * (i : Int) + 1 + 1 + 1 + 1 + 1 + 1 by omega]; rfl); (simp only [Obj.ren]; rw [netArcs_succ, netArc, if_neg hc]; rfl)) rfl) (by omega) (by omega)
    · have hi : (i : Int) = netM b p := by omega
      (apply e_h [(1, 70000)]); (· repeat' (first | exact ResVs.nil | ((apply r_tmp); (· exact rfl)) | ((apply r_cellN); (iterate 5 (· exact rfl))) | ((apply r_cell1); (iterate 4 (· exact rfl))))); (· exact rfl)
      · rfl
      · refine p_cons rfl ?_ (p_cons rfl ?_ .nil)
        · rw [hi]; rfl
        · simp only [Obj.ren, netA, ← hi, Int.toNat_natCast]
      · rfl
end Go.AM
set_option linter.unusedVariables false
set_option linter.unusedSimpArgs false
set_option maxRecDepth 4000
namespace Go.AM
open Go.Proofs

abbrev setF (rows : List (List Int)) (k : Int) (f : Nat) (v : Int) : List (List Int) := rows.set k.toNat ((rows.getD k.toNat []).set f v)
abbrev anyL (b : List (List Int)) (p : Int) : Int := ((netA b p).length : Int)
abbrev anyK (b : List (List Int)) (p : Int) : Int := pickV b (netP b p) (anyL b p)
abbrev anyS (b : List (List Int)) (p : Int) : Int := pickV b (netP b p + 1) 16
abbrev anyO (b : List (List Int)) (p : Int) (L : List (List Int)) : Int := rd L (pickV b (netP b p + 1 + 1) (L.length : Int)).toNat 0
def anyN (b : List (List Int)) (p : Int) : Int := if 0 < anyL b p ∧ anyS b p = 2 then anyO b p [[0], [1], [9], [8]] else netN b p
def anyA (b : List (List Int)) (p : Int) : List (List Int) :=
  if 0 < anyL b p then (if anyS b p = 0 then setF (netA b p) (anyK b p) 1 (anyO b p [[-1], [8], [rd (netA b p) (anyK b p).toNat 0]]) else if anyS b p = 1 then setF (netA b p) (anyK b p) 2 (anyO b p [[-1], [100]]) else netA b p) else netA b p
def anyP (b : List (List Int)) (p : Int) : Int := if 0 < anyL b p then (if anyS b p = 0 ∨ anyS b p = 1 ∨ anyS b p = 2 then netP b p + 1 + 1 + 1 else netP b p + 1 + 1) else netP b p
abbrev anyC (b : List (List Int)) (p : Int) : Ctr := ⟨[.one (.r 5001)], rdB b p, .agg [.c (.int .i64 (anyN b p)), .r 1], [(5001, .box 184 [.r 5000, .c (.int .i64 (anyP b p))]), (1, .vec 54 i5 (anyA b p))]⟩
theorem netP_bd (b : List (List Int)) (p : Int) : p + 2 ≤ netP b p ∧ netP b p ≤ p + 80 := by
  have := pickV_range b (p + 1) 14 (by omega)
  show p + 2 ≤ p + 1 + 1 + 6 * pickV b (p + 1) 14 ∧ p + 1 + 1 + 6 * pickV b (p + 1) 14 ≤ p + 80
  omega
theorem netA_bd (b : List (List Int)) (p : Int) : (netA b p).length ≤ 13 := by
  have := pickV_range b (p + 1) 14 (by omega)
  show (netArcs _ _ _ _).length ≤ 13
  rw [netArcs_length]
  show (pickV b (p + 1) 14).toNat ≤ 13
  omega
theorem netA_wf (b : List (List Int)) (p : Int) : Wf i5 (netA b p) := by
  intro r hr
  simp only [netA, netArcs, List.mem_map] at hr
  obtain ⟨j, _, rfl⟩ := hr
  rfl
theorem any_res {b : List (List Int)} {p X : Int} (h : anyN b p = X) : AV.agg [Sc.c (.int .i64 X), Sc.r 90000] = AV.ren (sg [(1, 90000)]) (anyC b p).res := by rw [← h]; rfl
theorem any_box {b : List (List Int)} {p X : Int} (h : anyP b p = X) : Obj.box 184 [.r 5000, .c (.int .i64 X)] = Obj.ren (sg [(1, 90000)]) (.box 184 [.r 5000, .c (.int .i64 (anyP b p))]) := by rw [h]; rfl
theorem any_vec {b : List (List Int)} {p : Int} {X : List (List Int)} (h : anyA b p = X) : Obj.vec 54 i5 X = Obj.ren (sg [(1, 90000)]) (.vec 54 i5 (anyA b p)) := by rw [h]; rfl
theorem c_96 (b : List (List Int)) (hb : By b) (hl : b.length ≤ 2000) (p : Int) (hp : 0 ≤ p ∧ p < 800000) : HOK Try.prog 96 (anyC b p) := by
  have h1 := netP_bd b p
  have h2 := netA_bd b p
  have h184 := c_184 b hb hl p (by omega)
  have hk : (netA b p).length = 0 ∨ 0 ≤ pickV b (netP b p) ((netA b p).length : Int) ∧ pickV b (netP b p) ((netA b p).length : Int) < ((netA b p).length : Int) := by
    by_cases h : (netA b p).length = 0
    · exact .inl h
    · exact .inr (pickV_range b _ _ (by omega))
  refine W.hfn 51 [.cell 2 30] hTT Try.func96 rfl rfl rfl rfl rfl rfl rfl ?_
  repeat' (first
   | ((with_reducible apply v_hcall [90000] (h184)); (iterate 6 (· exact rfl)); (· repeat' (first | exact PreOf.nil | ((apply PreOf.same); (iterate 2 (· exact rfl))) | ((apply PreOf.ro); (iterate 2 (· exact rfl))) | ((apply PreOf.sro); (iterate 2 (· exact rfl))) | ((apply PreOf.rbox); (iterate 3 (· exact rfl))))); (iterate 2 (· exact rfl)))
   | ((with_reducible apply v_hcall [] (c_185 b hb hl _ _ ?hq1)); (iterate 6 (· exact rfl)); (· repeat' (first | exact PreOf.nil | ((apply PreOf.same); (iterate 2 (· exact rfl))) | ((apply PreOf.ro); (iterate 2 (· exact rfl))) | ((apply PreOf.sro); (iterate 2 (· exact rfl))) | ((apply PreOf.rbox); (iterate 3 (· exact rfl))))); (iterate 2 (· exact rfl)); (case hq1 => first | omega | (simp only [lens, List.length_map, List.length_range]; omega)))
   | ((with_reducible apply v_hcall [] (c_186 b hb hl _ ?hq1 _ ?hq2)); (iterate 6 (· exact rfl)); (· repeat' (first | exact PreOf.nil | ((apply PreOf.same); (iterate 2 (· exact rfl))) | ((apply PreOf.ro); (iterate 2 (· exact rfl))) | ((apply PreOf.sro); (iterate 2 (· exact rfl))) | ((apply PreOf.rbox); (iterate 3 (· exact rfl))))); (iterate 2 (· exact rfl)); (case hq1 => first | omega | (simp only [lens, List.length_map, List.length_range]; omega)); (case hq2 => first | omega | (simp only [lens, List.length_map, List.length_range]; omega)))
   | ((with_reducible apply v_mv); (iterate 3 (· exact rfl)))
   | ((with_reducible apply v_as); (iterate 3 (· exact rfl)))
   | ((with_reducible apply v_fa); (iterate 6 (· exact rfl)))
   | ((with_reducible apply v_far); (iterate 6 (· exact rfl)))
   | ((with_reducible apply v_ia); (iterate 8 (· exact rfl)); (iterate 2 (· first | omega | (simp only [lens, List.length_map, List.length_range]; omega))))
   | ((with_reducible apply v_lr_i64); (iterate 7 (· exact rfl)); (· first | omega | (simp only [lens, List.length_map, List.length_range]; omega)))
   | ((with_reducible apply v_ld); (iterate 6 (· exact rfl)))
   | ((with_reducible apply v_st); (iterate 7 (· exact rfl)))
   | ((with_reducible apply v_sr); (iterate 7 (· exact rfl)); (· first | omega | (simp only [lens, List.length_map, List.length_range]; omega)))
   | ((with_reducible apply v_srN); (iterate 7 (· exact rfl)); (· repeat' (first | exact RowC.nil | apply RowC.i | apply RowC.b)); (· first | omega | (simp only [lens, List.length_map, List.length_range]; omega)))
   | ((with_reducible apply v_tgt); (iterate 9 (· exact rfl)); (iterate 3 (· first | omega | (simp only [lens, List.length_map, List.length_range]; omega))); (· exact rfl))
   | ((with_reducible apply v_mks); (iterate 10 (· exact rfl)); (iterate 3 (· first | omega | (simp only [lens, List.length_map, List.length_range]; omega))))
   | ((with_reducible apply v_ext); (iterate 5 (· exact rfl)))
   | ((with_reducible apply v_cnv); (iterate 6 (· exact rfl)))
   | ((with_reducible apply v_min); (iterate 4 (· exact rfl)))
   | ((with_reducible apply v_max); (iterate 4 (· exact rfl)))
   | ((with_reducible apply v_ncr); (iterate 4 (· exact rfl)))
   | ((with_reducible apply v_ncp); (iterate 3 (· exact rfl)))
   | ((with_reducible apply v_lr_b); (iterate 7 (· exact rfl)); (· first | omega | (simp only [lens, List.length_map, List.length_range]; omega)))
   | ((with_reducible apply v_lr_u8); (iterate 7 (· exact rfl)); (· first | omega | (simp only [lens, List.length_map, List.length_range]; omega)))
   | ((with_reducible apply v_mkf); (iterate 3 (· exact rfl)))
   | ((with_reducible apply v_lss); (iterate 4 (· exact rfl)))
   | ((with_reducible apply v_leq); (iterate 4 (· exact rfl)))
   | ((with_reducible apply v_gtr); (iterate 4 (· exact rfl)))
   | ((with_reducible apply v_geq); (iterate 4 (· exact rfl)))
   | ((with_reducible apply v_eql); (iterate 4 (· exact rfl)))
   | ((with_reducible apply v_neq); (iterate 4 (· exact rfl)))
   | ((with_reducible apply v_add); (iterate 4 (· exact rfl)); (· first | omega | (simp only [lens, List.length_map, List.length_range]; omega)))
   | ((with_reducible apply v_sub); (iterate 4 (· exact rfl)); (· first | omega | (simp only [lens, List.length_map, List.length_range]; omega)))
   | ((with_reducible apply v_pkT); (iterate 4 (· exact rfl)))
   | ((with_reducible apply v_pkF); (iterate 4 (· exact rfl)))
   | ((with_reducible apply v_not); (iterate 3 (· exact rfl)))
   | ((with_reducible apply v_len); (iterate 5 (· exact rfl)))
   | ((with_reducible apply v_lenn); (iterate 4 (· exact rfl)))
   | ((with_reducible apply v_lit); (iterate 9 (· exact rfl)); (· repeat' (first | exact PartsC.nil | ((apply PartsC.cons); (· exact rfl)) | exact RowC.nil | apply RowC.i | apply RowC.b)))
   | ((with_reducible apply v_ap); (iterate 11 (· exact rfl)); (· first | omega | (simp only [lens, List.length_map, List.length_range]; omega)))
   | ((with_reducible apply v_ap0); (iterate 10 (· exact rfl)); (· first | omega | (simp only [lens, List.length_map, List.length_range]; omega)))
   | ((with_reducible apply v_alc); (iterate 5 (· exact rfl)))
   | ((with_reducible apply v_box); (iterate 4 (· exact rfl)))
   | ((with_reducible apply v_ldN); (iterate 7 (· exact rfl)))
   | ((with_reducible apply v_lrN); (iterate 8 (· exact rfl)); (· first | omega | (simp only [lens, List.length_map, List.length_range]; omega)))
   | ((with_reducible apply v_fld); (iterate 5 (· exact rfl)); (· kernel_rfl))
   | ((with_reducible apply v_bld); (iterate 6 (· exact rfl)))
   | ((with_reducible apply v_no); (iterate 2 (· exact rfl)))
   | ((with_reducible apply v_no'); (· exact rfl))
   | ((with_reducible apply v_ift); (iterate 2 (· exact rfl)); (· infer_instance))
   | ((with_reducible apply v_iff); (iterate 2 (· exact rfl)); (· infer_instance))
   | ((with_reducible apply v_pif); (· exact rfl); (· infer_instance))
   | (with_reducible apply vo_nil0)
   | ((with_reducible apply vo_nil); (· kernel_rfl))
   | (with_reducible apply w_rs)
   | ((with_reducible apply w_ds); (rotate_left); (iterate 2 (· kernel_rfl)))
   | (with_reducible apply w_r)
   | ((with_reducible apply w_d); (rotate_left); (iterate 2 (· kernel_rfl)))
   | (with_reducible apply w_sks)
   | (with_reducible apply W.skp)
   | (with_reducible apply W.ext)
   | (with_reducible apply W.rt)
   | (with_reducible apply w_blk)
   | ((with_reducible apply W.cT); (· exact rfl))
   | ((with_reducible apply W.cF); (· exact rfl))
   | ((with_reducible apply W.cn); (· exact rfl); (· infer_instance))
   | (with_reducible apply W.sq)
   | (with_reducible apply q_tn)
   | (with_reducible apply q_te)
   | (with_reducible apply q_tr)
   | (with_reducible apply q_bn)
   | (with_reducible apply q_br)
   | ((with_reducible apply q_be); (· exact rfl))
   | ((with_reducible apply q_bx); (· exact rfl))
   | (with_reducible apply q_er)
   | (with_reducible apply q_en)
   | (with_reducible apply q_her)
   | (with_reducible apply q_hen)
   | (intro _))
  all_goals
    (apply e_h [(1, 90000)]); (· repeat' (first | exact ResVs.nil | ((apply r_tmp); (· exact rfl)) | ((apply r_cellN); (iterate 5 (· exact rfl))) | ((apply r_cell1); (iterate 4 (· exact rfl))))); (· exact rfl)
    · exact any_res (by simp only [anyN, anyL, anyS, anyO]; repeat' split
                        all_goals first | rfl | (exfalso; omega))
    · refine p_cons rfl (any_box (by simp only [anyP, anyL, anyS]; repeat' split
                                     all_goals first | rfl | (exfalso; omega))) (p_cons rfl (any_vec ?_) .nil)
      simp only [anyA, anyL, anyS]
      repeat' split
      all_goals first | rfl | (exfalso; omega)
    · rfl
end Go.AM
set_option linter.unusedVariables false
set_option linter.unusedSimpArgs false
set_option maxRecDepth 4000
namespace Go.AM
open Go.Proofs

def nodeV (b : List (List Int)) (p N : Int) : Int := if pickV b p 16 = 0 then rd [[-1], [N]] (pickV b (p + 1) 2).toNat 0 else pickV b (p + 1) N
abbrev nodeC (b : List (List Int)) (p N : Int) (A : List (List Int)) : Ctr := ⟨[.one (.r 5001), .agg [.c (.int .i64 N), .r 5100]], (5100, .ro i5 A) :: rdB b p, .one (.c (.int .i64 (nodeV b p N))), [(5001, .box 184 [.r 5000, .c (.int .i64 (p + 1 + 1))])]⟩
theorem c_152 (b : List (List Int)) (hb : By b) (hl : b.length ≤ 2000) (p : Int) (hp : 0 ≤ p ∧ p < 900000) (N : Int) (A : List (List Int)) : HOK Try.prog 152 (nodeC b p N A) := by
  refine W.hfn 17 [.tmp 4] hTT Try.func152 rfl rfl rfl rfl rfl rfl rfl ?_
  repeat' (first
   | ((with_reducible apply v_hcall [] (c_185 b hb hl _ _ ?hq1)); (iterate 6 (· exact rfl)); (· repeat' (first | exact PreOf.nil | ((apply PreOf.same); (iterate 2 (· exact rfl))) | ((apply PreOf.ro); (iterate 2 (· exact rfl))) | ((apply PreOf.sro); (iterate 2 (· exact rfl))) | ((apply PreOf.rbox); (iterate 3 (· exact rfl))))); (iterate 2 (· exact rfl)); (case hq1 => first | omega | (simp only [lens, List.length_map, List.length_range]; omega)))
   | ((with_reducible apply v_hcall [] (c_186 b hb hl _ ?hq1 _ ?hq2)); (iterate 6 (· exact rfl)); (· repeat' (first | exact PreOf.nil | ((apply PreOf.same); (iterate 2 (· exact rfl))) | ((apply PreOf.ro); (iterate 2 (· exact rfl))) | ((apply PreOf.sro); (iterate 2 (· exact rfl))) | ((apply PreOf.rbox); (iterate 3 (· exact rfl))))); (iterate 2 (· exact rfl)); (case hq1 => first | omega | (simp only [lens, List.length_map, List.length_range]; omega)); (case hq2 => first | omega | (simp only [lens, List.length_map, List.length_range]; omega)))
   | ((with_reducible apply v_mv); (iterate 3 (· exact rfl)))
   | ((with_reducible apply v_as); (iterate 3 (· exact rfl)))
   | ((with_reducible apply v_fa); (iterate 6 (· exact rfl)))
   | ((with_reducible apply v_far); (iterate 6 (· exact rfl)))
   | ((with_reducible apply v_ia); (iterate 8 (· exact rfl)); (iterate 2 (· first | omega | (simp only [lens, List.length_map, List.length_range]; omega))))
   | ((with_reducible apply v_lr_i64); (iterate 7 (· exact rfl)); (· first | omega | (simp only [lens, List.length_map, List.length_range]; omega)))
   | ((with_reducible apply v_ld); (iterate 6 (· exact rfl)))
   | ((with_reducible apply v_st); (iterate 7 (· exact rfl)))
   | ((with_reducible apply v_sr); (iterate 7 (· exact rfl)); (· first | omega | (simp only [lens, List.length_map, List.length_range]; omega)))
   | ((with_reducible apply v_srN); (iterate 7 (· exact rfl)); (· repeat' (first | exact RowC.nil | apply RowC.i | apply RowC.b)); (· first | omega | (simp only [lens, List.length_map, List.length_range]; omega)))
   | ((with_reducible apply v_tgt); (iterate 9 (· exact rfl)); (iterate 3 (· first | omega | (simp only [lens, List.length_map, List.length_range]; omega))); (· exact rfl))
   | ((with_reducible apply v_mks); (iterate 10 (· exact rfl)); (iterate 3 (· first | omega | (simp only [lens, List.length_map, List.length_range]; omega))))
   | ((with_reducible apply v_ext); (iterate 5 (· exact rfl)))
   | ((with_reducible apply v_cnv); (iterate 6 (· exact rfl)))
   | ((with_reducible apply v_min); (iterate 4 (· exact rfl)))
   | ((with_reducible apply v_max); (iterate 4 (· exact rfl)))
   | ((with_reducible apply v_ncr); (iterate 4 (· exact rfl)))
   | ((with_reducible apply v_ncp); (iterate 3 (· exact rfl)))
   | ((with_reducible apply v_lr_b); (iterate 7 (· exact rfl)); (· first | omega | (simp only [lens, List.length_map, List.length_range]; omega)))
   | ((with_reducible apply v_lr_u8); (iterate 7 (· exact rfl)); (· first | omega | (simp only [lens, List.length_map, List.length_range]; omega)))
   | ((with_reducible apply v_mkf); (iterate 3 (· exact rfl)))
   | ((with_reducible apply v_lss); (iterate 4 (· exact rfl)))
   | ((with_reducible apply v_leq); (iterate 4 (· exact rfl)))
   | ((with_reducible apply v_gtr); (iterate 4 (· exact rfl)))
   | ((with_reducible apply v_geq); (iterate 4 (· exact rfl)))
   | ((with_reducible apply v_eql); (iterate 4 (· exact rfl)))
   | ((with_reducible apply v_neq); (iterate 4 (· exact rfl)))
   | ((with_reducible apply v_add); (iterate 4 (· exact rfl)); (· first | omega | (simp only [lens, List.length_map, List.length_range]; omega)))
   | ((with_reducible apply v_sub); (iterate 4 (· exact rfl)); (· first | omega | (simp only [lens, List.length_map, List.length_range]; omega)))
   | ((with_reducible apply v_pkT); (iterate 4 (· exact rfl)))
   | ((with_reducible apply v_pkF); (iterate 4 (· exact rfl)))
   | ((with_reducible apply v_not); (iterate 3 (· exact rfl)))
   | ((with_reducible apply v_len); (iterate 5 (· exact rfl)))
   | ((with_reducible apply v_lenn); (iterate 4 (· exact rfl)))
   | ((with_reducible apply v_lit); (iterate 9 (· exact rfl)); (· repeat' (first | exact PartsC.nil | ((apply PartsC.cons); (· exact rfl)) | exact RowC.nil | apply RowC.i | apply RowC.b)))
   | ((with_reducible apply v_ap); (iterate 11 (· exact rfl)); (· first | omega | (simp only [lens, List.length_map, List.length_range]; omega)))
   | ((with_reducible apply v_ap0); (iterate 10 (· exact rfl)); (· first | omega | (simp only [lens, List.length_map, List.length_range]; omega)))
   | ((with_reducible apply v_alc); (iterate 5 (· exact rfl)))
   | ((with_reducible apply v_box); (iterate 4 (· exact rfl)))
   | ((with_reducible apply v_ldN); (iterate 7 (· exact rfl)))
   | ((with_reducible apply v_lrN); (iterate 8 (· exact rfl)); (· first | omega | (simp only [lens, List.length_map, List.length_range]; omega)))
   | ((with_reducible apply v_fld); (iterate 5 (· exact rfl)); (· kernel_rfl))
   | ((with_reducible apply v_bld); (iterate 6 (· exact rfl)))
   | ((with_reducible apply v_no); (iterate 2 (· exact rfl)))
   | ((with_reducible apply v_no'); (· exact rfl))
   | ((with_reducible apply v_ift); (iterate 2 (· exact rfl)); (· infer_instance))
   | ((with_reducible apply v_iff); (iterate 2 (· exact rfl)); (· infer_instance))
   | ((with_reducible apply v_pif); (· exact rfl); (· infer_instance))
   | (with_reducible apply vo_nil0)
   | ((with_reducible apply vo_nil); (· kernel_rfl))
   | (with_reducible apply w_rs)
   | ((with_reducible apply w_ds); (rotate_left); (iterate 2 (· kernel_rfl)))
   | (with_reducible apply w_r)
   | ((with_reducible apply w_d); (rotate_left); (iterate 2 (· kernel_rfl)))
   | (with_reducible apply w_sks)
   | (with_reducible apply W.skp)
   | (with_reducible apply W.ext)
   | (with_reducible apply W.rt)
   | (with_reducible apply w_blk)
   | ((with_reducible apply W.cT); (· exact rfl))
   | ((with_reducible apply W.cF); (· exact rfl))
   | ((with_reducible apply W.cn); (· exact rfl); (· infer_instance))
   | (with_reducible apply W.sq)
   | (with_reducible apply q_tn)
   | (with_reducible apply q_te)
   | (with_reducible apply q_tr)
   | (with_reducible apply q_bn)
   | (with_reducible apply q_br)
   | ((with_reducible apply q_be); (· exact rfl))
   | ((with_reducible apply q_bx); (· exact rfl))
   | (with_reducible apply q_er)
   | (with_reducible apply q_en)
   | (with_reducible apply q_her)
   | (with_reducible apply q_hen)
   | (intro _))
  · rename_i a1
    ((apply e_h []); (· repeat' (first | exact ResVs.nil | ((apply r_tmp); (· exact rfl)) | ((apply r_cellN); (iterate 5 (· exact rfl))) | ((apply r_cell1); (iterate 4 (· exact rfl))))); (· exact rfl); (· exact av_int (by rw [nodeV, if_pos a1]; rfl)); (· repeat' (first | exact PostOf.nil | ((apply p_cons); (iterate 2 (· exact rfl))))); (· exact rfl))
  · rename_i a1
    ((apply e_h []); (· repeat' (first | exact ResVs.nil | ((apply r_tmp); (· exact rfl)) | ((apply r_cellN); (iterate 5 (· exact rfl))) | ((apply r_cell1); (iterate 4 (· exact rfl))))); (· exact rfl); (· exact av_int (by rw [nodeV, if_neg a1])); (· repeat' (first | exact PostOf.nil | ((apply p_cons); (iterate 2 (· exact rfl))))); (· exact rfl))
/-- The bytes that are read. -/
abbrev cut2 (b : List (List Int)) : List (List Int) := b.take 2000
theorem cut2_len (b : List (List Int)) : (cut2 b).length ≤ 2000 := by simp; omega
abbrev dN (b : List (List Int)) : Int := anyN (cut2 b) 0
abbrev dA (b : List (List Int)) : List (List Int) := anyA (cut2 b) 0
abbrev dP (b : List (List Int)) : Int := anyP (cut2 b) 0
theorem anyP_bd (b : List (List Int)) (p : Int) : p ≤ anyP b p ∧ anyP b p ≤ p + 100 := by
  have := netP_bd b p
  simp only [anyP]
  repeat' split
  all_goals omega
theorem setF_length (rows : List (List Int)) (k : Int) (f : Nat) (v : Int) : (setF rows k f v).length = rows.length := by simp [setF]
theorem anyA_bd (b : List (List Int)) (p : Int) : (anyA b p).length ≤ 13 := by
  have := netA_bd b p
  simp only [anyA]
  repeat' split
  all_goals (try rw [setF_length])
  all_goals omega
theorem anyA_wf (b : List (List Int)) (p : Int) : Wf i5 (anyA b p) := by
  have h := netA_wf b p
  simp only [anyA]
  repeat' split
  · exact h.set _ _ _
  · exact h.set _ _ _
  · exact h
  · exact h
abbrev codeA (b : List (List Int)) : List AV := [.one (.r 5000)]
abbrev codeP (b : List (List Int)) : List (Nat × Obj) := [(5000, .ro u1 b)]
/-- A net is drawn. -/
abbrev dNetC (b : List (List Int)) : Ctr := ⟨codeA b, codeP b, .agg [.c (.int .i64 (dN b)), .r 1], [(1, .vec 54 i5 (dA b))]⟩
theorem c_31 (b : List (List Int)) (hb : By b) (hl : b.length ≤ 9223372036854775807) : HOK Try.prog 31 (dNetC b) := by
  have h96 := c_96 (cut2 b) (hb.take 2000) (cut2_len b) 0 (by omega)
  refine W.hfn 6 [.cell 2 30] hTT Try.func31 rfl rfl rfl rfl rfl rfl rfl ?_
  repeat' (first
   | ((with_reducible apply v_hcall [91000,91001] (c_97 b hl)); (iterate 6 (· exact rfl)); (· repeat' (first | exact PreOf.nil | ((apply PreOf.same); (iterate 2 (· exact rfl))) | ((apply PreOf.ro); (iterate 2 (· exact rfl))) | ((apply PreOf.sro); (iterate 2 (· exact rfl))) | ((apply PreOf.rbox); (iterate 3 (· exact rfl))))); (iterate 2 (· exact rfl)))
   | ((with_reducible apply v_hcall [92000] (h96)); (iterate 6 (· exact rfl)); (· repeat' (first | exact PreOf.nil | ((apply PreOf.same); (iterate 2 (· exact rfl))) | ((apply PreOf.ro); (iterate 2 (· exact rfl))) | ((apply PreOf.sro); (iterate 2 (· exact rfl))) | ((apply PreOf.rbox); (iterate 3 (· exact rfl))))); (iterate 2 (· exact rfl)))
   | ((with_reducible apply v_mv); (iterate 3 (· exact rfl)))
   | ((with_reducible apply v_as); (iterate 3 (· exact rfl)))
   | ((with_reducible apply v_fa); (iterate 6 (· exact rfl)))
   | ((with_reducible apply v_far); (iterate 6 (· exact rfl)))
   | ((with_reducible apply v_ia); (iterate 8 (· exact rfl)); (iterate 2 (· first | omega | (simp only [lens, List.length_map, List.length_range]; omega))))
   | ((with_reducible apply v_lr_i64); (iterate 7 (· exact rfl)); (· first | omega | (simp only [lens, List.length_map, List.length_range]; omega)))
   | ((with_reducible apply v_ld); (iterate 6 (· exact rfl)))
   | ((with_reducible apply v_st); (iterate 7 (· exact rfl)))
   | ((with_reducible apply v_sr); (iterate 7 (· exact rfl)); (· first | omega | (simp only [lens, List.length_map, List.length_range]; omega)))
   | ((with_reducible apply v_srN); (iterate 7 (· exact rfl)); (· repeat' (first | exact RowC.nil | apply RowC.i | apply RowC.b)); (· first | omega | (simp only [lens, List.length_map, List.length_range]; omega)))
   | ((with_reducible apply v_tgt); (iterate 9 (· exact rfl)); (iterate 3 (· first | omega | (simp only [lens, List.length_map, List.length_range]; omega))); (· exact rfl))
   | ((with_reducible apply v_mks); (iterate 10 (· exact rfl)); (iterate 3 (· first | omega | (simp only [lens, List.length_map, List.length_range]; omega))))
   | ((with_reducible apply v_ext); (iterate 5 (· exact rfl)))
   | ((with_reducible apply v_cnv); (iterate 6 (· exact rfl)))
   | ((with_reducible apply v_min); (iterate 4 (· exact rfl)))
   | ((with_reducible apply v_max); (iterate 4 (· exact rfl)))
   | ((with_reducible apply v_ncr); (iterate 4 (· exact rfl)))
   | ((with_reducible apply v_ncp); (iterate 3 (· exact rfl)))
   | ((with_reducible apply v_lr_b); (iterate 7 (· exact rfl)); (· first | omega | (simp only [lens, List.length_map, List.length_range]; omega)))
   | ((with_reducible apply v_lr_u8); (iterate 7 (· exact rfl)); (· first | omega | (simp only [lens, List.length_map, List.length_range]; omega)))
   | ((with_reducible apply v_mkf); (iterate 3 (· exact rfl)))
   | ((with_reducible apply v_lss); (iterate 4 (· exact rfl)))
   | ((with_reducible apply v_leq); (iterate 4 (· exact rfl)))
   | ((with_reducible apply v_gtr); (iterate 4 (· exact rfl)))
   | ((with_reducible apply v_geq); (iterate 4 (· exact rfl)))
   | ((with_reducible apply v_eql); (iterate 4 (· exact rfl)))
   | ((with_reducible apply v_neq); (iterate 4 (· exact rfl)))
   | ((with_reducible apply v_add); (iterate 4 (· exact rfl)); (· first | omega | (simp only [lens, List.length_map, List.length_range]; omega)))
   | ((with_reducible apply v_sub); (iterate 4 (· exact rfl)); (· first | omega | (simp only [lens, List.length_map, List.length_range]; omega)))
   | ((with_reducible apply v_pkT); (iterate 4 (· exact rfl)))
   | ((with_reducible apply v_pkF); (iterate 4 (· exact rfl)))
   | ((with_reducible apply v_not); (iterate 3 (· exact rfl)))
   | ((with_reducible apply v_len); (iterate 5 (· exact rfl)))
   | ((with_reducible apply v_lenn); (iterate 4 (· exact rfl)))
   | ((with_reducible apply v_lit); (iterate 9 (· exact rfl)); (· repeat' (first | exact PartsC.nil | ((apply PartsC.cons); (· exact rfl)) | exact RowC.nil | apply RowC.i | apply RowC.b)))
   | ((with_reducible apply v_ap); (iterate 11 (· exact rfl)); (· first | omega | (simp only [lens, List.length_map, List.length_range]; omega)))
   | ((with_reducible apply v_ap0); (iterate 10 (· exact rfl)); (· first | omega | (simp only [lens, List.length_map, List.length_range]; omega)))
   | ((with_reducible apply v_alc); (iterate 5 (· exact rfl)))
   | ((with_reducible apply v_box); (iterate 4 (· exact rfl)))
   | ((with_reducible apply v_ldN); (iterate 7 (· exact rfl)))
   | ((with_reducible apply v_lrN); (iterate 8 (· exact rfl)); (· first | omega | (simp only [lens, List.length_map, List.length_range]; omega)))
   | ((with_reducible apply v_fld); (iterate 5 (· exact rfl)); (· kernel_rfl))
   | ((with_reducible apply v_bld); (iterate 6 (· exact rfl)))
   | ((with_reducible apply v_no); (iterate 2 (· exact rfl)))
   | ((with_reducible apply v_no'); (· exact rfl))
   | ((with_reducible apply v_ift); (iterate 2 (· exact rfl)); (· infer_instance))
   | ((with_reducible apply v_iff); (iterate 2 (· exact rfl)); (· infer_instance))
   | ((with_reducible apply v_pif); (· exact rfl); (· infer_instance))
   | (with_reducible apply vo_nil0)
   | ((with_reducible apply vo_nil); (· kernel_rfl))
   | (with_reducible apply w_rs)
   | ((with_reducible apply w_ds); (rotate_left); (iterate 2 (· kernel_rfl)))
   | (with_reducible apply w_r)
   | ((with_reducible apply w_d); (rotate_left); (iterate 2 (· kernel_rfl)))
   | (with_reducible apply w_sks)
   | (with_reducible apply W.skp)
   | (with_reducible apply W.ext)
   | (with_reducible apply W.rt)
   | (with_reducible apply w_blk)
   | ((with_reducible apply W.cT); (· exact rfl))
   | ((with_reducible apply W.cF); (· exact rfl))
   | ((with_reducible apply W.cn); (· exact rfl); (· infer_instance))
   | (with_reducible apply W.sq)
   | (with_reducible apply q_tn)
   | (with_reducible apply q_te)
   | (with_reducible apply q_tr)
   | (with_reducible apply q_bn)
   | (with_reducible apply q_br)
   | ((with_reducible apply q_be); (· exact rfl))
   | ((with_reducible apply q_bx); (· exact rfl))
   | (with_reducible apply q_er)
   | (with_reducible apply q_en)
   | (with_reducible apply q_her)
   | (with_reducible apply q_hen)
   | (intro _))
  ((apply e_h [(1, 92000)]); (· repeat' (first | exact ResVs.nil | ((apply r_tmp); (· exact rfl)) | ((apply r_cellN); (iterate 5 (· exact rfl))) | ((apply r_cell1); (iterate 4 (· exact rfl))))); (· exact rfl); (· exact rfl); (· repeat' (first | exact PostOf.nil | ((apply p_cons); (iterate 2 (· exact rfl))))); (· exact rfl))
theorem c_45 (b : List (List Int)) (hb : By b) (hl : b.length ≤ 9223372036854775807) : HOK Try.prog 45 (dNetC b) := by
  have h96 := c_96 (cut2 b) (hb.take 2000) (cut2_len b) 0 (by omega)
  refine W.hfn 6 [.cell 2 30] hTT Try.func45 rfl rfl rfl rfl rfl rfl rfl ?_
  repeat' (first
   | ((with_reducible apply v_hcall [91000,91001] (c_97 b hl)); (iterate 6 (· exact rfl)); (· repeat' (first | exact PreOf.nil | ((apply PreOf.same); (iterate 2 (· exact rfl))) | ((apply PreOf.ro); (iterate 2 (· exact rfl))) | ((apply PreOf.sro); (iterate 2 (· exact rfl))) | ((apply PreOf.rbox); (iterate 3 (· exact rfl))))); (iterate 2 (· exact rfl)))
   | ((with_reducible apply v_hcall [92000] (h96)); (iterate 6 (· exact rfl)); (· repeat' (first | exact PreOf.nil | ((apply PreOf.same); (iterate 2 (· exact rfl))) | ((apply PreOf.ro); (iterate 2 (· exact rfl))) | ((apply PreOf.sro); (iterate 2 (· exact rfl))) | ((apply PreOf.rbox); (iterate 3 (· exact rfl))))); (iterate 2 (· exact rfl)))
   | ((with_reducible apply v_mv); (iterate 3 (· exact rfl)))
   | ((with_reducible apply v_as); (iterate 3 (· exact rfl)))
   | ((with_reducible apply v_fa); (iterate 6 (· exact rfl)))
   | ((with_reducible apply v_far); (iterate 6 (· exact rfl)))
   | ((with_reducible apply v_ia); (iterate 8 (· exact rfl)); (iterate 2 (· first | omega | (simp only [lens, List.length_map, List.length_range]; omega))))
   | ((with_reducible apply v_lr_i64); (iterate 7 (· exact rfl)); (· first | omega | (simp only [lens, List.length_map, List.length_range]; omega)))
   | ((with_reducible apply v_ld); (iterate 6 (· exact rfl)))
   | ((with_reducible apply v_st); (iterate 7 (· exact rfl)))
   | ((with_reducible apply v_sr); (iterate 7 (· exact rfl)); (· first | omega | (simp only [lens, List.length_map, List.length_range]; omega)))
   | ((with_reducible apply v_srN); (iterate 7 (· exact rfl)); (· repeat' (first | exact RowC.nil | apply RowC.i | apply RowC.b)); (· first | omega | (simp only [lens, List.length_map, List.length_range]; omega)))
   | ((with_reducible apply v_tgt); (iterate 9 (· exact rfl)); (iterate 3 (· first | omega | (simp only [lens, List.length_map, List.length_range]; omega))); (· exact rfl))
   | ((with_reducible apply v_mks); (iterate 10 (· exact rfl)); (iterate 3 (· first | omega | (simp only [lens, List.length_map, List.length_range]; omega))))
   | ((with_reducible apply v_ext); (iterate 5 (· exact rfl)))
   | ((with_reducible apply v_cnv); (iterate 6 (· exact rfl)))
   | ((with_reducible apply v_min); (iterate 4 (· exact rfl)))
   | ((with_reducible apply v_max); (iterate 4 (· exact rfl)))
   | ((with_reducible apply v_ncr); (iterate 4 (· exact rfl)))
   | ((with_reducible apply v_ncp); (iterate 3 (· exact rfl)))
   | ((with_reducible apply v_lr_b); (iterate 7 (· exact rfl)); (· first | omega | (simp only [lens, List.length_map, List.length_range]; omega)))
   | ((with_reducible apply v_lr_u8); (iterate 7 (· exact rfl)); (· first | omega | (simp only [lens, List.length_map, List.length_range]; omega)))
   | ((with_reducible apply v_mkf); (iterate 3 (· exact rfl)))
   | ((with_reducible apply v_lss); (iterate 4 (· exact rfl)))
   | ((with_reducible apply v_leq); (iterate 4 (· exact rfl)))
   | ((with_reducible apply v_gtr); (iterate 4 (· exact rfl)))
   | ((with_reducible apply v_geq); (iterate 4 (· exact rfl)))
   | ((with_reducible apply v_eql); (iterate 4 (· exact rfl)))
   | ((with_reducible apply v_neq); (iterate 4 (· exact rfl)))
   | ((with_reducible apply v_add); (iterate 4 (· exact rfl)); (· first | omega | (simp only [lens, List.length_map, List.length_range]; omega)))
   | ((with_reducible apply v_sub); (iterate 4 (· exact rfl)); (· first | omega | (simp only [lens, List.length_map, List.length_range]; omega)))
   | ((with_reducible apply v_pkT); (iterate 4 (· exact rfl)))
   | ((with_reducible apply v_pkF); (iterate 4 (· exact rfl)))
   | ((with_reducible apply v_not); (iterate 3 (· exact rfl)))
   | ((with_reducible apply v_len); (iterate 5 (· exact rfl)))
   | ((with_reducible apply v_lenn); (iterate 4 (· exact rfl)))
   | ((with_reducible apply v_lit); (iterate 9 (· exact rfl)); (· repeat' (first | exact PartsC.nil | ((apply PartsC.cons); (· exact rfl)) | exact RowC.nil | apply RowC.i | apply RowC.b)))
   | ((with_reducible apply v_ap); (iterate 11 (· exact rfl)); (· first | omega | (simp only [lens, List.length_map, List.length_range]; omega)))
   | ((with_reducible apply v_ap0); (iterate 10 (· exact rfl)); (· first | omega | (simp only [lens, List.length_map, List.length_range]; omega)))
   | ((with_reducible apply v_alc); (iterate 5 (· exact rfl)))
   | ((with_reducible apply v_box); (iterate 4 (· exact rfl)))
   | ((with_reducible apply v_ldN); (iterate 7 (· exact rfl)))
   | ((with_reducible apply v_lrN); (iterate 8 (· exact rfl)); (· first | omega | (simp only [lens, List.length_map, List.length_range]; omega)))
   | ((with_reducible apply v_fld); (iterate 5 (· exact rfl)); (· kernel_rfl))
   | ((with_reducible apply v_bld); (iterate 6 (· exact rfl)))
   | ((with_reducible apply v_no); (iterate 2 (· exact rfl)))
   | ((with_reducible apply v_no'); (· exact rfl))
   | ((with_reducible apply v_ift); (iterate 2 (· exact rfl)); (· infer_instance))
   | ((with_reducible apply v_iff); (iterate 2 (· exact rfl)); (· infer_instance))
   | ((with_reducible apply v_pif); (· exact rfl); (· infer_instance))
   | (with_reducible apply vo_nil0)
   | ((with_reducible apply vo_nil); (· kernel_rfl))
   | (with_reducible apply w_rs)
   | ((with_reducible apply w_ds); (rotate_left); (iterate 2 (· kernel_rfl)))
   | (with_reducible apply w_r)
   | ((with_reducible apply w_d); (rotate_left); (iterate 2 (· kernel_rfl)))
   | (with_reducible apply w_sks)
   | (with_reducible apply W.skp)
   | (with_reducible apply W.ext)
   | (with_reducible apply W.rt)
   | (with_reducible apply w_blk)
   | ((with_reducible apply W.cT); (· exact rfl))
   | ((with_reducible apply W.cF); (· exact rfl))
   | ((with_reducible apply W.cn); (· exact rfl); (· infer_instance))
   | (with_reducible apply W.sq)
   | (with_reducible apply q_tn)
   | (with_reducible apply q_te)
   | (with_reducible apply q_tr)
   | (with_reducible apply q_bn)
   | (with_reducible apply q_br)
   | ((with_reducible apply q_be); (· exact rfl))
   | ((with_reducible apply q_bx); (· exact rfl))
   | (with_reducible apply q_er)
   | (with_reducible apply q_en)
   | (with_reducible apply q_her)
   | (with_reducible apply q_hen)
   | (intro _))
  ((apply e_h [(1, 92000)]); (· repeat' (first | exact ResVs.nil | ((apply r_tmp); (· exact rfl)) | ((apply r_cellN); (iterate 5 (· exact rfl))) | ((apply r_cell1); (iterate 4 (· exact rfl))))); (· exact rfl); (· exact rfl); (· repeat' (first | exact PostOf.nil | ((apply p_cons); (iterate 2 (· exact rfl))))); (· exact rfl))
abbrev dF1 (b : List (List Int)) : Int := nodeV (cut2 b) (dP b) (dN b)
abbrev dF2 (b : List (List Int)) : Int := nodeV (cut2 b) (dP b + 1 + 1) (dN b)
/-- A net and a node. -/
abbrev dNet1C (b : List (List Int)) : Ctr := ⟨codeA b, codeP b, .tup [(true, [.c (.int .i64 (dN b)), .r 1]), (false, [.c (.int .i64 (dF1 b))])], [(1, .vec 54 i5 (dA b))]⟩
/-- A net and two nodes. -/
abbrev dNet2C (b : List (List Int)) : Ctr := ⟨codeA b, codeP b, .tup [(true, [.c (.int .i64 (dN b)), .r 1]), (false, [.c (.int .i64 (dF1 b))]), (false, [.c (.int .i64 (dF2 b))])], [(1, .vec 54 i5 (dA b))]⟩
theorem c_65 (b : List (List Int)) (hb : By b) (hl : b.length ≤ 9223372036854775807) : HOK Try.prog 65 (dNet1C b) := by
  have h96 := c_96 (cut2 b) (hb.take 2000) (cut2_len b) 0 (by omega)
  have hp := anyP_bd (cut2 b) 0
  refine W.hfn 14 [.cell 2 30, .tmp 3] hTT Try.func65 rfl rfl rfl rfl rfl rfl rfl ?_
  repeat' (first
   | ((with_reducible apply v_hcall [91000,91001] (c_97 b hl)); (iterate 6 (· exact rfl)); (· repeat' (first | exact PreOf.nil | ((apply PreOf.same); (iterate 2 (· exact rfl))) | ((apply PreOf.ro); (iterate 2 (· exact rfl))) | ((apply PreOf.sro); (iterate 2 (· exact rfl))) | ((apply PreOf.rbox); (iterate 3 (· exact rfl))))); (iterate 2 (· exact rfl)))
   | ((with_reducible apply v_hcall [92000] (h96)); (iterate 6 (· exact rfl)); (· repeat' (first | exact PreOf.nil | ((apply PreOf.same); (iterate 2 (· exact rfl))) | ((apply PreOf.ro); (iterate 2 (· exact rfl))) | ((apply PreOf.sro); (iterate 2 (· exact rfl))) | ((apply PreOf.rbox); (iterate 3 (· exact rfl))))); (iterate 2 (· exact rfl)))
   | ((with_reducible apply v_hcall [] (c_152 (cut2 b) (hb.take 2000) (cut2_len b) _ ?hq1 _ _)); (iterate 6 (· exact rfl)); (· repeat' (first | exact PreOf.nil | ((apply PreOf.same); (iterate 2 (· exact rfl))) | ((apply PreOf.ro); (iterate 2 (· exact rfl))) | ((apply PreOf.sro); (iterate 2 (· exact rfl))) | ((apply PreOf.rbox); (iterate 3 (· exact rfl))))); (iterate 2 (· exact rfl)); (case hq1 => first | omega | (simp only [lens, List.length_map, List.length_range]; omega)))
   | ((with_reducible apply v_mv); (iterate 3 (· exact rfl)))
   | ((with_reducible apply v_as); (iterate 3 (· exact rfl)))
   | ((with_reducible apply v_fa); (iterate 6 (· exact rfl)))
   | ((with_reducible apply v_far); (iterate 6 (· exact rfl)))
   | ((with_reducible apply v_ia); (iterate 8 (· exact rfl)); (iterate 2 (· first | omega | (simp only [lens, List.length_map, List.length_range]; omega))))
   | ((with_reducible apply v_lr_i64); (iterate 7 (· exact rfl)); (· first | omega | (simp only [lens, List.length_map, List.length_range]; omega)))
   | ((with_reducible apply v_ld); (iterate 6 (· exact rfl)))
   | ((with_reducible apply v_st); (iterate 7 (· exact rfl)))
   | ((with_reducible apply v_sr); (iterate 7 (· exact rfl)); (· first | omega | (simp only [lens, List.length_map, List.length_range]; omega)))
   | ((with_reducible apply v_srN); (iterate 7 (· exact rfl)); (· repeat' (first | exact RowC.nil | apply RowC.i | apply RowC.b)); (· first | omega | (simp only [lens, List.length_map, List.length_range]; omega)))
   | ((with_reducible apply v_tgt); (iterate 9 (· exact rfl)); (iterate 3 (· first | omega | (simp only [lens, List.length_map, List.length_range]; omega))); (· exact rfl))
   | ((with_reducible apply v_mks); (iterate 10 (· exact rfl)); (iterate 3 (· first | omega | (simp only [lens, List.length_map, List.length_range]; omega))))
   | ((with_reducible apply v_ext); (iterate 5 (· exact rfl)))
   | ((with_reducible apply v_cnv); (iterate 6 (· exact rfl)))
   | ((with_reducible apply v_min); (iterate 4 (· exact rfl)))
   | ((with_reducible apply v_max); (iterate 4 (· exact rfl)))
   | ((with_reducible apply v_ncr); (iterate 4 (· exact rfl)))
   | ((with_reducible apply v_ncp); (iterate 3 (· exact rfl)))
   | ((with_reducible apply v_lr_b); (iterate 7 (· exact rfl)); (· first | omega | (simp only [lens, List.length_map, List.length_range]; omega)))
   | ((with_reducible apply v_lr_u8); (iterate 7 (· exact rfl)); (· first | omega | (simp only [lens, List.length_map, List.length_range]; omega)))
   | ((with_reducible apply v_mkf); (iterate 3 (· exact rfl)))
   | ((with_reducible apply v_lss); (iterate 4 (· exact rfl)))
   | ((with_reducible apply v_leq); (iterate 4 (· exact rfl)))
   | ((with_reducible apply v_gtr); (iterate 4 (· exact rfl)))
   | ((with_reducible apply v_geq); (iterate 4 (· exact rfl)))
   | ((with_reducible apply v_eql); (iterate 4 (· exact rfl)))
   | ((with_reducible apply v_neq); (iterate 4 (· exact rfl)))
   | ((with_reducible apply v_add); (iterate 4 (· exact rfl)); (· first | omega | (simp only [lens, List.length_map, List.length_range]; omega)))
   | ((with_reducible apply v_sub); (iterate 4 (· exact rfl)); (· first | omega | (simp only [lens, List.length_map, List.length_range]; omega)))
   | ((with_reducible apply v_pkT); (iterate 4 (· exact rfl)))
   | ((with_reducible apply v_pkF); (iterate 4 (· exact rfl)))
   | ((with_reducible apply v_not); (iterate 3 (· exact rfl)))
   | ((with_reducible apply v_len); (iterate 5 (· exact rfl)))
   | ((with_reducible apply v_lenn); (iterate 4 (· exact rfl)))
   | ((with_reducible apply v_lit); (iterate 9 (· exact rfl)); (· repeat' (first | exact PartsC.nil | ((apply PartsC.cons); (· exact rfl)) | exact RowC.nil | apply RowC.i | apply RowC.b)))
   | ((with_reducible apply v_ap); (iterate 11 (· exact rfl)); (· first | omega | (simp only [lens, List.length_map, List.length_range]; omega)))
   | ((with_reducible apply v_ap0); (iterate 10 (· exact rfl)); (· first | omega | (simp only [lens, List.length_map, List.length_range]; omega)))
   | ((with_reducible apply v_alc); (iterate 5 (· exact rfl)))
   | ((with_reducible apply v_box); (iterate 4 (· exact rfl)))
   | ((with_reducible apply v_ldN); (iterate 7 (· exact rfl)))
   | ((with_reducible apply v_lrN); (iterate 8 (· exact rfl)); (· first | omega | (simp only [lens, List.length_map, List.length_range]; omega)))
   | ((with_reducible apply v_fld); (iterate 5 (· exact rfl)); (· kernel_rfl))
   | ((with_reducible apply v_bld); (iterate 6 (· exact rfl)))
   | ((with_reducible apply v_no); (iterate 2 (· exact rfl)))
   | ((with_reducible apply v_no'); (· exact rfl))
   | ((with_reducible apply v_ift); (iterate 2 (· exact rfl)); (· infer_instance))
   | ((with_reducible apply v_iff); (iterate 2 (· exact rfl)); (· infer_instance))
   | ((with_reducible apply v_pif); (· exact rfl); (· infer_instance))
   | (with_reducible apply vo_nil0)
   | ((with_reducible apply vo_nil); (· kernel_rfl))
   | (with_reducible apply w_rs)
   | ((with_reducible apply w_ds); (rotate_left); (iterate 2 (· kernel_rfl)))
   | (with_reducible apply w_r)
   | ((with_reducible apply w_d); (rotate_left); (iterate 2 (· kernel_rfl)))
   | (with_reducible apply w_sks)
   | (with_reducible apply W.skp)
   | (with_reducible apply W.ext)
   | (with_reducible apply W.rt)
   | (with_reducible apply w_blk)
   | ((with_reducible apply W.cT); (· exact rfl))
   | ((with_reducible apply W.cF); (· exact rfl))
   | ((with_reducible apply W.cn); (· exact rfl); (· infer_instance))
   | (with_reducible apply W.sq)
   | (with_reducible apply q_tn)
   | (with_reducible apply q_te)
   | (with_reducible apply q_tr)
   | (with_reducible apply q_bn)
   | (with_reducible apply q_br)
   | ((with_reducible apply q_be); (· exact rfl))
   | ((with_reducible apply q_bx); (· exact rfl))
   | (with_reducible apply q_er)
   | (with_reducible apply q_en)
   | (with_reducible apply q_her)
   | (with_reducible apply q_hen)
   | (intro _))
  ((apply e_h [(1, 92000)]); (· repeat' (first | exact ResVs.nil | ((apply r_tmp); (· exact rfl)) | ((apply r_cellN); (iterate 5 (· exact rfl))) | ((apply r_cell1); (iterate 4 (· exact rfl))))); (· exact rfl); (· exact rfl); (· repeat' (first | exact PostOf.nil | ((apply p_cons); (iterate 2 (· exact rfl))))); (· exact rfl))
theorem c_109 (b : List (List Int)) (hb : By b) (hl : b.length ≤ 9223372036854775807) : HOK Try.prog 109 (dNet2C b) := by
  have h96 := c_96 (cut2 b) (hb.take 2000) (cut2_len b) 0 (by omega)
  have hp := anyP_bd (cut2 b) 0
  refine W.hfn 20 [.cell 2 30, .tmp 3, .tmp 4] hTT Try.func109 rfl rfl rfl rfl rfl rfl rfl ?_
  repeat' (first
   | ((with_reducible apply v_hcall [91000,91001] (c_97 b hl)); (iterate 6 (· exact rfl)); (· repeat' (first | exact PreOf.nil | ((apply PreOf.same); (iterate 2 (· exact rfl))) | ((apply PreOf.ro); (iterate 2 (· exact rfl))) | ((apply PreOf.sro); (iterate 2 (· exact rfl))) | ((apply PreOf.rbox); (iterate 3 (· exact rfl))))); (iterate 2 (· exact rfl)))
   | ((with_reducible apply v_hcall [92000] (h96)); (iterate 6 (· exact rfl)); (· repeat' (first | exact PreOf.nil | ((apply PreOf.same); (iterate 2 (· exact rfl))) | ((apply PreOf.ro); (iterate 2 (· exact rfl))) | ((apply PreOf.sro); (iterate 2 (· exact rfl))) | ((apply PreOf.rbox); (iterate 3 (· exact rfl))))); (iterate 2 (· exact rfl)))
   | ((with_reducible apply v_hcall [] (c_152 (cut2 b) (hb.take 2000) (cut2_len b) _ ?hq1 _ _)); (iterate 6 (· exact rfl)); (· repeat' (first | exact PreOf.nil | ((apply PreOf.same); (iterate 2 (· exact rfl))) | ((apply PreOf.ro); (iterate 2 (· exact rfl))) | ((apply PreOf.sro); (iterate 2 (· exact rfl))) | ((apply PreOf.rbox); (iterate 3 (· exact rfl))))); (iterate 2 (· exact rfl)); (case hq1 => first | omega | (simp only [lens, List.length_map, List.length_range]; omega)))
   | ((with_reducible apply v_mv); (iterate 3 (· exact rfl)))
   | ((with_reducible apply v_as); (iterate 3 (· exact rfl)))
   | ((with_reducible apply v_fa); (iterate 6 (· exact rfl)))
   | ((with_reducible apply v_far); (iterate 6 (· exact rfl)))
   | ((with_reducible apply v_ia); (iterate 8 (· exact rfl)); (iterate 2 (· first | omega | (simp only [lens, List.length_map, List.length_range]; omega))))
   | ((with_reducible apply v_lr_i64); (iterate 7 (· exact rfl)); (· first | omega | (simp only [lens, List.length_map, List.length_range]; omega)))
   | ((with_reducible apply v_ld); (iterate 6 (· exact rfl)))
   | ((with_reducible apply v_st); (iterate 7 (· exact rfl)))
   | ((with_reducible apply v_sr); (iterate 7 (· exact rfl)); (· first | omega | (simp only [lens, List.length_map, List.length_range]; omega)))
   | ((with_reducible apply v_srN); (iterate 7 (· exact rfl)); (· repeat' (first | exact RowC.nil | apply RowC.i | apply RowC.b)); (· first | omega | (simp only [lens, List.length_map, List.length_range]; omega)))
   | ((with_reducible apply v_tgt); (iterate 9 (· exact rfl)); (iterate 3 (· first | omega | (simp only [lens, List.length_map, List.length_range]; omega))); (· exact rfl))
   | ((with_reducible apply v_mks); (iterate 10 (· exact rfl)); (iterate 3 (· first | omega | (simp only [lens, List.length_map, List.length_range]; omega))))
   | ((with_reducible apply v_ext); (iterate 5 (· exact rfl)))
   | ((with_reducible apply v_cnv); (iterate 6 (· exact rfl)))
   | ((with_reducible apply v_min); (iterate 4 (· exact rfl)))
   | ((with_reducible apply v_max); (iterate 4 (· exact rfl)))
   | ((with_reducible apply v_ncr); (iterate 4 (· exact rfl)))
   | ((with_reducible apply v_ncp); (iterate 3 (· exact rfl)))
   | ((with_reducible apply v_lr_b); (iterate 7 (· exact rfl)); (· first | omega | (simp only [lens, List.length_map, List.length_range]; omega)))
   | ((with_reducible apply v_lr_u8); (iterate 7 (· exact rfl)); (· first | omega | (simp only [lens, List.length_map, List.length_range]; omega)))
   | ((with_reducible apply v_mkf); (iterate 3 (· exact rfl)))
   | ((with_reducible apply v_lss); (iterate 4 (· exact rfl)))
   | ((with_reducible apply v_leq); (iterate 4 (· exact rfl)))
   | ((with_reducible apply v_gtr); (iterate 4 (· exact rfl)))
   | ((with_reducible apply v_geq); (iterate 4 (· exact rfl)))
   | ((with_reducible apply v_eql); (iterate 4 (· exact rfl)))
   | ((with_reducible apply v_neq); (iterate 4 (· exact rfl)))
   | ((with_reducible apply v_add); (iterate 4 (· exact rfl)); (· first | omega | (simp only [lens, List.length_map, List.length_range]; omega)))
   | ((with_reducible apply v_sub); (iterate 4 (· exact rfl)); (· first | omega | (simp only [lens, List.length_map, List.length_range]; omega)))
   | ((with_reducible apply v_pkT); (iterate 4 (· exact rfl)))
   | ((with_reducible apply v_pkF); (iterate 4 (· exact rfl)))
   | ((with_reducible apply v_not); (iterate 3 (· exact rfl)))
   | ((with_reducible apply v_len); (iterate 5 (· exact rfl)))
   | ((with_reducible apply v_lenn); (iterate 4 (· exact rfl)))
   | ((with_reducible apply v_lit); (iterate 9 (· exact rfl)); (· repeat' (first | exact PartsC.nil | ((apply PartsC.cons); (· exact rfl)) | exact RowC.nil | apply RowC.i | apply RowC.b)))
   | ((with_reducible apply v_ap); (iterate 11 (· exact rfl)); (· first | omega | (simp only [lens, List.length_map, List.length_range]; omega)))
   | ((with_reducible apply v_ap0); (iterate 10 (· exact rfl)); (· first | omega | (simp only [lens, List.length_map, List.length_range]; omega)))
   | ((with_reducible apply v_alc); (iterate 5 (· exact rfl)))
   | ((with_reducible apply v_box); (iterate 4 (· exact rfl)))
   | ((with_reducible apply v_ldN); (iterate 7 (· exact rfl)))
   | ((with_reducible apply v_lrN); (iterate 8 (· exact rfl)); (· first | omega | (simp only [lens, List.length_map, List.length_range]; omega)))
   | ((with_reducible apply v_fld); (iterate 5 (· exact rfl)); (· kernel_rfl))
   | ((with_reducible apply v_bld); (iterate 6 (· exact rfl)))
   | ((with_reducible apply v_no); (iterate 2 (· exact rfl)))
   | ((with_reducible apply v_no'); (· exact rfl))
   | ((with_reducible apply v_ift); (iterate 2 (· exact rfl)); (· infer_instance))
   | ((with_reducible apply v_iff); (iterate 2 (· exact rfl)); (· infer_instance))
   | ((with_reducible apply v_pif); (· exact rfl); (· infer_instance))
   | (with_reducible apply vo_nil0)
   | ((with_reducible apply vo_nil); (· kernel_rfl))
   | (with_reducible apply w_rs)
   | ((with_reducible apply w_ds); (rotate_left); (iterate 2 (· kernel_rfl)))
   | (with_reducible apply w_r)
   | ((with_reducible apply w_d); (rotate_left); (iterate 2 (· kernel_rfl)))
   | (with_reducible apply w_sks)
   | (with_reducible apply W.skp)
   | (with_reducible apply W.ext)
   | (with_reducible apply W.rt)
   | (with_reducible apply w_blk)
   | ((with_reducible apply W.cT); (· exact rfl))
   | ((with_reducible apply W.cF); (· exact rfl))
   | ((with_reducible apply W.cn); (· exact rfl); (· infer_instance))
   | (with_reducible apply W.sq)
   | (with_reducible apply q_tn)
   | (with_reducible apply q_te)
   | (with_reducible apply q_tr)
   | (with_reducible apply q_bn)
   | (with_reducible apply q_br)
   | ((with_reducible apply q_be); (· exact rfl))
   | ((with_reducible apply q_bx); (· exact rfl))
   | (with_reducible apply q_er)
   | (with_reducible apply q_en)
   | (with_reducible apply q_her)
   | (with_reducible apply q_hen)
   | (intro _))
  ((apply e_h [(1, 92000)]); (· repeat' (first | exact ResVs.nil | ((apply r_tmp); (· exact rfl)) | ((apply r_cellN); (iterate 5 (· exact rfl))) | ((apply r_cell1); (iterate 4 (· exact rfl))))); (· exact rfl); (· exact rfl); (· repeat' (first | exact PostOf.nil | ((apply p_cons); (iterate 2 (· exact rfl))))); (· exact rfl))
end Go.AM
set_option linter.unusedVariables false
set_option linter.unusedSimpArgs false
namespace Go.AM
open Go.Proofs Go.RowKit

section
variable {H : Type} {enc : TypeId × Value → H} {w : World} {base : Nat} {sp : Nat → Bool} {held : Bool}
theorem cells5 : Try.prog.cellsOf 5 = 1 := by kernel_rfl
theorem slice_cells {t e : TypeId} {v : Value} {r : Reach} {b0 : Nat} (ht : Try.prog.underlying t = some (.slice e)) (h : Cell.okWide Try.prog w r b0 t v) : v.cells.toList = [v] := by
  simp only [Cell.okWide, ht] at h
  cases v <;> simp [Cell.ok, ht] at h
  rfl
set_option maxRecDepth 100000 in
/-- A row of bytes as data. -/
theorem open_byte1 {r : Reach} {b0 : Nat} {v : Value} {d : DataW H} {p : List MemPlace} (hv : Value.okWide Try.prog w r b0 37 v) (h : DataW.Trod enc Try.prog w base sp held 37 v d p) :
    ∃ (b : List (List Int)) (ρ : Rho), By b ∧ b.length ≤ 9223372036854775807 ∧ AVsRel ρ (codeA b) [v] ∧ okAll w ρ (codeP b) ∧ ∀ k o, (k, o) ∈ codeP b → o.own = false := by
  have hc := okWide_cell Try.underlying37 hv
  obtain ⟨fuel, hf⟩ := h
  rw [slice_cells Try.underlying37 hc] at hf
  obtain ⟨rows, g1, g2, g3, g4⟩ := open_rows (fks := u1) _ Try.underlying37 cells5 (by decide) (fun fuel cs x h hl => el_int Try.underlying5 fuel cs x h hl) hf
  have hb := blk_cell Try.underlying37 hc
  refine ⟨rows, Rho.none.put 5000 v [], fun j => ?_, g3.len, ⟨⟨by simp [Rho.put], g4⟩, trivial⟩, ⟨fun k o hk => ?_, fun k k' o o' b hne hk hk' ho => ?_⟩, fun k o hk => ?_⟩
  · by_cases hj : j < rows.length
    · obtain ⟨a, e, hw⟩ := g1 _ (List.getElem_mem hj)
      rw [rd, show rows.getD j [] = rows[j] by rw [List.getD_eq_getElem?_getD, List.getElem?_eq_getElem hj, Option.getD_some], e]
      have hw := (Lit.wf_int_iff _ _).1 hw
      have h1 : IntKind.u8.min = 0 := by decide
      have h2 : IntKind.u8.max = 255 := by decide
      rw [h1, h2] at hw
      simp
      omega
    · rw [rd, show rows.getD j [] = [] by rw [List.getD_eq_getElem?_getD, List.getElem?_eq_none (by omega)]; rfl]
      simp
  · simp only [codeP, List.mem_singleton, Prod.mk.injEq] at hk
    obtain ⟨rfl, rfl⟩ := hk
    refine ⟨v, by simp [Rho.put], g4, ⟨g2, g3⟩, fun b ⟨u, h1, h2⟩ => ?_⟩
    simp [Rho.put] at h1 h2
    subst h1
    exact hb b h2
  · simp only [codeP, List.mem_singleton, Prod.mk.injEq] at hk hk'
    exact absurd (hk.1.trans hk'.1.symm) hne
  · simp only [codeP, List.mem_singleton, Prod.mk.injEq] at hk
    rw [hk.2]; rfl
end
end Go.AM
set_option linter.unusedVariables false
set_option linter.unusedSimpArgs false
set_option maxRecDepth 4000
namespace Go.AM
open Go.Proofs

theorem c_33 (a b : List (List Int)) (hl : a.length < 1000000000000) : OK Try.prog 33 [dInts a, dInts b] (dB (eqI a b)) := by
  refine W.fn 26 [.tmp 4] hTT Try.func33 rfl rfl rfl rfl rfl rfl rfl rfl ?_
  repeat' (first
   | ((with_reducible apply v_mv); (iterate 3 (· exact rfl)))
   | ((with_reducible apply v_as); (iterate 3 (· exact rfl)))
   | ((with_reducible apply v_fa); (iterate 6 (· exact rfl)))
   | ((with_reducible apply v_far); (iterate 6 (· exact rfl)))
   | ((with_reducible apply v_ia); (iterate 8 (· exact rfl)); (iterate 2 (· first | omega | (simp only [lens, List.length_map, List.length_range]; omega))))
   | ((with_reducible apply v_lr_i64); (iterate 7 (· exact rfl)); (· first | omega | (simp only [lens, List.length_map, List.length_range]; omega)))
   | ((with_reducible apply v_ld); (iterate 6 (· exact rfl)))
   | ((with_reducible apply v_st); (iterate 7 (· exact rfl)))
   | ((with_reducible apply v_sr); (iterate 7 (· exact rfl)); (· first | omega | (simp only [lens, List.length_map, List.length_range]; omega)))
   | ((with_reducible apply v_srN); (iterate 7 (· exact rfl)); (· repeat' (first | exact RowC.nil | apply RowC.i | apply RowC.b)); (· first | omega | (simp only [lens, List.length_map, List.length_range]; omega)))
   | ((with_reducible apply v_tgt); (iterate 9 (· exact rfl)); (iterate 3 (· first | omega | (simp only [lens, List.length_map, List.length_range]; omega))); (· exact rfl))
   | ((with_reducible apply v_mks); (iterate 10 (· exact rfl)); (iterate 3 (· first | omega | (simp only [lens, List.length_map, List.length_range]; omega))))
   | ((with_reducible apply v_ext); (iterate 5 (· exact rfl)))
   | ((with_reducible apply v_cnv); (iterate 6 (· exact rfl)))
   | ((with_reducible apply v_min); (iterate 4 (· exact rfl)))
   | ((with_reducible apply v_max); (iterate 4 (· exact rfl)))
   | ((with_reducible apply v_ncr); (iterate 4 (· exact rfl)))
   | ((with_reducible apply v_ncp); (iterate 3 (· exact rfl)))
   | ((with_reducible apply v_lr_b); (iterate 7 (· exact rfl)); (· first | omega | (simp only [lens, List.length_map, List.length_range]; omega)))
   | ((with_reducible apply v_lr_u8); (iterate 7 (· exact rfl)); (· first | omega | (simp only [lens, List.length_map, List.length_range]; omega)))
   | ((with_reducible apply v_mkf); (iterate 3 (· exact rfl)))
   | ((with_reducible apply v_lss); (iterate 4 (· exact rfl)))
   | ((with_reducible apply v_leq); (iterate 4 (· exact rfl)))
   | ((with_reducible apply v_gtr); (iterate 4 (· exact rfl)))
   | ((with_reducible apply v_geq); (iterate 4 (· exact rfl)))
   | ((with_reducible apply v_eql); (iterate 4 (· exact rfl)))
   | ((with_reducible apply v_neq); (iterate 4 (· exact rfl)))
   | ((with_reducible apply v_add); (iterate 4 (· exact rfl)); (· first | omega | (simp only [lens, List.length_map, List.length_range]; omega)))
   | ((with_reducible apply v_sub); (iterate 4 (· exact rfl)); (· first | omega | (simp only [lens, List.length_map, List.length_range]; omega)))
   | ((with_reducible apply v_pkT); (iterate 4 (· exact rfl)))
   | ((with_reducible apply v_pkF); (iterate 4 (· exact rfl)))
   | ((with_reducible apply v_not); (iterate 3 (· exact rfl)))
   | ((with_reducible apply v_len); (iterate 5 (· exact rfl)))
   | ((with_reducible apply v_lenn); (iterate 4 (· exact rfl)))
   | ((with_reducible apply v_lit); (iterate 9 (· exact rfl)); (· repeat' (first | exact PartsC.nil | ((apply PartsC.cons); (· exact rfl)) | exact RowC.nil | apply RowC.i | apply RowC.b)))
   | ((with_reducible apply v_ap); (iterate 11 (· exact rfl)); (· first | omega | (simp only [lens, List.length_map, List.length_range]; omega)))
   | ((with_reducible apply v_ap0); (iterate 10 (· exact rfl)); (· first | omega | (simp only [lens, List.length_map, List.length_range]; omega)))
   | ((with_reducible apply v_alc); (iterate 5 (· exact rfl)))
   | ((with_reducible apply v_box); (iterate 4 (· exact rfl)))
   | ((with_reducible apply v_ldN); (iterate 7 (· exact rfl)))
   | ((with_reducible apply v_lrN); (iterate 8 (· exact rfl)); (· first | omega | (simp only [lens, List.length_map, List.length_range]; omega)))
   | ((with_reducible apply v_fld); (iterate 5 (· exact rfl)); (· kernel_rfl))
   | ((with_reducible apply v_bld); (iterate 6 (· exact rfl)))
   | ((with_reducible apply v_no); (iterate 2 (· exact rfl)))
   | ((with_reducible apply v_no'); (· exact rfl))
   | ((with_reducible apply v_ift); (iterate 2 (· exact rfl)); (· infer_instance))
   | ((with_reducible apply v_iff); (iterate 2 (· exact rfl)); (· infer_instance))
   | ((with_reducible apply v_pif); (· exact rfl); (· infer_instance))
   | (with_reducible apply vo_nil0)
   | ((with_reducible apply vo_nil); (· kernel_rfl))
   | (with_reducible apply w_rs)
   | ((with_reducible apply w_ds); (rotate_left); (iterate 2 (· kernel_rfl)))
   | (with_reducible apply w_r)
   | ((with_reducible apply w_d); (rotate_left); (iterate 2 (· kernel_rfl)))
   | (with_reducible apply w_sks)
   | (with_reducible apply W.skp)
   | (with_reducible apply W.ext)
   | (with_reducible apply W.rt)
   | (with_reducible apply w_blk)
   | ((with_reducible apply W.cT); (· exact rfl))
   | ((with_reducible apply W.cF); (· exact rfl))
   | ((with_reducible apply W.cn); (· exact rfl); (· infer_instance))
   | (with_reducible apply W.sq)
   | (with_reducible apply q_tn)
   | (with_reducible apply q_te)
   | (with_reducible apply q_tr)
   | (with_reducible apply q_bn)
   | (with_reducible apply q_br)
   | ((with_reducible apply q_be); (· exact rfl))
   | ((with_reducible apply q_bx); (· exact rfl))
   | (with_reducible apply q_er)
   | (with_reducible apply q_en)
   | (with_reducible apply q_her)
   | (with_reducible apply q_hen)
   | (intro _))
  · exact e_bool rfl rfl (by rw [eqI, decide_eq_false (by assumption)]; rfl)
  rename_i he
  refine W.lop (X := Int) (fun i => mk 26 [(0, .one (.r 5000)), (1, .one (.r 5100)), (5, .one (.c (.int .i64 i)))] [(5000, some (.ro i1 a)), (5100, some (.ro i1 b))] []) (fun i => 0 ≤ i ∧ i ≤ a.length ∧ ∀ j, j < i.toNat → (rd a j 0 == rd b j 0) = true) (fun i => (a.length - i).toNat) 0 ?_ ?_ ?_
  · exact (Wk.list [] (by repeat' (first | exact TW.nil | refine TW.cons rfl ?_)) (by repeat' (first | exact HW.nil | refine HW.cons rfl ?_)) rfl)
  · exact ⟨by omega, by omega, fun j hj => by simp at hj⟩
  · rintro i ⟨h0, h1, h2⟩
    repeat' (first
     | ((with_reducible apply v_mv); (iterate 3 (· exact rfl)))
     | ((with_reducible apply v_as); (iterate 3 (· exact rfl)))
     | ((with_reducible apply v_fa); (iterate 6 (· exact rfl)))
     | ((with_reducible apply v_far); (iterate 6 (· exact rfl)))
     | ((with_reducible apply v_ia); (iterate 8 (· exact rfl)); (iterate 2 (· first | omega | (simp only [lens, List.length_map, List.length_range]; omega))))
     | ((with_reducible apply v_lr_i64); (iterate 7 (· exact rfl)); (· first | omega | (simp only [lens, List.length_map, List.length_range]; omega)))
     | ((with_reducible apply v_ld); (iterate 6 (· exact rfl)))
     | ((with_reducible apply v_st); (iterate 7 (· exact rfl)))
     | ((with_reducible apply v_sr); (iterate 7 (· exact rfl)); (· first | omega | (simp only [lens, List.length_map, List.length_range]; omega)))
     | ((with_reducible apply v_srN); (iterate 7 (· exact rfl)); (· repeat' (first | exact RowC.nil | apply RowC.i | apply RowC.b)); (· first | omega | (simp only [lens, List.length_map, List.length_range]; omega)))
     | ((with_reducible apply v_tgt); (iterate 9 (· exact rfl)); (iterate 3 (· first | omega | (simp only [lens, List.length_map, List.length_range]; omega))); (· exact rfl))
     | ((with_reducible apply v_mks); (iterate 10 (· exact rfl)); (iterate 3 (· first | omega | (simp only [lens, List.length_map, List.length_range]; omega))))
     | ((with_reducible apply v_ext); (iterate 5 (· exact rfl)))
     | ((with_reducible apply v_cnv); (iterate 6 (· exact rfl)))
     | ((with_reducible apply v_min); (iterate 4 (· exact rfl)))
     | ((with_reducible apply v_max); (iterate 4 (· exact rfl)))
     | ((with_reducible apply v_ncr); (iterate 4 (· exact rfl)))
     | ((with_reducible apply v_ncp); (iterate 3 (· exact rfl)))
     | ((with_reducible apply v_lr_b); (iterate 7 (· exact rfl)); (· first | omega | (simp only [lens, List.length_map, List.length_range]; omega)))
     | ((with_reducible apply v_lr_u8); (iterate 7 (· exact rfl)); (· first | omega | (simp only [lens, List.length_map, List.length_range]; omega)))
     | ((with_reducible apply v_mkf); (iterate 3 (· exact rfl)))
     | ((with_reducible apply v_lss); (iterate 4 (· exact rfl)))
     | ((with_reducible apply v_leq); (iterate 4 (· exact rfl)))
     | ((with_reducible apply v_gtr); (iterate 4 (· exact rfl)))
     | ((with_reducible apply v_geq); (iterate 4 (· exact rfl)))
     | ((with_reducible apply v_eql); (iterate 4 (· exact rfl)))
     | ((with_reducible apply v_neq); (iterate 4 (· exact rfl)))
     | ((with_reducible apply v_add); (iterate 4 (· exact rfl)); (· first | omega | (simp only [lens, List.length_map, List.length_range]; omega)))
     | ((with_reducible apply v_sub); (iterate 4 (· exact rfl)); (· first | omega | (simp only [lens, List.length_map, List.length_range]; omega)))
     | ((with_reducible apply v_pkT); (iterate 4 (· exact rfl)))
     | ((with_reducible apply v_pkF); (iterate 4 (· exact rfl)))
     | ((with_reducible apply v_not); (iterate 3 (· exact rfl)))
     | ((with_reducible apply v_len); (iterate 5 (· exact rfl)))
     | ((with_reducible apply v_lenn); (iterate 4 (· exact rfl)))
     | ((with_reducible apply v_lit); (iterate 9 (· exact rfl)); (· repeat' (first | exact PartsC.nil | ((apply PartsC.cons); (· exact rfl)) | exact RowC.nil | apply RowC.i | apply RowC.b)))
     | ((with_reducible apply v_ap); (iterate 11 (· exact rfl)); (· first | omega | (simp only [lens, List.length_map, List.length_range]; omega)))
     | ((with_reducible apply v_ap0); (iterate 10 (· exact rfl)); (· first | omega | (simp only [lens, List.length_map, List.length_range]; omega)))
     | ((with_reducible apply v_alc); (iterate 5 (· exact rfl)))
     | ((with_reducible apply v_box); (iterate 4 (· exact rfl)))
     | ((with_reducible apply v_ldN); (iterate 7 (· exact rfl)))
     | ((with_reducible apply v_lrN); (iterate 8 (· exact rfl)); (· first | omega | (simp only [lens, List.length_map, List.length_range]; omega)))
     | ((with_reducible apply v_fld); (iterate 5 (· exact rfl)); (· kernel_rfl))
     | ((with_reducible apply v_bld); (iterate 6 (· exact rfl)))
     | ((with_reducible apply v_no); (iterate 2 (· exact rfl)))
     | ((with_reducible apply v_no'); (· exact rfl))
     | ((with_reducible apply v_ift); (iterate 2 (· exact rfl)); (· infer_instance))
     | ((with_reducible apply v_iff); (iterate 2 (· exact rfl)); (· infer_instance))
     | ((with_reducible apply v_pif); (· exact rfl); (· infer_instance))
     | (with_reducible apply vo_nil0)
     | ((with_reducible apply vo_nil); (· kernel_rfl))
     | (with_reducible apply w_rs)
     | ((with_reducible apply w_ds); (rotate_left); (iterate 2 (· kernel_rfl)))
     | (with_reducible apply w_r)
     | ((with_reducible apply w_d); (rotate_left); (iterate 2 (· kernel_rfl)))
     | (with_reducible apply w_sks)
     | (with_reducible apply W.skp)
     | (with_reducible apply W.ext)
     | (with_reducible apply W.rt)
     | (with_reducible apply w_blk)
     | ((with_reducible apply W.cT); (· exact rfl))
     | ((with_reducible apply W.cF); (· exact rfl))
     | ((with_reducible apply W.cn); (· exact rfl); (· infer_instance))
     | (with_reducible apply W.sq)
     | (with_reducible apply q_tn)
     | (with_reducible apply q_te)
     | (with_reducible apply q_tr)
     | (with_reducible apply q_bn)
     | (with_reducible apply q_br)
     | ((with_reducible apply q_be); (· exact rfl))
     | ((with_reducible apply q_bx); (· exact rfl))
     | (with_reducible apply q_er)
     | (with_reducible apply q_en)
     | (with_reducible apply q_her)
     | (with_reducible apply q_hen)
     | (intro _))
    · exact e_bool rfl rfl (by rw [eqI, range_all_false (i := i.toNat) (by omega) (by simpa using by assumption)]; simp)
    · refine W.round (i + 1) (Wk.list [] (by repeat' (first | exact TW.nil | refine TW.cons rfl ?_)) (by repeat' (first | exact HW.nil | refine HW.cons rfl ?_)) rfl) ⟨by omega, by omega, fun j hj => ?_⟩ (by omega)
      by_cases hji : j < i.toNat
      · exact h2 j hji
      · rw [show j = i.toNat by omega]; simp; omega
    · exact e_bool rfl rfl (by rw [eqI, range_all_true (fun j hj => h2 j (by omega)), decide_eq_true (by omega)]; rfl)
def inI (a : List (List Int)) (v : Int) : Bool := !(List.range a.length).all fun j => !(rd a j 0 == v)
theorem c_37 (a : List (List Int)) (v : Int) (hl : a.length < 1000000000000) : OK Try.prog 37 [dInts a, dI v] (dB (inI a v)) := by
  refine W.fn 18 [.tmp 4] hTT Try.func37 rfl rfl rfl rfl rfl rfl rfl rfl ?_
  repeat' (first
   | ((with_reducible apply v_mv); (iterate 3 (· exact rfl)))
   | ((with_reducible apply v_as); (iterate 3 (· exact rfl)))
   | ((with_reducible apply v_fa); (iterate 6 (· exact rfl)))
   | ((with_reducible apply v_far); (iterate 6 (· exact rfl)))
   | ((with_reducible apply v_ia); (iterate 8 (· exact rfl)); (iterate 2 (· first | omega | (simp only [lens, List.length_map, List.length_range]; omega))))
   | ((with_reducible apply v_lr_i64); (iterate 7 (· exact rfl)); (· first | omega | (simp only [lens, List.length_map, List.length_range]; omega)))
   | ((with_reducible apply v_ld); (iterate 6 (· exact rfl)))
   | ((with_reducible apply v_st); (iterate 7 (· exact rfl)))
   | ((with_reducible apply v_sr); (iterate 7 (· exact rfl)); (· first | omega | (simp only [lens, List.length_map, List.length_range]; omega)))
   | ((with_reducible apply v_srN); (iterate 7 (· exact rfl)); (· repeat' (first | exact RowC.nil | apply RowC.i | apply RowC.b)); (· first | omega | (simp only [lens, List.length_map, List.length_range]; omega)))
   | ((with_reducible apply v_tgt); (iterate 9 (· exact rfl)); (iterate 3 (· first | omega | (simp only [lens, List.length_map, List.length_range]; omega))); (· exact rfl))
   | ((with_reducible apply v_mks); (iterate 10 (· exact rfl)); (iterate 3 (· first | omega | (simp only [lens, List.length_map, List.length_range]; omega))))
   | ((with_reducible apply v_ext); (iterate 5 (· exact rfl)))
   | ((with_reducible apply v_cnv); (iterate 6 (· exact rfl)))
   | ((with_reducible apply v_min); (iterate 4 (· exact rfl)))
   | ((with_reducible apply v_max); (iterate 4 (· exact rfl)))
   | ((with_reducible apply v_ncr); (iterate 4 (· exact rfl)))
   | ((with_reducible apply v_ncp); (iterate 3 (· exact rfl)))
   | ((with_reducible apply v_lr_b); (iterate 7 (· exact rfl)); (· first | omega | (simp only [lens, List.length_map, List.length_range]; omega)))
   | ((with_reducible apply v_lr_u8); (iterate 7 (· exact rfl)); (· first | omega | (simp only [lens, List.length_map, List.length_range]; omega)))
   | ((with_reducible apply v_mkf); (iterate 3 (· exact rfl)))
   | ((with_reducible apply v_lss); (iterate 4 (· exact rfl)))
   | ((with_reducible apply v_leq); (iterate 4 (· exact rfl)))
   | ((with_reducible apply v_gtr); (iterate 4 (· exact rfl)))
   | ((with_reducible apply v_geq); (iterate 4 (· exact rfl)))
   | ((with_reducible apply v_eql); (iterate 4 (· exact rfl)))
   | ((with_reducible apply v_neq); (iterate 4 (· exact rfl)))
   | ((with_reducible apply v_add); (iterate 4 (· exact rfl)); (· first | omega | (simp only [lens, List.length_map, List.length_range]; omega)))
   | ((with_reducible apply v_sub); (iterate 4 (· exact rfl)); (· first | omega | (simp only [lens, List.length_map, List.length_range]; omega)))
   | ((with_reducible apply v_pkT); (iterate 4 (· exact rfl)))
   | ((with_reducible apply v_pkF); (iterate 4 (· exact rfl)))
   | ((with_reducible apply v_not); (iterate 3 (· exact rfl)))
   | ((with_reducible apply v_len); (iterate 5 (· exact rfl)))
   | ((with_reducible apply v_lenn); (iterate 4 (· exact rfl)))
   | ((with_reducible apply v_lit); (iterate 9 (· exact rfl)); (· repeat' (first | exact PartsC.nil | ((apply PartsC.cons); (· exact rfl)) | exact RowC.nil | apply RowC.i | apply RowC.b)))
   | ((with_reducible apply v_ap); (iterate 11 (· exact rfl)); (· first | omega | (simp only [lens, List.length_map, List.length_range]; omega)))
   | ((with_reducible apply v_ap0); (iterate 10 (· exact rfl)); (· first | omega | (simp only [lens, List.length_map, List.length_range]; omega)))
   | ((with_reducible apply v_alc); (iterate 5 (· exact rfl)))
   | ((with_reducible apply v_box); (iterate 4 (· exact rfl)))
   | ((with_reducible apply v_ldN); (iterate 7 (· exact rfl)))
   | ((with_reducible apply v_lrN); (iterate 8 (· exact rfl)); (· first | omega | (simp only [lens, List.length_map, List.length_range]; omega)))
   | ((with_reducible apply v_fld); (iterate 5 (· exact rfl)); (· kernel_rfl))
   | ((with_reducible apply v_bld); (iterate 6 (· exact rfl)))
   | ((with_reducible apply v_no); (iterate 2 (· exact rfl)))
   | ((with_reducible apply v_no'); (· exact rfl))
   | ((with_reducible apply v_ift); (iterate 2 (· exact rfl)); (· infer_instance))
   | ((with_reducible apply v_iff); (iterate 2 (· exact rfl)); (· infer_instance))
   | ((with_reducible apply v_pif); (· exact rfl); (· infer_instance))
   | (with_reducible apply vo_nil0)
   | ((with_reducible apply vo_nil); (· kernel_rfl))
   | (with_reducible apply w_rs)
   | ((with_reducible apply w_ds); (rotate_left); (iterate 2 (· kernel_rfl)))
   | (with_reducible apply w_r)
   | ((with_reducible apply w_d); (rotate_left); (iterate 2 (· kernel_rfl)))
   | (with_reducible apply w_sks)
   | (with_reducible apply W.skp)
   | (with_reducible apply W.ext)
   | (with_reducible apply W.rt)
   | (with_reducible apply w_blk)
   | ((with_reducible apply W.cT); (· exact rfl))
   | ((with_reducible apply W.cF); (· exact rfl))
   | ((with_reducible apply W.cn); (· exact rfl); (· infer_instance))
   | (with_reducible apply W.sq)
   | (with_reducible apply q_tn)
   | (with_reducible apply q_te)
   | (with_reducible apply q_tr)
   | (with_reducible apply q_bn)
   | (with_reducible apply q_br)
   | ((with_reducible apply q_be); (· exact rfl))
   | ((with_reducible apply q_bx); (· exact rfl))
   | (with_reducible apply q_er)
   | (with_reducible apply q_en)
   | (with_reducible apply q_her)
   | (with_reducible apply q_hen)
   | (intro _))
  refine W.lop (X := Int) (fun i => mk 18 [(0, .one (.r 5000)), (1, .one (.c (.int .i64 v))), (5, .one (.c (.int .i64 i)))] [(5000, some (.ro i1 a))] []) (fun i => 0 ≤ i ∧ i ≤ a.length ∧ ∀ j, j < i.toNat → (!(rd a j 0 == v)) = true) (fun i => (a.length - i).toNat) 0 ?_ ?_ ?_
  · exact (Wk.list [] (by repeat' (first | exact TW.nil | refine TW.cons rfl ?_)) (by repeat' (first | exact HW.nil | refine HW.cons rfl ?_)) rfl)
  · exact ⟨by omega, by omega, fun j hj => by simp at hj⟩
  · rintro i ⟨h0, h1, h2⟩
    repeat' (first
     | ((with_reducible apply v_mv); (iterate 3 (· exact rfl)))
     | ((with_reducible apply v_as); (iterate 3 (· exact rfl)))
     | ((with_reducible apply v_fa); (iterate 6 (· exact rfl)))
     | ((with_reducible apply v_far); (iterate 6 (· exact rfl)))
     | ((with_reducible apply v_ia); (iterate 8 (· exact rfl)); (iterate 2 (· first | omega | (simp only [lens, List.length_map, List.length_range]; omega))))
     | ((with_reducible apply v_lr_i64); (iterate 7 (· exact rfl)); (· first | omega | (simp only [lens, List.length_map, List.length_range]; omega)))
     | ((with_reducible apply v_ld); (iterate 6 (· exact rfl)))
     | ((with_reducible apply v_st); (iterate 7 (· exact rfl)))
     | ((with_reducible apply v_sr); (iterate 7 (· exact rfl)); (· first | omega | (simp only [lens, List.length_map, List.length_range]; omega)))
     | ((with_reducible apply v_srN); (iterate 7 (· exact rfl)); (· repeat' (first | exact RowC.nil | apply RowC.i | apply RowC.b)); (· first | omega | (simp only [lens, List.length_map, List.length_range]; omega)))
     | ((with_reducible apply v_tgt); (iterate 9 (· exact rfl)); (iterate 3 (· first | omega | (simp only [lens, List.length_map, List.length_range]; omega))); (· exact rfl))
     | ((with_reducible apply v_mks); (iterate 10 (· exact rfl)); (iterate 3 (· first | omega | (simp only [lens, List.length_map, List.length_range]; omega))))
     | ((with_reducible apply v_ext); (iterate 5 (· exact rfl)))
     | ((with_reducible apply v_cnv); (iterate 6 (· exact rfl)))
     | ((with_reducible apply v_min); (iterate 4 (· exact rfl)))
     | ((with_reducible apply v_max); (iterate 4 (· exact rfl)))
     | ((with_reducible apply v_ncr); (iterate 4 (· exact rfl)))
     | ((with_reducible apply v_ncp); (iterate 3 (· exact rfl)))
     | ((with_reducible apply v_lr_b); (iterate 7 (· exact rfl)); (· first | omega | (simp only [lens, List.length_map, List.length_range]; omega)))
     | ((with_reducible apply v_lr_u8); (iterate 7 (· exact rfl)); (· first | omega | (simp only [lens, List.length_map, List.length_range]; omega)))
     | ((with_reducible apply v_mkf); (iterate 3 (· exact rfl)))
     | ((with_reducible apply v_lss); (iterate 4 (· exact rfl)))
     | ((with_reducible apply v_leq); (iterate 4 (· exact rfl)))
     | ((with_reducible apply v_gtr); (iterate 4 (· exact rfl)))
     | ((with_reducible apply v_geq); (iterate 4 (· exact rfl)))
     | ((with_reducible apply v_eql); (iterate 4 (· exact rfl)))
     | ((with_reducible apply v_neq); (iterate 4 (· exact rfl)))
     | ((with_reducible apply v_add); (iterate 4 (· exact rfl)); (· first | omega | (simp only [lens, List.length_map, List.length_range]; omega)))
     | ((with_reducible apply v_sub); (iterate 4 (· exact rfl)); (· first | omega | (simp only [lens, List.length_map, List.length_range]; omega)))
     | ((with_reducible apply v_pkT); (iterate 4 (· exact rfl)))
     | ((with_reducible apply v_pkF); (iterate 4 (· exact rfl)))
     | ((with_reducible apply v_not); (iterate 3 (· exact rfl)))
     | ((with_reducible apply v_len); (iterate 5 (· exact rfl)))
     | ((with_reducible apply v_lenn); (iterate 4 (· exact rfl)))
     | ((with_reducible apply v_lit); (iterate 9 (· exact rfl)); (· repeat' (first | exact PartsC.nil | ((apply PartsC.cons); (· exact rfl)) | exact RowC.nil | apply RowC.i | apply RowC.b)))
     | ((with_reducible apply v_ap); (iterate 11 (· exact rfl)); (· first | omega | (simp only [lens, List.length_map, List.length_range]; omega)))
     | ((with_reducible apply v_ap0); (iterate 10 (· exact rfl)); (· first | omega | (simp only [lens, List.length_map, List.length_range]; omega)))
     | ((with_reducible apply v_alc); (iterate 5 (· exact rfl)))
     | ((with_reducible apply v_box); (iterate 4 (· exact rfl)))
     | ((with_reducible apply v_ldN); (iterate 7 (· exact rfl)))
     | ((with_reducible apply v_lrN); (iterate 8 (· exact rfl)); (· first | omega | (simp only [lens, List.length_map, List.length_range]; omega)))
     | ((with_reducible apply v_fld); (iterate 5 (· exact rfl)); (· kernel_rfl))
     | ((with_reducible apply v_bld); (iterate 6 (· exact rfl)))
     | ((with_reducible apply v_no); (iterate 2 (· exact rfl)))
     | ((with_reducible apply v_no'); (· exact rfl))
     | ((with_reducible apply v_ift); (iterate 2 (· exact rfl)); (· infer_instance))
     | ((with_reducible apply v_iff); (iterate 2 (· exact rfl)); (· infer_instance))
     | ((with_reducible apply v_pif); (· exact rfl); (· infer_instance))
     | (with_reducible apply vo_nil0)
     | ((with_reducible apply vo_nil); (· kernel_rfl))
     | (with_reducible apply w_rs)
     | ((with_reducible apply w_ds); (rotate_left); (iterate 2 (· kernel_rfl)))
     | (with_reducible apply w_r)
     | ((with_reducible apply w_d); (rotate_left); (iterate 2 (· kernel_rfl)))
     | (with_reducible apply w_sks)
     | (with_reducible apply W.skp)
     | (with_reducible apply W.ext)
     | (with_reducible apply W.rt)
     | (with_reducible apply w_blk)
     | ((with_reducible apply W.cT); (· exact rfl))
     | ((with_reducible apply W.cF); (· exact rfl))
     | ((with_reducible apply W.cn); (· exact rfl); (· infer_instance))
     | (with_reducible apply W.sq)
     | (with_reducible apply q_tn)
     | (with_reducible apply q_te)
     | (with_reducible apply q_tr)
     | (with_reducible apply q_bn)
     | (with_reducible apply q_br)
     | ((with_reducible apply q_be); (· exact rfl))
     | ((with_reducible apply q_bx); (· exact rfl))
     | (with_reducible apply q_er)
     | (with_reducible apply q_en)
     | (with_reducible apply q_her)
     | (with_reducible apply q_hen)
     | (intro _))
    · exact e_bool rfl rfl (by rw [inI, range_all_false (i := i.toNat) (by omega) (by simp_all)]; rfl)
    · refine W.round (i + 1) (Wk.list [] (by repeat' (first | exact TW.nil | refine TW.cons rfl ?_)) (by repeat' (first | exact HW.nil | refine HW.cons rfl ?_)) rfl) ⟨by omega, by omega, fun j hj => ?_⟩ (by omega)
      by_cases hji : j < i.toNat
      · exact h2 j hji
      · rw [show j = i.toNat by omega]; simp_all
    · exact e_bool rfl rfl (by rw [inI, range_all_true (fun j hj => h2 j (by omega))]; rfl)
def kB (arcs : List (List Int)) (v : Int) : Bool := inB v 0 (IntKind.i64.wrap ((arcs.length : Int) - 1))
theorem c_193 (v n : Int) (arcs : List (List Int)) : OK Try.prog 193 [dI v, .ptr [cI n, .sl 54 i5 arcs]] (dB (!kB arcs v)) := by
  refine W.fn 11 [.tmp 3] hTT Try.func193 rfl rfl rfl rfl rfl rfl rfl rfl ?_
  repeat' (first
   | ((with_reducible apply v_call 4000000 (c_103 _ _ _)); (iterate 3 (· exact rfl)); (· repeat' (first | exact DVsOf.nil | apply DVsOf.cons | apply DVof.one | apply DVof.agg | exact DCof.c | exact DCof.nil | exact DCof.nils | ((apply DCof.r); (iterate 2 (· exact rfl))) | ((apply DCof.rs); (iterate 2 (· exact rfl))) | ((apply DCof.mu); (· exact rfl)) | exact DCsOf.nil | apply DCsOf.cons | ((apply DVof_mp); (· exact rfl)) | ((apply DVof_ptr); (iterate 2 (· exact rfl))) | apply DVof.fn | exact DPsOf.nil | ((apply DPsOf_cons); (iterate 2 (· exact rfl))) | exact rfl)); (iterate 4 (· exact rfl)))
   | ((with_reducible apply v_subw); (iterate 4 (· exact rfl)))
   | ((with_reducible apply v_mv); (iterate 3 (· exact rfl)))
   | ((with_reducible apply v_as); (iterate 3 (· exact rfl)))
   | ((with_reducible apply v_fa); (iterate 6 (· exact rfl)))
   | ((with_reducible apply v_far); (iterate 6 (· exact rfl)))
   | ((with_reducible apply v_ia); (iterate 8 (· exact rfl)); (iterate 2 (· first | omega | (simp only [lens, List.length_map, List.length_range]; omega))))
   | ((with_reducible apply v_lr_i64); (iterate 7 (· exact rfl)); (· first | omega | (simp only [lens, List.length_map, List.length_range]; omega)))
   | ((with_reducible apply v_ld); (iterate 6 (· exact rfl)))
   | ((with_reducible apply v_st); (iterate 7 (· exact rfl)))
   | ((with_reducible apply v_sr); (iterate 7 (· exact rfl)); (· first | omega | (simp only [lens, List.length_map, List.length_range]; omega)))
   | ((with_reducible apply v_srN); (iterate 7 (· exact rfl)); (· repeat' (first | exact RowC.nil | apply RowC.i | apply RowC.b)); (· first | omega | (simp only [lens, List.length_map, List.length_range]; omega)))
   | ((with_reducible apply v_tgt); (iterate 9 (· exact rfl)); (iterate 3 (· first | omega | (simp only [lens, List.length_map, List.length_range]; omega))); (· exact rfl))
   | ((with_reducible apply v_mks); (iterate 10 (· exact rfl)); (iterate 3 (· first | omega | (simp only [lens, List.length_map, List.length_range]; omega))))
   | ((with_reducible apply v_ext); (iterate 5 (· exact rfl)))
   | ((with_reducible apply v_cnv); (iterate 6 (· exact rfl)))
   | ((with_reducible apply v_min); (iterate 4 (· exact rfl)))
   | ((with_reducible apply v_max); (iterate 4 (· exact rfl)))
   | ((with_reducible apply v_ncr); (iterate 4 (· exact rfl)))
   | ((with_reducible apply v_ncp); (iterate 3 (· exact rfl)))
   | ((with_reducible apply v_lr_b); (iterate 7 (· exact rfl)); (· first | omega | (simp only [lens, List.length_map, List.length_range]; omega)))
   | ((with_reducible apply v_lr_u8); (iterate 7 (· exact rfl)); (· first | omega | (simp only [lens, List.length_map, List.length_range]; omega)))
   | ((with_reducible apply v_mkf); (iterate 3 (· exact rfl)))
   | ((with_reducible apply v_lss); (iterate 4 (· exact rfl)))
   | ((with_reducible apply v_leq); (iterate 4 (· exact rfl)))
   | ((with_reducible apply v_gtr); (iterate 4 (· exact rfl)))
   | ((with_reducible apply v_geq); (iterate 4 (· exact rfl)))
   | ((with_reducible apply v_eql); (iterate 4 (· exact rfl)))
   | ((with_reducible apply v_neq); (iterate 4 (· exact rfl)))
   | ((with_reducible apply v_add); (iterate 4 (· exact rfl)); (· first | omega | (simp only [lens, List.length_map, List.length_range]; omega)))
   | ((with_reducible apply v_sub); (iterate 4 (· exact rfl)); (· first | omega | (simp only [lens, List.length_map, List.length_range]; omega)))
   | ((with_reducible apply v_pkT); (iterate 4 (· exact rfl)))
   | ((with_reducible apply v_pkF); (iterate 4 (· exact rfl)))
   | ((with_reducible apply v_not); (iterate 3 (· exact rfl)))
   | ((with_reducible apply v_len); (iterate 5 (· exact rfl)))
   | ((with_reducible apply v_lenn); (iterate 4 (· exact rfl)))
   | ((with_reducible apply v_lit); (iterate 9 (· exact rfl)); (· repeat' (first | exact PartsC.nil | ((apply PartsC.cons); (· exact rfl)) | exact RowC.nil | apply RowC.i | apply RowC.b)))
   | ((with_reducible apply v_ap); (iterate 11 (· exact rfl)); (· first | omega | (simp only [lens, List.length_map, List.length_range]; omega)))
   | ((with_reducible apply v_ap0); (iterate 10 (· exact rfl)); (· first | omega | (simp only [lens, List.length_map, List.length_range]; omega)))
   | ((with_reducible apply v_alc); (iterate 5 (· exact rfl)))
   | ((with_reducible apply v_box); (iterate 4 (· exact rfl)))
   | ((with_reducible apply v_ldN); (iterate 7 (· exact rfl)))
   | ((with_reducible apply v_lrN); (iterate 8 (· exact rfl)); (· first | omega | (simp only [lens, List.length_map, List.length_range]; omega)))
   | ((with_reducible apply v_fld); (iterate 5 (· exact rfl)); (· kernel_rfl))
   | ((with_reducible apply v_bld); (iterate 6 (· exact rfl)))
   | ((with_reducible apply v_no); (iterate 2 (· exact rfl)))
   | ((with_reducible apply v_no'); (· exact rfl))
   | ((with_reducible apply v_ift); (iterate 2 (· exact rfl)); (· infer_instance))
   | ((with_reducible apply v_iff); (iterate 2 (· exact rfl)); (· infer_instance))
   | ((with_reducible apply v_pif); (· exact rfl); (· infer_instance))
   | (with_reducible apply vo_nil0)
   | ((with_reducible apply vo_nil); (· kernel_rfl))
   | (with_reducible apply w_rs)
   | ((with_reducible apply w_ds); (rotate_left); (iterate 2 (· kernel_rfl)))
   | (with_reducible apply w_r)
   | ((with_reducible apply w_d); (rotate_left); (iterate 2 (· kernel_rfl)))
   | (with_reducible apply w_sks)
   | (with_reducible apply W.skp)
   | (with_reducible apply W.ext)
   | (with_reducible apply W.rt)
   | (with_reducible apply w_blk)
   | ((with_reducible apply W.cT); (· exact rfl))
   | ((with_reducible apply W.cF); (· exact rfl))
   | ((with_reducible apply W.cn); (· exact rfl); (· infer_instance))
   | (with_reducible apply W.sq)
   | (with_reducible apply q_tn)
   | (with_reducible apply q_te)
   | (with_reducible apply q_tr)
   | (with_reducible apply q_bn)
   | (with_reducible apply q_br)
   | ((with_reducible apply q_be); (· exact rfl))
   | ((with_reducible apply q_bx); (· exact rfl))
   | (with_reducible apply q_er)
   | (with_reducible apply q_en)
   | (with_reducible apply q_her)
   | (with_reducible apply q_hen)
   | (intro _))
  exact e_bool rfl rfl rfl

theorem c_232_193 (a : List (List Int)) (n : Int) (arcs : List (List Int)) (hl : a.length < 1000000000000) : OK Try.prog 232 [.one (.sl 3 i1 a), .fn 193 [[cI n, .sl 54 i5 arcs]]] (dI (idxM (fun j => !kB arcs (rd a j 0)) a.length)) := by
  refine W.fn 19 [.tmp 4] hTT Try.func232 rfl rfl rfl rfl rfl rfl rfl rfl ?_
  repeat' (first
   | ((with_reducible apply v_mv); (iterate 3 (· exact rfl)))
   | ((with_reducible apply v_as); (iterate 3 (· exact rfl)))
   | ((with_reducible apply v_fa); (iterate 6 (· exact rfl)))
   | ((with_reducible apply v_far); (iterate 6 (· exact rfl)))
   | ((with_reducible apply v_ia); (iterate 8 (· exact rfl)); (iterate 2 (· first | omega | (simp only [lens, List.length_map, List.length_range]; omega))))
   | ((with_reducible apply v_lr_i64); (iterate 7 (· exact rfl)); (· first | omega | (simp only [lens, List.length_map, List.length_range]; omega)))
   | ((with_reducible apply v_ld); (iterate 6 (· exact rfl)))
   | ((with_reducible apply v_st); (iterate 7 (· exact rfl)))
   | ((with_reducible apply v_sr); (iterate 7 (· exact rfl)); (· first | omega | (simp only [lens, List.length_map, List.length_range]; omega)))
   | ((with_reducible apply v_srN); (iterate 7 (· exact rfl)); (· repeat' (first | exact RowC.nil | apply RowC.i | apply RowC.b)); (· first | omega | (simp only [lens, List.length_map, List.length_range]; omega)))
   | ((with_reducible apply v_tgt); (iterate 9 (· exact rfl)); (iterate 3 (· first | omega | (simp only [lens, List.length_map, List.length_range]; omega))); (· exact rfl))
   | ((with_reducible apply v_mks); (iterate 10 (· exact rfl)); (iterate 3 (· first | omega | (simp only [lens, List.length_map, List.length_range]; omega))))
   | ((with_reducible apply v_ext); (iterate 5 (· exact rfl)))
   | ((with_reducible apply v_cnv); (iterate 6 (· exact rfl)))
   | ((with_reducible apply v_min); (iterate 4 (· exact rfl)))
   | ((with_reducible apply v_max); (iterate 4 (· exact rfl)))
   | ((with_reducible apply v_ncr); (iterate 4 (· exact rfl)))
   | ((with_reducible apply v_ncp); (iterate 3 (· exact rfl)))
   | ((with_reducible apply v_lr_b); (iterate 7 (· exact rfl)); (· first | omega | (simp only [lens, List.length_map, List.length_range]; omega)))
   | ((with_reducible apply v_lr_u8); (iterate 7 (· exact rfl)); (· first | omega | (simp only [lens, List.length_map, List.length_range]; omega)))
   | ((with_reducible apply v_mkf); (iterate 3 (· exact rfl)))
   | ((with_reducible apply v_lss); (iterate 4 (· exact rfl)))
   | ((with_reducible apply v_leq); (iterate 4 (· exact rfl)))
   | ((with_reducible apply v_gtr); (iterate 4 (· exact rfl)))
   | ((with_reducible apply v_geq); (iterate 4 (· exact rfl)))
   | ((with_reducible apply v_eql); (iterate 4 (· exact rfl)))
   | ((with_reducible apply v_neq); (iterate 4 (· exact rfl)))
   | ((with_reducible apply v_add); (iterate 4 (· exact rfl)); (· first | omega | (simp only [lens, List.length_map, List.length_range]; omega)))
   | ((with_reducible apply v_sub); (iterate 4 (· exact rfl)); (· first | omega | (simp only [lens, List.length_map, List.length_range]; omega)))
   | ((with_reducible apply v_pkT); (iterate 4 (· exact rfl)))
   | ((with_reducible apply v_pkF); (iterate 4 (· exact rfl)))
   | ((with_reducible apply v_not); (iterate 3 (· exact rfl)))
   | ((with_reducible apply v_len); (iterate 5 (· exact rfl)))
   | ((with_reducible apply v_lenn); (iterate 4 (· exact rfl)))
   | ((with_reducible apply v_lit); (iterate 9 (· exact rfl)); (· repeat' (first | exact PartsC.nil | ((apply PartsC.cons); (· exact rfl)) | exact RowC.nil | apply RowC.i | apply RowC.b)))
   | ((with_reducible apply v_ap); (iterate 11 (· exact rfl)); (· first | omega | (simp only [lens, List.length_map, List.length_range]; omega)))
   | ((with_reducible apply v_ap0); (iterate 10 (· exact rfl)); (· first | omega | (simp only [lens, List.length_map, List.length_range]; omega)))
   | ((with_reducible apply v_alc); (iterate 5 (· exact rfl)))
   | ((with_reducible apply v_box); (iterate 4 (· exact rfl)))
   | ((with_reducible apply v_ldN); (iterate 7 (· exact rfl)))
   | ((with_reducible apply v_lrN); (iterate 8 (· exact rfl)); (· first | omega | (simp only [lens, List.length_map, List.length_range]; omega)))
   | ((with_reducible apply v_fld); (iterate 5 (· exact rfl)); (· kernel_rfl))
   | ((with_reducible apply v_bld); (iterate 6 (· exact rfl)))
   | ((with_reducible apply v_no); (iterate 2 (· exact rfl)))
   | ((with_reducible apply v_no'); (· exact rfl))
   | ((with_reducible apply v_ift); (iterate 2 (· exact rfl)); (· infer_instance))
   | ((with_reducible apply v_iff); (iterate 2 (· exact rfl)); (· infer_instance))
   | ((with_reducible apply v_pif); (· exact rfl); (· infer_instance))
   | (with_reducible apply vo_nil0)
   | ((with_reducible apply vo_nil); (· kernel_rfl))
   | (with_reducible apply w_rs)
   | ((with_reducible apply w_ds); (rotate_left); (iterate 2 (· kernel_rfl)))
   | (with_reducible apply w_r)
   | ((with_reducible apply w_d); (rotate_left); (iterate 2 (· kernel_rfl)))
   | (with_reducible apply w_sks)
   | (with_reducible apply W.skp)
   | (with_reducible apply W.ext)
   | (with_reducible apply W.rt)
   | (with_reducible apply w_blk)
   | ((with_reducible apply W.cT); (· exact rfl))
   | ((with_reducible apply W.cF); (· exact rfl))
   | ((with_reducible apply W.cn); (· exact rfl); (· infer_instance))
   | (with_reducible apply W.sq)
   | (with_reducible apply q_tn)
   | (with_reducible apply q_te)
   | (with_reducible apply q_tr)
   | (with_reducible apply q_bn)
   | (with_reducible apply q_br)
   | ((with_reducible apply q_be); (· exact rfl))
   | ((with_reducible apply q_bx); (· exact rfl))
   | (with_reducible apply q_er)
   | (with_reducible apply q_en)
   | (with_reducible apply q_her)
   | (with_reducible apply q_hen)
   | (intro _))
  refine W.lop (X := Int) (fun i => mk 19 [(0, .one (.r 5000)), (1, .fn 193 [.r 5102]), (7, .one (.c (.int .i64 (a.length : Int)))), (8, .one (.c (.int .i64 i)))] [(5000, some (.ro i1 a)), (5102, some (.rbox [.c (.int .i64 n), .r 5101])), (5101, some (.ro i5 arcs))] []) (fun i => 0 ≤ i ∧ i ≤ a.length ∧ ∀ j, j < i.toNat → (fun j => !kB arcs (rd a j 0)) j = false) (fun i => (a.length - i).toNat) 0 ?_ ?_ ?_
  · exact (Wk.list [] (by repeat' (first | exact TW.nil | refine TW.cons rfl ?_)) (by repeat' (first | exact HW.nil | refine HW.cons rfl ?_)) rfl)
  · exact ⟨by omega, by omega, fun j hj => by simp at hj⟩
  · rintro i ⟨h0, h1, h2⟩
    repeat' (first
     | ((with_reducible apply v_call 4000000 (c_193 _ _ _)); (iterate 3 (· exact rfl)); (· repeat' (first | exact DVsOf.nil | apply DVsOf.cons | apply DVof.one | apply DVof.agg | exact DCof.c | exact DCof.nil | exact DCof.nils | ((apply DCof.r); (iterate 2 (· exact rfl))) | ((apply DCof.rs); (iterate 2 (· exact rfl))) | ((apply DCof.mu); (· exact rfl)) | exact DCsOf.nil | apply DCsOf.cons | ((apply DVof_mp); (· exact rfl)) | ((apply DVof_ptr); (iterate 2 (· exact rfl))) | apply DVof.fn | exact DPsOf.nil | ((apply DPsOf_cons); (iterate 2 (· exact rfl))) | exact rfl)); (iterate 4 (· exact rfl)))
     | ((with_reducible apply v_mv); (iterate 3 (· exact rfl)))
     | ((with_reducible apply v_as); (iterate 3 (· exact rfl)))
     | ((with_reducible apply v_fa); (iterate 6 (· exact rfl)))
     | ((with_reducible apply v_far); (iterate 6 (· exact rfl)))
     | ((with_reducible apply v_ia); (iterate 8 (· exact rfl)); (iterate 2 (· first | omega | (simp only [lens, List.length_map, List.length_range]; omega))))
     | ((with_reducible apply v_lr_i64); (iterate 7 (· exact rfl)); (· first | omega | (simp only [lens, List.length_map, List.length_range]; omega)))
     | ((with_reducible apply v_ld); (iterate 6 (· exact rfl)))
     | ((with_reducible apply v_st); (iterate 7 (· exact rfl)))
     | ((with_reducible apply v_sr); (iterate 7 (· exact rfl)); (· first | omega | (simp only [lens, List.length_map, List.length_range]; omega)))
     | ((with_reducible apply v_srN); (iterate 7 (· exact rfl)); (· repeat' (first | exact RowC.nil | apply RowC.i | apply RowC.b)); (· first | omega | (simp only [lens, List.length_map, List.length_range]; omega)))
     | ((with_reducible apply v_tgt); (iterate 9 (· exact rfl)); (iterate 3 (· first | omega | (simp only [lens, List.length_map, List.length_range]; omega))); (· exact rfl))
     | ((with_reducible apply v_mks); (iterate 10 (· exact rfl)); (iterate 3 (· first | omega | (simp only [lens, List.length_map, List.length_range]; omega))))
     | ((with_reducible apply v_ext); (iterate 5 (· exact rfl)))
     | ((with_reducible apply v_cnv); (iterate 6 (· exact rfl)))
     | ((with_reducible apply v_min); (iterate 4 (· exact rfl)))
     | ((with_reducible apply v_max); (iterate 4 (· exact rfl)))
     | ((with_reducible apply v_ncr); (iterate 4 (· exact rfl)))
     | ((with_reducible apply v_ncp); (iterate 3 (· exact rfl)))
     | ((with_reducible apply v_lr_b); (iterate 7 (· exact rfl)); (· first | omega | (simp only [lens, List.length_map, List.length_range]; omega)))
     | ((with_reducible apply v_lr_u8); (iterate 7 (· exact rfl)); (· first | omega | (simp only [lens, List.length_map, List.length_range]; omega)))
     | ((with_reducible apply v_mkf); (iterate 3 (· exact rfl)))
     | ((with_reducible apply v_lss); (iterate 4 (· exact rfl)))
     | ((with_reducible apply v_leq); (iterate 4 (· exact rfl)))
     | ((with_reducible apply v_gtr); (iterate 4 (· exact rfl)))
     | ((with_reducible apply v_geq); (iterate 4 (· exact rfl)))
     | ((with_reducible apply v_eql); (iterate 4 (· exact rfl)))
     | ((with_reducible apply v_neq); (iterate 4 (· exact rfl)))
     | ((with_reducible apply v_add); (iterate 4 (· exact rfl)); (· first | omega | (simp only [lens, List.length_map, List.length_range]; omega)))
     | ((with_reducible apply v_sub); (iterate 4 (· exact rfl)); (· first | omega | (simp only [lens, List.length_map, List.length_range]; omega)))
     | ((with_reducible apply v_pkT); (iterate 4 (· exact rfl)))
     | ((with_reducible apply v_pkF); (iterate 4 (· exact rfl)))
     | ((with_reducible apply v_not); (iterate 3 (· exact rfl)))
     | ((with_reducible apply v_len); (iterate 5 (· exact rfl)))
     | ((with_reducible apply v_lenn); (iterate 4 (· exact rfl)))
     | ((with_reducible apply v_lit); (iterate 9 (· exact rfl)); (· repeat' (first | exact PartsC.nil | ((apply PartsC.cons); (· exact rfl)) | exact RowC.nil | apply RowC.i | apply RowC.b)))
     | ((with_reducible apply v_ap); (iterate 11 (· exact rfl)); (· first | omega | (simp only [lens, List.length_map, List.length_range]; omega)))
     | ((with_reducible apply v_ap0); (iterate 10 (· exact rfl)); (· first | omega | (simp only [lens, List.length_map, List.length_range]; omega)))
     | ((with_reducible apply v_alc); (iterate 5 (· exact rfl)))
     | ((with_reducible apply v_box); (iterate 4 (· exact rfl)))
     | ((with_reducible apply v_ldN); (iterate 7 (· exact rfl)))
     | ((with_reducible apply v_lrN); (iterate 8 (· exact rfl)); (· first | omega | (simp only [lens, List.length_map, List.length_range]; omega)))
     | ((with_reducible apply v_fld); (iterate 5 (· exact rfl)); (· kernel_rfl))
     | ((with_reducible apply v_bld); (iterate 6 (· exact rfl)))
     | ((with_reducible apply v_no); (iterate 2 (· exact rfl)))
     | ((with_reducible apply v_no'); (· exact rfl))
     | ((with_reducible apply v_ift); (iterate 2 (· exact rfl)); (· infer_instance))
     | ((with_reducible apply v_iff); (iterate 2 (· exact rfl)); (· infer_instance))
     | ((with_reducible apply v_pif); (· exact rfl); (· infer_instance))
     | (with_reducible apply vo_nil0)
     | ((with_reducible apply vo_nil); (· kernel_rfl))
     | (with_reducible apply w_rs)
     | ((with_reducible apply w_ds); (rotate_left); (iterate 2 (· kernel_rfl)))
     | (with_reducible apply w_r)
     | ((with_reducible apply w_d); (rotate_left); (iterate 2 (· kernel_rfl)))
     | (with_reducible apply w_sks)
     | (with_reducible apply W.skp)
     | (with_reducible apply W.ext)
     | (with_reducible apply W.rt)
     | (with_reducible apply w_blk)
     | ((with_reducible apply W.cT); (· exact rfl))
     | ((with_reducible apply W.cF); (· exact rfl))
     | ((with_reducible apply W.cn); (· exact rfl); (· infer_instance))
     | (with_reducible apply W.sq)
     | (with_reducible apply q_tn)
     | (with_reducible apply q_te)
     | (with_reducible apply q_tr)
     | (with_reducible apply q_bn)
     | (with_reducible apply q_br)
     | ((with_reducible apply q_be); (· exact rfl))
     | ((with_reducible apply q_bx); (· exact rfl))
     | (with_reducible apply q_er)
     | (with_reducible apply q_en)
     | (with_reducible apply q_her)
     | (with_reducible apply q_hen)
     | (intro _))
    · exact e_int rfl rfl (by rw [idxM_some (j := i.toNat) (by omega) (by simp_all) h2]; omega)
    · refine W.round (i + 1) (Wk.list [] (by repeat' (first | exact TW.nil | refine TW.cons rfl ?_)) (by repeat' (first | exact HW.nil | refine HW.cons rfl ?_)) rfl) ⟨by omega, by omega, fun j hj => ?_⟩ (by omega)
      by_cases hji : j < i.toNat
      · exact h2 j hji
      · rw [show j = i.toNat by omega]; simp_all
    · exact e_int rfl rfl (by rw [idxM_none (fun j hj => h2 j (by omega))])
theorem c_191_193 (a : List (List Int)) (n : Int) (arcs : List (List Int)) (hl : a.length < 1000000000000) : OK Try.prog 191 [.one (.sl 3 i1 a), .fn 193 [[cI n, .sl 54 i5 arcs]]] (dB ((List.range a.length).any (fun j => !kB arcs (rd a j 0)))) := by
  refine W.fn 9 [.tmp 4] hTT Try.func191 rfl rfl rfl rfl rfl rfl rfl rfl ?_
  repeat' (first
   | ((with_reducible apply v_call 4000000 (c_232_193 _ _ _ hl)); (iterate 3 (· exact rfl)); (· repeat' (first | exact DVsOf.nil | apply DVsOf.cons | apply DVof.one | apply DVof.agg | exact DCof.c | exact DCof.nil | exact DCof.nils | ((apply DCof.r); (iterate 2 (· exact rfl))) | ((apply DCof.rs); (iterate 2 (· exact rfl))) | ((apply DCof.mu); (· exact rfl)) | exact DCsOf.nil | apply DCsOf.cons | ((apply DVof_mp); (· exact rfl)) | ((apply DVof_ptr); (iterate 2 (· exact rfl))) | apply DVof.fn | exact DPsOf.nil | ((apply DPsOf_cons); (iterate 2 (· exact rfl))) | exact rfl)); (iterate 4 (· exact rfl)))
   | ((with_reducible apply v_mv); (iterate 3 (· exact rfl)))
   | ((with_reducible apply v_as); (iterate 3 (· exact rfl)))
   | ((with_reducible apply v_fa); (iterate 6 (· exact rfl)))
   | ((with_reducible apply v_far); (iterate 6 (· exact rfl)))
   | ((with_reducible apply v_ia); (iterate 8 (· exact rfl)); (iterate 2 (· first | omega | (simp only [lens, List.length_map, List.length_range]; omega))))
   | ((with_reducible apply v_lr_i64); (iterate 7 (· exact rfl)); (· first | omega | (simp only [lens, List.length_map, List.length_range]; omega)))
   | ((with_reducible apply v_ld); (iterate 6 (· exact rfl)))
   | ((with_reducible apply v_st); (iterate 7 (· exact rfl)))
   | ((with_reducible apply v_sr); (iterate 7 (· exact rfl)); (· first | omega | (simp only [lens, List.length_map, List.length_range]; omega)))
   | ((with_reducible apply v_srN); (iterate 7 (· exact rfl)); (· repeat' (first | exact RowC.nil | apply RowC.i | apply RowC.b)); (· first | omega | (simp only [lens, List.length_map, List.length_range]; omega)))
   | ((with_reducible apply v_tgt); (iterate 9 (· exact rfl)); (iterate 3 (· first | omega | (simp only [lens, List.length_map, List.length_range]; omega))); (· exact rfl))
   | ((with_reducible apply v_mks); (iterate 10 (· exact rfl)); (iterate 3 (· first | omega | (simp only [lens, List.length_map, List.length_range]; omega))))
   | ((with_reducible apply v_ext); (iterate 5 (· exact rfl)))
   | ((with_reducible apply v_cnv); (iterate 6 (· exact rfl)))
   | ((with_reducible apply v_min); (iterate 4 (· exact rfl)))
   | ((with_reducible apply v_max); (iterate 4 (· exact rfl)))
   | ((with_reducible apply v_ncr); (iterate 4 (· exact rfl)))
   | ((with_reducible apply v_ncp); (iterate 3 (· exact rfl)))
   | ((with_reducible apply v_lr_b); (iterate 7 (· exact rfl)); (· first | omega | (simp only [lens, List.length_map, List.length_range]; omega)))
   | ((with_reducible apply v_lr_u8); (iterate 7 (· exact rfl)); (· first | omega | (simp only [lens, List.length_map, List.length_range]; omega)))
   | ((with_reducible apply v_mkf); (iterate 3 (· exact rfl)))
   | ((with_reducible apply v_lss); (iterate 4 (· exact rfl)))
   | ((with_reducible apply v_leq); (iterate 4 (· exact rfl)))
   | ((with_reducible apply v_gtr); (iterate 4 (· exact rfl)))
   | ((with_reducible apply v_geq); (iterate 4 (· exact rfl)))
   | ((with_reducible apply v_eql); (iterate 4 (· exact rfl)))
   | ((with_reducible apply v_neq); (iterate 4 (· exact rfl)))
   | ((with_reducible apply v_add); (iterate 4 (· exact rfl)); (· first | omega | (simp only [lens, List.length_map, List.length_range]; omega)))
   | ((with_reducible apply v_sub); (iterate 4 (· exact rfl)); (· first | omega | (simp only [lens, List.length_map, List.length_range]; omega)))
   | ((with_reducible apply v_pkT); (iterate 4 (· exact rfl)))
   | ((with_reducible apply v_pkF); (iterate 4 (· exact rfl)))
   | ((with_reducible apply v_not); (iterate 3 (· exact rfl)))
   | ((with_reducible apply v_len); (iterate 5 (· exact rfl)))
   | ((with_reducible apply v_lenn); (iterate 4 (· exact rfl)))
   | ((with_reducible apply v_lit); (iterate 9 (· exact rfl)); (· repeat' (first | exact PartsC.nil | ((apply PartsC.cons); (· exact rfl)) | exact RowC.nil | apply RowC.i | apply RowC.b)))
   | ((with_reducible apply v_ap); (iterate 11 (· exact rfl)); (· first | omega | (simp only [lens, List.length_map, List.length_range]; omega)))
   | ((with_reducible apply v_ap0); (iterate 10 (· exact rfl)); (· first | omega | (simp only [lens, List.length_map, List.length_range]; omega)))
   | ((with_reducible apply v_alc); (iterate 5 (· exact rfl)))
   | ((with_reducible apply v_box); (iterate 4 (· exact rfl)))
   | ((with_reducible apply v_ldN); (iterate 7 (· exact rfl)))
   | ((with_reducible apply v_lrN); (iterate 8 (· exact rfl)); (· first | omega | (simp only [lens, List.length_map, List.length_range]; omega)))
   | ((with_reducible apply v_fld); (iterate 5 (· exact rfl)); (· kernel_rfl))
   | ((with_reducible apply v_bld); (iterate 6 (· exact rfl)))
   | ((with_reducible apply v_no); (iterate 2 (· exact rfl)))
   | ((with_reducible apply v_no'); (· exact rfl))
   | ((with_reducible apply v_ift); (iterate 2 (· exact rfl)); (· infer_instance))
   | ((with_reducible apply v_iff); (iterate 2 (· exact rfl)); (· infer_instance))
   | ((with_reducible apply v_pif); (· exact rfl); (· infer_instance))
   | (with_reducible apply vo_nil0)
   | ((with_reducible apply vo_nil); (· kernel_rfl))
   | (with_reducible apply w_rs)
   | ((with_reducible apply w_ds); (rotate_left); (iterate 2 (· kernel_rfl)))
   | (with_reducible apply w_r)
   | ((with_reducible apply w_d); (rotate_left); (iterate 2 (· kernel_rfl)))
   | (with_reducible apply w_sks)
   | (with_reducible apply W.skp)
   | (with_reducible apply W.ext)
   | (with_reducible apply W.rt)
   | (with_reducible apply w_blk)
   | ((with_reducible apply W.cT); (· exact rfl))
   | ((with_reducible apply W.cF); (· exact rfl))
   | ((with_reducible apply W.cn); (· exact rfl); (· infer_instance))
   | (with_reducible apply W.sq)
   | (with_reducible apply q_tn)
   | (with_reducible apply q_te)
   | (with_reducible apply q_tr)
   | (with_reducible apply q_bn)
   | (with_reducible apply q_br)
   | ((with_reducible apply q_be); (· exact rfl))
   | ((with_reducible apply q_bx); (· exact rfl))
   | (with_reducible apply q_er)
   | (with_reducible apply q_en)
   | (with_reducible apply q_her)
   | (with_reducible apply q_hen)
   | (intro _))
  exact e_bool rfl rfl (idxM_any _ _)

def aokM (n : Int) (arcs a : List (List Int)) : Bool := okM n arcs && decide ((a.length : Int) ≤ 16) && (List.range a.length).all fun j => kB arcs (rd a j 0)
theorem c_108 (n : Int) (arcs a : List (List Int)) (hn : arcs.length < 1000000000000) (hl : a.length < 1000000000000) : OK Try.prog 108 [dNet n arcs, dInts a] (dB (aokM n arcs a)) := by
  refine W.fn 18 [.tmp 4] hTT Try.func108 rfl rfl rfl rfl rfl rfl rfl rfl ?_
  repeat' (first
   | ((with_reducible apply v_call 4000000 (c_35 _ _ hn)); (iterate 3 (· exact rfl)); (· repeat' (first | exact DVsOf.nil | apply DVsOf.cons | apply DVof.one | apply DVof.agg | exact DCof.c | exact DCof.nil | exact DCof.nils | ((apply DCof.r); (iterate 2 (· exact rfl))) | ((apply DCof.rs); (iterate 2 (· exact rfl))) | ((apply DCof.mu); (· exact rfl)) | exact DCsOf.nil | apply DCsOf.cons | ((apply DVof_mp); (· exact rfl)) | ((apply DVof_ptr); (iterate 2 (· exact rfl))) | apply DVof.fn | exact DPsOf.nil | ((apply DPsOf_cons); (iterate 2 (· exact rfl))) | exact rfl)); (iterate 4 (· exact rfl)))
   | ((with_reducible apply v_call 4000000 (c_191_193 _ _ _ hl)); (iterate 3 (· exact rfl)); (· repeat' (first | exact DVsOf.nil | apply DVsOf.cons | apply DVof.one | apply DVof.agg | exact DCof.c | exact DCof.nil | exact DCof.nils | ((apply DCof.r); (iterate 2 (· exact rfl))) | ((apply DCof.rs); (iterate 2 (· exact rfl))) | ((apply DCof.mu); (· exact rfl)) | exact DCsOf.nil | apply DCsOf.cons | ((apply DVof_mp); (· exact rfl)) | ((apply DVof_ptr); (iterate 2 (· exact rfl))) | apply DVof.fn | exact DPsOf.nil | ((apply DPsOf_cons); (iterate 2 (· exact rfl))) | exact rfl)); (iterate 4 (· exact rfl)))
   | ((with_reducible apply v_mv); (iterate 3 (· exact rfl)))
   | ((with_reducible apply v_as); (iterate 3 (· exact rfl)))
   | ((with_reducible apply v_fa); (iterate 6 (· exact rfl)))
   | ((with_reducible apply v_far); (iterate 6 (· exact rfl)))
   | ((with_reducible apply v_ia); (iterate 8 (· exact rfl)); (iterate 2 (· first | omega | (simp only [lens, List.length_map, List.length_range]; omega))))
   | ((with_reducible apply v_lr_i64); (iterate 7 (· exact rfl)); (· first | omega | (simp only [lens, List.length_map, List.length_range]; omega)))
   | ((with_reducible apply v_ld); (iterate 6 (· exact rfl)))
   | ((with_reducible apply v_st); (iterate 7 (· exact rfl)))
   | ((with_reducible apply v_sr); (iterate 7 (· exact rfl)); (· first | omega | (simp only [lens, List.length_map, List.length_range]; omega)))
   | ((with_reducible apply v_srN); (iterate 7 (· exact rfl)); (· repeat' (first | exact RowC.nil | apply RowC.i | apply RowC.b)); (· first | omega | (simp only [lens, List.length_map, List.length_range]; omega)))
   | ((with_reducible apply v_tgt); (iterate 9 (· exact rfl)); (iterate 3 (· first | omega | (simp only [lens, List.length_map, List.length_range]; omega))); (· exact rfl))
   | ((with_reducible apply v_mks); (iterate 10 (· exact rfl)); (iterate 3 (· first | omega | (simp only [lens, List.length_map, List.length_range]; omega))))
   | ((with_reducible apply v_ext); (iterate 5 (· exact rfl)))
   | ((with_reducible apply v_cnv); (iterate 6 (· exact rfl)))
   | ((with_reducible apply v_min); (iterate 4 (· exact rfl)))
   | ((with_reducible apply v_max); (iterate 4 (· exact rfl)))
   | ((with_reducible apply v_ncr); (iterate 4 (· exact rfl)))
   | ((with_reducible apply v_ncp); (iterate 3 (· exact rfl)))
   | ((with_reducible apply v_lr_b); (iterate 7 (· exact rfl)); (· first | omega | (simp only [lens, List.length_map, List.length_range]; omega)))
   | ((with_reducible apply v_lr_u8); (iterate 7 (· exact rfl)); (· first | omega | (simp only [lens, List.length_map, List.length_range]; omega)))
   | ((with_reducible apply v_mkf); (iterate 3 (· exact rfl)))
   | ((with_reducible apply v_lss); (iterate 4 (· exact rfl)))
   | ((with_reducible apply v_leq); (iterate 4 (· exact rfl)))
   | ((with_reducible apply v_gtr); (iterate 4 (· exact rfl)))
   | ((with_reducible apply v_geq); (iterate 4 (· exact rfl)))
   | ((with_reducible apply v_eql); (iterate 4 (· exact rfl)))
   | ((with_reducible apply v_neq); (iterate 4 (· exact rfl)))
   | ((with_reducible apply v_add); (iterate 4 (· exact rfl)); (· first | omega | (simp only [lens, List.length_map, List.length_range]; omega)))
   | ((with_reducible apply v_sub); (iterate 4 (· exact rfl)); (· first | omega | (simp only [lens, List.length_map, List.length_range]; omega)))
   | ((with_reducible apply v_pkT); (iterate 4 (· exact rfl)))
   | ((with_reducible apply v_pkF); (iterate 4 (· exact rfl)))
   | ((with_reducible apply v_not); (iterate 3 (· exact rfl)))
   | ((with_reducible apply v_len); (iterate 5 (· exact rfl)))
   | ((with_reducible apply v_lenn); (iterate 4 (· exact rfl)))
   | ((with_reducible apply v_lit); (iterate 9 (· exact rfl)); (· repeat' (first | exact PartsC.nil | ((apply PartsC.cons); (· exact rfl)) | exact RowC.nil | apply RowC.i | apply RowC.b)))
   | ((with_reducible apply v_ap); (iterate 11 (· exact rfl)); (· first | omega | (simp only [lens, List.length_map, List.length_range]; omega)))
   | ((with_reducible apply v_ap0); (iterate 10 (· exact rfl)); (· first | omega | (simp only [lens, List.length_map, List.length_range]; omega)))
   | ((with_reducible apply v_alc); (iterate 5 (· exact rfl)))
   | ((with_reducible apply v_box); (iterate 4 (· exact rfl)))
   | ((with_reducible apply v_ldN); (iterate 7 (· exact rfl)))
   | ((with_reducible apply v_lrN); (iterate 8 (· exact rfl)); (· first | omega | (simp only [lens, List.length_map, List.length_range]; omega)))
   | ((with_reducible apply v_fld); (iterate 5 (· exact rfl)); (· kernel_rfl))
   | ((with_reducible apply v_bld); (iterate 6 (· exact rfl)))
   | ((with_reducible apply v_no); (iterate 2 (· exact rfl)))
   | ((with_reducible apply v_no'); (· exact rfl))
   | ((with_reducible apply v_ift); (iterate 2 (· exact rfl)); (· infer_instance))
   | ((with_reducible apply v_iff); (iterate 2 (· exact rfl)); (· infer_instance))
   | ((with_reducible apply v_pif); (· exact rfl); (· infer_instance))
   | (with_reducible apply vo_nil0)
   | ((with_reducible apply vo_nil); (· kernel_rfl))
   | (with_reducible apply w_rs)
   | ((with_reducible apply w_ds); (rotate_left); (iterate 2 (· kernel_rfl)))
   | (with_reducible apply w_r)
   | ((with_reducible apply w_d); (rotate_left); (iterate 2 (· kernel_rfl)))
   | (with_reducible apply w_sks)
   | (with_reducible apply W.skp)
   | (with_reducible apply W.ext)
   | (with_reducible apply W.rt)
   | (with_reducible apply w_blk)
   | ((with_reducible apply W.cT); (· exact rfl))
   | ((with_reducible apply W.cF); (· exact rfl))
   | ((with_reducible apply W.cn); (· exact rfl); (· infer_instance))
   | (with_reducible apply W.sq)
   | (with_reducible apply q_tn)
   | (with_reducible apply q_te)
   | (with_reducible apply q_tr)
   | (with_reducible apply q_bn)
   | (with_reducible apply q_br)
   | ((with_reducible apply q_be); (· exact rfl))
   | ((with_reducible apply q_bx); (· exact rfl))
   | (with_reducible apply q_er)
   | (with_reducible apply q_en)
   | (with_reducible apply q_her)
   | (with_reducible apply q_hen)
   | (intro _))
  · exact e_bool rfl rfl (by rw [not_any_not]; simp_all [aokM])
  · exact e_bool rfl rfl (by simp_all [aokM]; try omega)
  · exact e_bool rfl rfl (by simp_all [aokM]; try omega)
end Go.AM
set_option linter.unusedVariables false
set_option linter.unusedSimpArgs false
set_option maxRecDepth 4000
namespace Go.AM
open Go.Proofs

/-! ### What the joined parts are: the plain law of TreeBest -/
def arcIn (n : Nat) (arcs : List (List Int)) (k : Int) : Prop := (0 ≤ rd arcs k.toNat 0 ∧ rd arcs k.toNat 0 < n) ∧ (0 ≤ rd arcs k.toNat 1 ∧ rd arcs k.toNat 1 < n)
structure Part (n : Nat) (P : List Int) : Prop where
  len : P.length = n
  lo : ∀ v, v < n → 0 ≤ gt P v ∧ gt P v ≤ v
  fix : ∀ v, v < n → gt P (gt P v).toNat = gt P v
theorem Part.init (n : Nat) : Part n (upto n) := ⟨upto_length n, fun v hv => by rw [gt_upto hv]; omega, fun v hv => by rw [gt_upto hv]; simpa using gt_upto hv⟩
theorem gt_jstep {n : Nat} {arcs : List (List Int)} {P : List Int} (h : Part n P) {v : Nat} (hv : v < n) (k : Int) : gt (jstep arcs P k) v = relab (gt P (rd arcs k.toNat 0).toNat) (gt P (rd arcs k.toNat 1).toNat) (gt P v) := by
  rw [jstep, gt_map _ (by rw [h.len]; exact hv)]
theorem Part.step {n : Nat} {arcs : List (List Int)} {P : List Int} (h : Part n P) {k : Int} (hk : arcIn n arcs k) : Part n (jstep arcs P k) := by
  obtain ⟨⟨a0, a1⟩, b0, b1⟩ := hk
  have pa := h.lo (rd arcs k.toNat 0).toNat (by omega)
  have pb := h.lo (rd arcs k.toNat 1).toNat (by omega)
  have qa := h.fix (rd arcs k.toNat 0).toNat (by omega)
  have qb := h.fix (rd arcs k.toNat 1).toNat (by omega)
  refine ⟨by rw [jstep_length, h.len], fun v hv => ?_, fun v hv => ?_⟩
  · rw [gt_jstep h hv]
    have := h.lo v hv
    generalize gt P (rd arcs k.toNat 0).toNat = A at *
    generalize gt P (rd arcs k.toNat 1).toNat = B at *
    unfold relab
    split <;> omega
  · have pv := h.lo v hv
    have qv := h.fix v hv
    rw [gt_jstep h hv]
    have hb : (relab (gt P (rd arcs k.toNat 0).toNat) (gt P (rd arcs k.toNat 1).toNat) (gt P v)).toNat < n := by unfold relab; split <;> omega
    rw [gt_jstep h hb]
    generalize gt P (rd arcs k.toNat 0).toNat = A at *
    generalize gt P (rd arcs k.toNat 1).toNat = B at *
    unfold relab
    by_cases e : gt P v = max A B
    · rw [if_pos e]
      by_cases e2 : A ≤ B
      · rw [show min A B = A by omega, qa]; split <;> omega
      · rw [show min A B = B by omega, qb]; split <;> omega
    · rw [if_neg e, qv, if_neg e]
theorem joinM_snoc (n : Nat) (arcs : List (List Int)) (A : List Int) (k : Int) : joinM n arcs (A ++ [k]) = jstep arcs (joinM n arcs A) k := by simp [joinM]
theorem Part.joinM {n : Nat} {arcs : List (List Int)} {A : List Int} (h : ∀ k ∈ A, arcIn n arcs k) : Part n (joinM n arcs A) := by
  suffices ∀ (B : List Int) (P : List Int), (∀ k ∈ B, arcIn n arcs k) → Part n P → Part n (B.foldl (jstep arcs) P) from this A _ h (Part.init n)
  intro B
  induction B with
  | nil => intro P _ h; exact h
  | cons k B ih => intro P hB h; exact ih _ (fun x hx => hB x (by simp [hx])) (h.step (hB k (by simp)))
/-- The joined nodes agree. -/
theorem joinM_rel {n : Nat} {arcs : List (List Int)} {A : List Int} (h : ∀ k ∈ A, arcIn n arcs k) : ∀ k ∈ A, gt (joinM n arcs A) (rd arcs k.toNat 0).toNat = gt (joinM n arcs A) (rd arcs k.toNat 1).toNat := by
  suffices ∀ (B : List Int) (P : List Int), (∀ k ∈ B, arcIn n arcs k) → Part n P → ∀ u v, u < n → v < n → (gt P u = gt P v ∨ ∃ k ∈ B, u = (rd arcs k.toNat 0).toNat ∧ v = (rd arcs k.toNat 1).toNat) → gt (B.foldl (jstep arcs) P) u = gt (B.foldl (jstep arcs) P) v from
    fun k hk => by
      obtain ⟨⟨a0, a1⟩, b0, b1⟩ := h k hk
      exact this A _ h (Part.init n) _ _ (by omega) (by omega) (.inr ⟨k, hk, rfl, rfl⟩)
  intro B
  induction B with
  | nil => intro P _ _ u v _ _ h; rcases h with h | ⟨k, hk, _⟩; exact h; simp at hk
  | cons k B ih =>
    intro P hB h u v hu hv e
    refine ih _ (fun x hx => hB x (by simp [hx])) (h.step (hB k (by simp))) u v hu hv ?_
    rcases e with e | ⟨k', hk', e1, e2⟩
    · left; rw [gt_jstep h hu, gt_jstep h hv, e]
    · rcases List.mem_cons.1 hk' with rfl | hk'
      · left; rw [gt_jstep h hu, gt_jstep h hv, e1, e2]; unfold relab; repeat' split
        all_goals omega
      · exact .inr ⟨k', hk', e1, e2⟩
/-- They are the least: whatever agrees on the arcs agrees on a part. -/
theorem joinM_le {n : Nat} {arcs : List (List Int)} {A : List Int} (h : ∀ k ∈ A, arcIn n arcs k) (f : Nat → Int) (hf : ∀ k ∈ A, f (rd arcs k.toNat 0).toNat = f (rd arcs k.toNat 1).toNat) : ∀ v, v < n → f (gt (joinM n arcs A) v).toNat = f v := by
  suffices ∀ (B : List Int) (P : List Int), (∀ k ∈ B, arcIn n arcs k) → (∀ k ∈ B, f (rd arcs k.toNat 0).toNat = f (rd arcs k.toNat 1).toNat) → Part n P → (∀ v, v < n → f (gt P v).toNat = f v) → ∀ v, v < n → f (gt (B.foldl (jstep arcs) P) v).toNat = f v from
    this A _ h hf (Part.init n) (fun v hv => by rw [gt_upto hv]; rfl)
  intro B
  induction B with
  | nil => intro P _ _ _ h; exact h
  | cons k B ih =>
    intro P hB hf h e
    refine ih _ (fun x hx => hB x (by simp [hx])) (fun x hx => hf x (by simp [hx])) (h.step (hB k (by simp))) (fun v hv => ?_)
    obtain ⟨⟨a0, a1⟩, b0, b1⟩ := hB k (by simp)
    have ea := e (rd arcs k.toNat 0).toNat (by omega)
    have eb := e (rd arcs k.toNat 1).toNat (by omega)
    have ek := hf k (by simp)
    have ev := e v hv
    rw [gt_jstep h hv]
    generalize gt P (rd arcs k.toNat 0).toNat = A at *
    generalize gt P (rd arcs k.toNat 1).toNat = B at *
    unfold relab
    split
    · rename_i hc
      rw [hc] at ev
      by_cases e2 : A ≤ B
      · rw [show min A B = A by omega]; rw [show max A B = B by omega] at ev; rw [← ev, ea, ek, eb]
      · rw [show min A B = B by omega]; rw [show max A B = A by omega] at ev; rw [← ev, ea, ek, eb]
    · exact ev
theorem joinM_mono {n : Nat} {arcs : List (List Int)} {A B : List Int} (hA : ∀ k ∈ A, arcIn n arcs k) (hB : ∀ k ∈ B, arcIn n arcs k) (h : ∀ k ∈ A, k ∈ B) : ∀ v, v < n → gt (joinM n arcs B) v ≤ gt (joinM n arcs A) v := by
  intro v hv
  have h1 := joinM_le hA (gt (joinM n arcs B)) (fun k hk => joinM_rel hB k (h k hk)) v hv
  have h2 := (Part.joinM hA).lo v hv
  have h3 := (Part.joinM hB).lo (gt (joinM n arcs A) v).toNat (by omega)
  omega
theorem gt_ext {P Q : List Int} (h : P.length = Q.length) (e : ∀ v, v < P.length → gt P v = gt Q v) : P = Q := by
  apply List.ext_getElem h
  intro i h1 h2
  have := e i h1
  simpa [gt, List.getD_eq_getElem?_getD, List.getElem?_eq_getElem h1, List.getElem?_eq_getElem h2] using this
theorem joinM_same {n : Nat} {arcs : List (List Int)} {A B : List Int} (hA : ∀ k ∈ A, arcIn n arcs k) (hB : ∀ k ∈ B, arcIn n arcs k) (h : ∀ k, k ∈ A ↔ k ∈ B) : joinM n arcs A = joinM n arcs B := by
  refine gt_ext (by rw [joinM_length, joinM_length]) (fun v hv => ?_)
  rw [joinM_length] at hv
  have h1 := joinM_mono hA hB (fun k hk => (h k).1 hk) v hv
  have h2 := joinM_mono hB hA (fun k hk => (h k).2 hk) v hv
  omega
/-- The number of parts. -/
def cnt (P : List Int) : Nat → Int
  | 0 => 0
  | i + 1 => cnt P i + if gt P i = (i : Int) then 1 else 0
theorem cnt_step {n : Nat} {arcs : List (List Int)} {P : List Int} (h : Part n P) {k : Int} (hk : arcIn n arcs k) : ∀ i, i ≤ n → cnt (jstep arcs P k) i = cnt P i - if gt P (rd arcs k.toNat 0).toNat ≠ gt P (rd arcs k.toNat 1).toNat ∧ max (gt P (rd arcs k.toNat 0).toNat) (gt P (rd arcs k.toNat 1).toNat) < (i : Int) then 1 else 0 := by
  obtain ⟨⟨a0, a1⟩, b0, b1⟩ := hk
  have pa := h.lo (rd arcs k.toNat 0).toNat (by omega)
  have pb := h.lo (rd arcs k.toNat 1).toNat (by omega)
  have qa := h.fix (rd arcs k.toNat 0).toNat (by omega)
  have qb := h.fix (rd arcs k.toNat 1).toNat (by omega)
  intro i
  induction i with
  | zero =>
    intro _
    rw [if_neg (by omega)]; rfl
  | succ i ih =>
    intro hi
    have ih := ih (by omega)
    have pi := h.lo i (by omega)
    have qi := h.fix i (by omega)
    rw [cnt, cnt, ih, gt_jstep h (by omega)]
    generalize gt P (rd arcs k.toNat 0).toNat = A at *
    generalize gt P (rd arcs k.toNat 1).toNat = B at *
    unfold relab
    by_cases hAi : A = (i : Int)
    · subst hAi
      simp only [Int.toNat_natCast] at qa
      repeat' split
      all_goals omega
    · by_cases hBi : B = (i : Int)
      · subst hBi
        simp only [Int.toNat_natCast] at qb
        repeat' split
        all_goals omega
      · by_cases e : gt P i = max A B
        · have : gt P i ≠ (i : Int) := by omega
          have : min A B ≠ (i : Int) := by omega
          repeat' split
          all_goals omega
        · repeat' split
          all_goals omega
theorem cnt_upto (n : Nat) : ∀ i, i ≤ n → cnt (upto n) i = i
  | 0, _ => rfl
  | i + 1, h => by rw [cnt, cnt_upto n i (by omega), gt_upto (by omega), if_pos rfl]; omega
/-- Every arc takes at most one part away. -/
theorem cnt_ge {n : Nat} {arcs : List (List Int)} {A : List Int} (h : ∀ k ∈ A, arcIn n arcs k) : (n : Int) - A.length ≤ cnt (joinM n arcs A) n := by
  suffices ∀ (B : List Int) (P : List Int), (∀ k ∈ B, arcIn n arcs k) → Part n P → cnt P n - B.length ≤ cnt (B.foldl (jstep arcs) P) n from by
    have := this A _ h (Part.init n)
    rw [cnt_upto n n (Nat.le_refl _)] at this
    exact this
  intro B
  induction B with
  | nil => intro P _ _; simp
  | cons k B ih =>
    intro P hB h
    have h1 := ih _ (fun x hx => hB x (by simp [hx])) (h.step (hB k (by simp)))
    rw [cnt_step h (hB k (by simp)) n (Nat.le_refl _)] at h1
    rw [List.foldl_cons, List.length_cons]
    split at h1 <;> omega
/-- Every arc of the tree joins two parts. -/
def Eff (n : Nat) (arcs : List (List Int)) (L : List Int) : Prop := ∀ i, i < L.length → gt (joinM n arcs (L.take i)) (rd arcs (gt L i).toNat 0).toNat ≠ gt (joinM n arcs (L.take i)) (rd arcs (gt L i).toNat 1).toNat
theorem take_snoc (L : List Int) {i : Nat} (h : i < L.length) : L.take (i + 1) = L.take i ++ [gt L i] := by
  rw [List.take_succ_eq_append_getElem h]
  simp [gt, List.getD_eq_getElem?_getD, List.getElem?_eq_getElem h]
theorem Eff.cnt {n : Nat} {arcs : List (List Int)} {L : List Int} (hL : ∀ k ∈ L, arcIn n arcs k) (h : Eff n arcs L) : ∀ i, i ≤ L.length → AM.cnt (AM.joinM n arcs (L.take i)) n = (n : Int) - i
  | 0, _ => by simp [AM.joinM, cnt_upto]
  | i + 1, hi => by
    have hp : ∀ k ∈ L.take i, arcIn n arcs k := fun k hk => hL k (List.mem_of_mem_take hk)
    have hk := hL _ (gt_mem (show i < L.length by omega))
    have hP := Part.joinM hp
    have hl := hP.lo
    rw [take_snoc L (by omega), joinM_snoc, cnt_step hP hk n (Nat.le_refl _), Eff.cnt hL h i (by omega), if_pos]
    · omega
    · obtain ⟨⟨a0, a1⟩, b0, b1⟩ := hk
      have pa := hl (rd arcs (gt L i).toNat 0).toNat (by omega)
      have pb := hl (rd arcs (gt L i).toNat 1).toNat (by omega)
      exact ⟨h i (by omega), by omega⟩
theorem tree_inv {n : Nat} {arcs : List (List Int)} : ∀ (l done out : List Int), (∀ k ∈ l, arcIn n arcs k) → (∀ k ∈ done, arcIn n arcs k) → (∀ k ∈ out, arcIn n arcs k) → Eff n arcs out → joinM n arcs out = joinM n arcs done → Eff n arcs (l.foldl (tstep n arcs) out) ∧ joinM n arcs (l.foldl (tstep n arcs) out) = joinM n arcs (done ++ l)
  | [], done, out, _, _, _, h1, h2 => by simp [h1, h2]
  | k :: l, done, out, hl, hd, ho, h1, h2 => by
    have hk := hl k (by simp)
    have hP := Part.joinM ho
    rw [List.foldl_cons, show done ++ k :: l = (done ++ [k]) ++ l by simp]
    unfold tstep
    have hd' : ∀ x ∈ done ++ [k], arcIn n arcs x := fun x hx => by
      rcases List.mem_append.1 hx with h | h
      · exact hd x h
      · simp at h; rw [h]; exact hk
    split
    · rename_i hne
      refine tree_inv l (done ++ [k]) _ (fun x hx => hl x (by simp [hx])) hd' (fun x hx => ?_) (fun i hi => ?_) (by rw [joinM_snoc, joinM_snoc, h2])
      · rcases List.mem_append.1 hx with h | h
        · exact ho x h
        · simp at h; rw [h]; exact hk
      · by_cases hi2 : i < out.length
        · rw [List.take_append_of_le_length (by omega), show gt (out ++ [k]) i = gt out i by simp [gt, List.getD_eq_getElem?_getD, List.getElem?_append_left hi2]]
          exact h1 i hi2
        · have : i = out.length := by simp at hi; omega
          subst this
          rw [List.take_left, show gt (out ++ [k]) out.length = k by simp [gt, List.getD_eq_getElem?_getD]]
          exact hne
    · rename_i he
      refine tree_inv l (done ++ [k]) _ (fun x hx => hl x (by simp [hx])) hd' ho h1 ?_
      rw [joinM_snoc, ← h2]
      apply gt_ext (by rw [jstep_length])
      intro v hv
      rw [joinM_length] at hv
      rw [gt_jstep hP hv]
      have he : gt (joinM n arcs out) (rd arcs k.toNat 0).toNat = gt (joinM n arcs out) (rd arcs k.toNat 1).toNat := by simpa using he
      unfold relab
      split <;> omega
theorem okM_arcIn {n : Int} {arcs : List (List Int)} (ho : okM n arcs = true) {k : Int} (hk : 0 ≤ k ∧ k < arcs.length) : arcIn n.toNat arcs k := by
  have := okM_arc ho (j := k.toNat) (by omega)
  unfold arcIn; omega
theorem srt_mem_iff (n : Int) (arcs : List (List Int)) (ho : okM n arcs = true) (k : Int) : k ∈ ordM arcs ↔ k ∈ upto arcs.length := by
  rw [upto_mem]
  refine ⟨ordM_mem arcs k, fun hk => ?_⟩
  rw [ord_same n arcs ho, sordC]
  simp only [List.mem_flatMap, List.mem_filter, List.mem_range]
  have := okM_arc ho (j := k.toNat) (by omega)
  refine ⟨(keyA arcs k).toNat, by unfold keyA; omega, upto_mem.2 hk, by unfold keyA; simp; omega⟩
/-- What the law says of the tree. -/
structure TreeLaw (n : Nat) (arcs : List (List Int)) (L : List Int) : Prop where
  mem : ∀ k ∈ L, 0 ≤ k ∧ k < arcs.length
  all : joinM n arcs L = joinM n arcs (upto arcs.length)
  num : cnt (joinM n arcs L) n = (n : Int) - L.length
  less : ∀ i, i < L.length → joinM n arcs (L.take i ++ L.drop (i + 1)) ≠ joinM n arcs L
  once : ∀ i, i < L.length → gt L i ∉ L.take i
theorem tree_law {n : Int} {arcs : List (List Int)} (ho : okM n arcs = true) : TreeLaw n.toNat arcs (treeI n.toNat arcs) := by
  have hm : ∀ k ∈ treeI n.toNat arcs, 0 ≤ k ∧ k < arcs.length := fun k hk => by
    rcases (foldt_spec n.toNat arcs (ordM arcs) []).2 k hk with h | h
    · simp at h
    · exact ordM_mem arcs k h
  have hord : ∀ k ∈ ordM arcs, arcIn n.toNat arcs k := fun k hk => okM_arcIn ho (ordM_mem arcs k hk)
  have hin : ∀ k ∈ treeI n.toNat arcs, arcIn n.toNat arcs k := fun k hk => okM_arcIn ho (hm k hk)
  obtain ⟨he, hj⟩ := tree_inv (n := n.toNat) (arcs := arcs) (ordM arcs) [] [] hord (by simp) (by simp) (fun i hi => by simp at hi) rfl
  change Eff n.toNat arcs (treeI n.toNat arcs) at he
  change joinM n.toNat arcs (treeI n.toNat arcs) = _ at hj
  rw [List.nil_append] at hj
  generalize treeI n.toNat arcs = L at *
  have hnum : cnt (joinM n.toNat arcs L) n.toNat = (n.toNat : Int) - L.length := by
    have := he.cnt hin L.length (Nat.le_refl _)
    rwa [List.take_length] at this
  refine ⟨hm, ?_, hnum, fun i hi e => ?_, fun i hi hmem => ?_⟩
  · rw [hj]
    exact joinM_same hord (fun k hk => okM_arcIn ho (upto_mem.1 hk)) (srt_mem_iff n arcs ho)
  · have h1 := cnt_ge (n := n.toNat) (arcs := arcs) (A := L.take i ++ L.drop (i + 1)) (fun k hk => by
      rcases List.mem_append.1 hk with h | h
      · exact hin k (List.mem_of_mem_take h)
      · exact hin k (List.mem_of_mem_drop h))
    rw [e, hnum] at h1
    simp only [List.length_append, List.length_take, List.length_drop] at h1
    omega
  · exact he i hi (joinM_rel (fun k hk => hin k (List.mem_of_mem_take hk)) _ hmem)
end Go.AM
set_option linter.unusedVariables false
set_option linter.unusedSimpArgs false
set_option maxRecDepth 4000
namespace Go.AM
open Go.Proofs

def partsM (n : Int) (arcs : List (List Int)) (out : List Int) : List Int := if aokM n arcs (R out) = true then joinM n.toNat arcs out else []
theorem aokM_R {n : Int} {arcs : List (List Int)} {out : List Int} (h : aokM n arcs (R out) = true) : okM n arcs = true ∧ out.length ≤ 16 ∧ ∀ x ∈ out, 0 ≤ x ∧ x < arcs.length := by
  simp only [aokM, Bool.and_eq_true, decide_eq_true_eq, List.all_eq_true, List.mem_range, R_length] at h
  refine ⟨h.1.1, by omega, fun x hx => ?_⟩
  obtain ⟨i, hi, e⟩ := List.getElem_of_mem hx
  have := h.2 i hi
  rw [R_rd hi, List.getD_eq_getElem?_getD, List.getElem?_eq_getElem hi] at this
  have h2 := (okM_n h.1.1).2
  simp only [Option.getD_some, e, kB, inB, Bool.and_eq_true, decide_eq_true_eq] at this
  rw [IntWalk.i64_in _ (by omega)] at this
  omega
theorem aokM_of {n : Int} {arcs : List (List Int)} {out : List Int} (ho : okM n arcs = true) (hl : out.length ≤ 16) (h : ∀ x ∈ out, 0 ≤ x ∧ x < arcs.length) : aokM n arcs (R out) = true := by
  simp only [aokM, Bool.and_eq_true, decide_eq_true_eq, List.all_eq_true, List.mem_range, R_length]
  refine ⟨⟨ho, by omega⟩, fun i hi => ?_⟩
  have h3 := (okM_n ho).2
  have h2 := h _ (gt_mem hi)
  rw [R_rd hi]
  simp only [kB, inB, Bool.and_eq_true, decide_eq_true_eq]
  rw [IntWalk.i64_in _ (by omega)]
  change 0 ≤ gt out i ∧ gt out i ≤ _
  omega
theorem c_36 (n : Int) (arcs : List (List Int)) (out : List Int) (hn : arcs.length < 1000000000000) (hl : out.length < 1000000) : OK Try.prog 36 [dNet n arcs, dL out] (dL (partsM n arcs out)) := by
  have hR := R_length out
  have h108 := c_108 n arcs (R out) hn (by omega)
  by_cases ho : aokM n arcs (R out) = true
  · obtain ⟨h1, h2, h3⟩ := aokM_R ho
    have h101 := c_101 n arcs out h1 h3 (by omega)
    rw [partsM, if_pos ho]
    rw [ho] at h108
    refine W.fn 12 [.tmp 4] hTT Try.func36 rfl rfl rfl rfl rfl rfl rfl rfl ?_
    repeat' (first
     | ((with_reducible apply v_call 4000000 (h108)); (iterate 3 (· exact rfl)); (· repeat' (first | exact DVsOf.nil | apply DVsOf.cons | apply DVof.one | apply DVof.agg | exact DCof.c | exact DCof.nil | exact DCof.nils | ((apply DCof.r); (iterate 2 (· exact rfl))) | ((apply DCof.rs); (iterate 2 (· exact rfl))) | ((apply DCof.mu); (· exact rfl)) | exact DCsOf.nil | apply DCsOf.cons | ((apply DVof_mp); (· exact rfl)) | ((apply DVof_ptr); (iterate 2 (· exact rfl))) | apply DVof.fn | exact DPsOf.nil | ((apply DPsOf_cons); (iterate 2 (· exact rfl))) | exact rfl)); (iterate 4 (· exact rfl)))
     | ((with_reducible apply v_call 60000 (h101)); (iterate 3 (· exact rfl)); (· repeat' (first | exact DVsOf.nil | apply DVsOf.cons | apply DVof.one | apply DVof.agg | exact DCof.c | exact DCof.nil | exact DCof.nils | ((apply DCof.r); (iterate 2 (· exact rfl))) | ((apply DCof.rs); (iterate 2 (· exact rfl))) | ((apply DCof.mu); (· exact rfl)) | exact DCsOf.nil | apply DCsOf.cons | ((apply DVof_mp); (· exact rfl)) | ((apply DVof_ptr); (iterate 2 (· exact rfl))) | apply DVof.fn | exact DPsOf.nil | ((apply DPsOf_cons); (iterate 2 (· exact rfl))) | exact rfl)); (iterate 4 (· exact rfl)))
     | ((with_reducible apply v_mv); (iterate 3 (· exact rfl)))
     | ((with_reducible apply v_as); (iterate 3 (· exact rfl)))
     | ((with_reducible apply v_fa); (iterate 6 (· exact rfl)))
     | ((with_reducible apply v_far); (iterate 6 (· exact rfl)))
     | ((with_reducible apply v_ia); (iterate 8 (· exact rfl)); (iterate 2 (· first | omega | (simp only [lens, List.length_map, List.length_range]; omega))))
     | ((with_reducible apply v_lr_i64); (iterate 7 (· exact rfl)); (· first | omega | (simp only [lens, List.length_map, List.length_range]; omega)))
     | ((with_reducible apply v_ld); (iterate 6 (· exact rfl)))
     | ((with_reducible apply v_st); (iterate 7 (· exact rfl)))
     | ((with_reducible apply v_sr); (iterate 7 (· exact rfl)); (· first | omega | (simp only [lens, List.length_map, List.length_range]; omega)))
     | ((with_reducible apply v_srN); (iterate 7 (· exact rfl)); (· repeat' (first | exact RowC.nil | apply RowC.i | apply RowC.b)); (· first | omega | (simp only [lens, List.length_map, List.length_range]; omega)))
     | ((with_reducible apply v_tgt); (iterate 9 (· exact rfl)); (iterate 3 (· first | omega | (simp only [lens, List.length_map, List.length_range]; omega))); (· exact rfl))
     | ((with_reducible apply v_mks); (iterate 10 (· exact rfl)); (iterate 3 (· first | omega | (simp only [lens, List.length_map, List.length_range]; omega))))
     | ((with_reducible apply v_ext); (iterate 5 (· exact rfl)))
     | ((with_reducible apply v_cnv); (iterate 6 (· exact rfl)))
     | ((with_reducible apply v_min); (iterate 4 (· exact rfl)))
     | ((with_reducible apply v_max); (iterate 4 (· exact rfl)))
     | ((with_reducible apply v_ncr); (iterate 4 (· exact rfl)))
     | ((with_reducible apply v_ncp); (iterate 3 (· exact rfl)))
     | ((with_reducible apply v_lr_b); (iterate 7 (· exact rfl)); (· first | omega | (simp only [lens, List.length_map, List.length_range]; omega)))
     | ((with_reducible apply v_lr_u8); (iterate 7 (· exact rfl)); (· first | omega | (simp only [lens, List.length_map, List.length_range]; omega)))
     | ((with_reducible apply v_mkf); (iterate 3 (· exact rfl)))
     | ((with_reducible apply v_lss); (iterate 4 (· exact rfl)))
     | ((with_reducible apply v_leq); (iterate 4 (· exact rfl)))
     | ((with_reducible apply v_gtr); (iterate 4 (· exact rfl)))
     | ((with_reducible apply v_geq); (iterate 4 (· exact rfl)))
     | ((with_reducible apply v_eql); (iterate 4 (· exact rfl)))
     | ((with_reducible apply v_neq); (iterate 4 (· exact rfl)))
     | ((with_reducible apply v_add); (iterate 4 (· exact rfl)); (· first | omega | (simp only [lens, List.length_map, List.length_range]; omega)))
     | ((with_reducible apply v_sub); (iterate 4 (· exact rfl)); (· first | omega | (simp only [lens, List.length_map, List.length_range]; omega)))
     | ((with_reducible apply v_pkT); (iterate 4 (· exact rfl)))
     | ((with_reducible apply v_pkF); (iterate 4 (· exact rfl)))
     | ((with_reducible apply v_not); (iterate 3 (· exact rfl)))
     | ((with_reducible apply v_len); (iterate 5 (· exact rfl)))
     | ((with_reducible apply v_lenn); (iterate 4 (· exact rfl)))
     | ((with_reducible apply v_lit); (iterate 9 (· exact rfl)); (· repeat' (first | exact PartsC.nil | ((apply PartsC.cons); (· exact rfl)) | exact RowC.nil | apply RowC.i | apply RowC.b)))
     | ((with_reducible apply v_ap); (iterate 11 (· exact rfl)); (· first | omega | (simp only [lens, List.length_map, List.length_range]; omega)))
     | ((with_reducible apply v_ap0); (iterate 10 (· exact rfl)); (· first | omega | (simp only [lens, List.length_map, List.length_range]; omega)))
     | ((with_reducible apply v_alc); (iterate 5 (· exact rfl)))
     | ((with_reducible apply v_box); (iterate 4 (· exact rfl)))
     | ((with_reducible apply v_ldN); (iterate 7 (· exact rfl)))
     | ((with_reducible apply v_lrN); (iterate 8 (· exact rfl)); (· first | omega | (simp only [lens, List.length_map, List.length_range]; omega)))
     | ((with_reducible apply v_fld); (iterate 5 (· exact rfl)); (· kernel_rfl))
     | ((with_reducible apply v_bld); (iterate 6 (· exact rfl)))
     | ((with_reducible apply v_no); (iterate 2 (· exact rfl)))
     | ((with_reducible apply v_no'); (· exact rfl))
     | ((with_reducible apply v_ift); (iterate 2 (· exact rfl)); (· infer_instance))
     | ((with_reducible apply v_iff); (iterate 2 (· exact rfl)); (· infer_instance))
     | ((with_reducible apply v_pif); (· exact rfl); (· infer_instance))
     | (with_reducible apply vo_nil0)
     | ((with_reducible apply vo_nil); (· kernel_rfl))
     | (with_reducible apply w_rs)
     | ((with_reducible apply w_ds); (rotate_left); (iterate 2 (· kernel_rfl)))
     | (with_reducible apply w_r)
     | ((with_reducible apply w_d); (rotate_left); (iterate 2 (· kernel_rfl)))
     | (with_reducible apply w_sks)
     | (with_reducible apply W.skp)
     | (with_reducible apply W.ext)
     | (with_reducible apply W.rt)
     | (with_reducible apply w_blk)
     | ((with_reducible apply W.cT); (· exact rfl))
     | ((with_reducible apply W.cF); (· exact rfl))
     | ((with_reducible apply W.cn); (· exact rfl); (· infer_instance))
     | (with_reducible apply W.sq)
     | (with_reducible apply q_tn)
     | (with_reducible apply q_te)
     | (with_reducible apply q_tr)
     | (with_reducible apply q_bn)
     | (with_reducible apply q_br)
     | ((with_reducible apply q_be); (· exact rfl))
     | ((with_reducible apply q_bx); (· exact rfl))
     | (with_reducible apply q_er)
     | (with_reducible apply q_en)
     | (with_reducible apply q_her)
     | (with_reducible apply q_hen)
     | (intro _))
    exact e_vec rfl rfl rfl rfl
  · rw [partsM, if_neg ho]
    rw [show aokM n arcs (R out) = false by simpa using ho] at h108
    refine W.fn 12 [.tmp 4] hTT Try.func36 rfl rfl rfl rfl rfl rfl rfl rfl ?_
    repeat' (first
     | ((with_reducible apply v_call 4000000 (h108)); (iterate 3 (· exact rfl)); (· repeat' (first | exact DVsOf.nil | apply DVsOf.cons | apply DVof.one | apply DVof.agg | exact DCof.c | exact DCof.nil | exact DCof.nils | ((apply DCof.r); (iterate 2 (· exact rfl))) | ((apply DCof.rs); (iterate 2 (· exact rfl))) | ((apply DCof.mu); (· exact rfl)) | exact DCsOf.nil | apply DCsOf.cons | ((apply DVof_mp); (· exact rfl)) | ((apply DVof_ptr); (iterate 2 (· exact rfl))) | apply DVof.fn | exact DPsOf.nil | ((apply DPsOf_cons); (iterate 2 (· exact rfl))) | exact rfl)); (iterate 4 (· exact rfl)))
     | ((with_reducible apply v_mv); (iterate 3 (· exact rfl)))
     | ((with_reducible apply v_as); (iterate 3 (· exact rfl)))
     | ((with_reducible apply v_fa); (iterate 6 (· exact rfl)))
     | ((with_reducible apply v_far); (iterate 6 (· exact rfl)))
     | ((with_reducible apply v_ia); (iterate 8 (· exact rfl)); (iterate 2 (· first | omega | (simp only [lens, List.length_map, List.length_range]; omega))))
     | ((with_reducible apply v_lr_i64); (iterate 7 (· exact rfl)); (· first | omega | (simp only [lens, List.length_map, List.length_range]; omega)))
     | ((with_reducible apply v_ld); (iterate 6 (· exact rfl)))
     | ((with_reducible apply v_st); (iterate 7 (· exact rfl)))
     | ((with_reducible apply v_sr); (iterate 7 (· exact rfl)); (· first | omega | (simp only [lens, List.length_map, List.length_range]; omega)))
     | ((with_reducible apply v_srN); (iterate 7 (· exact rfl)); (· repeat' (first | exact RowC.nil | apply RowC.i | apply RowC.b)); (· first | omega | (simp only [lens, List.length_map, List.length_range]; omega)))
     | ((with_reducible apply v_tgt); (iterate 9 (· exact rfl)); (iterate 3 (· first | omega | (simp only [lens, List.length_map, List.length_range]; omega))); (· exact rfl))
     | ((with_reducible apply v_mks); (iterate 10 (· exact rfl)); (iterate 3 (· first | omega | (simp only [lens, List.length_map, List.length_range]; omega))))
     | ((with_reducible apply v_ext); (iterate 5 (· exact rfl)))
     | ((with_reducible apply v_cnv); (iterate 6 (· exact rfl)))
     | ((with_reducible apply v_min); (iterate 4 (· exact rfl)))
     | ((with_reducible apply v_max); (iterate 4 (· exact rfl)))
     | ((with_reducible apply v_ncr); (iterate 4 (· exact rfl)))
     | ((with_reducible apply v_ncp); (iterate 3 (· exact rfl)))
     | ((with_reducible apply v_lr_b); (iterate 7 (· exact rfl)); (· first | omega | (simp only [lens, List.length_map, List.length_range]; omega)))
     | ((with_reducible apply v_lr_u8); (iterate 7 (· exact rfl)); (· first | omega | (simp only [lens, List.length_map, List.length_range]; omega)))
     | ((with_reducible apply v_mkf); (iterate 3 (· exact rfl)))
     | ((with_reducible apply v_lss); (iterate 4 (· exact rfl)))
     | ((with_reducible apply v_leq); (iterate 4 (· exact rfl)))
     | ((with_reducible apply v_gtr); (iterate 4 (· exact rfl)))
     | ((with_reducible apply v_geq); (iterate 4 (· exact rfl)))
     | ((with_reducible apply v_eql); (iterate 4 (· exact rfl)))
     | ((with_reducible apply v_neq); (iterate 4 (· exact rfl)))
     | ((with_reducible apply v_add); (iterate 4 (· exact rfl)); (· first | omega | (simp only [lens, List.length_map, List.length_range]; omega)))
     | ((with_reducible apply v_sub); (iterate 4 (· exact rfl)); (· first | omega | (simp only [lens, List.length_map, List.length_range]; omega)))
     | ((with_reducible apply v_pkT); (iterate 4 (· exact rfl)))
     | ((with_reducible apply v_pkF); (iterate 4 (· exact rfl)))
     | ((with_reducible apply v_not); (iterate 3 (· exact rfl)))
     | ((with_reducible apply v_len); (iterate 5 (· exact rfl)))
     | ((with_reducible apply v_lenn); (iterate 4 (· exact rfl)))
     | ((with_reducible apply v_lit); (iterate 9 (· exact rfl)); (· repeat' (first | exact PartsC.nil | ((apply PartsC.cons); (· exact rfl)) | exact RowC.nil | apply RowC.i | apply RowC.b)))
     | ((with_reducible apply v_ap); (iterate 11 (· exact rfl)); (· first | omega | (simp only [lens, List.length_map, List.length_range]; omega)))
     | ((with_reducible apply v_ap0); (iterate 10 (· exact rfl)); (· first | omega | (simp only [lens, List.length_map, List.length_range]; omega)))
     | ((with_reducible apply v_alc); (iterate 5 (· exact rfl)))
     | ((with_reducible apply v_box); (iterate 4 (· exact rfl)))
     | ((with_reducible apply v_ldN); (iterate 7 (· exact rfl)))
     | ((with_reducible apply v_lrN); (iterate 8 (· exact rfl)); (· first | omega | (simp only [lens, List.length_map, List.length_range]; omega)))
     | ((with_reducible apply v_fld); (iterate 5 (· exact rfl)); (· kernel_rfl))
     | ((with_reducible apply v_bld); (iterate 6 (· exact rfl)))
     | ((with_reducible apply v_no); (iterate 2 (· exact rfl)))
     | ((with_reducible apply v_no'); (· exact rfl))
     | ((with_reducible apply v_ift); (iterate 2 (· exact rfl)); (· infer_instance))
     | ((with_reducible apply v_iff); (iterate 2 (· exact rfl)); (· infer_instance))
     | ((with_reducible apply v_pif); (· exact rfl); (· infer_instance))
     | (with_reducible apply vo_nil0)
     | ((with_reducible apply vo_nil); (· kernel_rfl))
     | (with_reducible apply w_rs)
     | ((with_reducible apply w_ds); (rotate_left); (iterate 2 (· kernel_rfl)))
     | (with_reducible apply w_r)
     | ((with_reducible apply w_d); (rotate_left); (iterate 2 (· kernel_rfl)))
     | (with_reducible apply w_sks)
     | (with_reducible apply W.skp)
     | (with_reducible apply W.ext)
     | (with_reducible apply W.rt)
     | (with_reducible apply w_blk)
     | ((with_reducible apply W.cT); (· exact rfl))
     | ((with_reducible apply W.cF); (· exact rfl))
     | ((with_reducible apply W.cn); (· exact rfl); (· infer_instance))
     | (with_reducible apply W.sq)
     | (with_reducible apply q_tn)
     | (with_reducible apply q_te)
     | (with_reducible apply q_tr)
     | (with_reducible apply q_bn)
     | (with_reducible apply q_br)
     | ((with_reducible apply q_be); (· exact rfl))
     | ((with_reducible apply q_bx); (· exact rfl))
     | (with_reducible apply q_er)
     | (with_reducible apply q_en)
     | (with_reducible apply q_her)
     | (with_reducible apply q_hen)
     | (intro _))
    exact e_nil rfl rfl rfl
theorem eqI_R (a b : List Int) : eqI (R a) (R b) = decide (a = b) := by
  by_cases h : a = b
  · subst h; rw [eqI_refl, decide_eq_true rfl]
  · rw [decide_eq_false h]
    cases hc : eqI (R a) (R b) with
    | false => rfl
    | true =>
    exfalso
    simp only [eqI, Bool.and_eq_true, decide_eq_true_eq, List.all_eq_true, List.mem_range, R_length, beq_iff_eq] at hc
    apply h
    apply gt_ext (by omega)
    intro v hv
    have := hc.2 v hv
    rwa [R_rd hv, R_rd (by omega)] at this
end Go.AM
set_option linter.unusedVariables false
set_option linter.unusedSimpArgs false
set_option maxRecDepth 4000
namespace Go.AM
open Go.Proofs

theorem c_4big (b : List (List Int)) (h1 : 1048576 < b.length) (h2 : b.length ≤ 9223372036854775807) : HOK Try.prog 4 ⟨codeA b, codeP b, .one (.c (.bool true)), []⟩ := by
  refine W.hfn 107 [.tmp 2] hTT Try.func4 rfl rfl rfl rfl rfl rfl rfl ?_
  repeat' (first
   | ((with_reducible apply v_mv); (iterate 3 (· exact rfl)))
   | ((with_reducible apply v_as); (iterate 3 (· exact rfl)))
   | ((with_reducible apply v_fa); (iterate 6 (· exact rfl)))
   | ((with_reducible apply v_far); (iterate 6 (· exact rfl)))
   | ((with_reducible apply v_ia); (iterate 8 (· exact rfl)); (iterate 2 (· first | omega | (simp only [lens, List.length_map, List.length_range]; omega))))
   | ((with_reducible apply v_lr_i64); (iterate 7 (· exact rfl)); (· first | omega | (simp only [lens, List.length_map, List.length_range]; omega)))
   | ((with_reducible apply v_ld); (iterate 6 (· exact rfl)))
   | ((with_reducible apply v_st); (iterate 7 (· exact rfl)))
   | ((with_reducible apply v_sr); (iterate 7 (· exact rfl)); (· first | omega | (simp only [lens, List.length_map, List.length_range]; omega)))
   | ((with_reducible apply v_srN); (iterate 7 (· exact rfl)); (· repeat' (first | exact RowC.nil | apply RowC.i | apply RowC.b)); (· first | omega | (simp only [lens, List.length_map, List.length_range]; omega)))
   | ((with_reducible apply v_tgt); (iterate 9 (· exact rfl)); (iterate 3 (· first | omega | (simp only [lens, List.length_map, List.length_range]; omega))); (· exact rfl))
   | ((with_reducible apply v_mks); (iterate 10 (· exact rfl)); (iterate 3 (· first | omega | (simp only [lens, List.length_map, List.length_range]; omega))))
   | ((with_reducible apply v_ext); (iterate 5 (· exact rfl)))
   | ((with_reducible apply v_cnv); (iterate 6 (· exact rfl)))
   | ((with_reducible apply v_min); (iterate 4 (· exact rfl)))
   | ((with_reducible apply v_max); (iterate 4 (· exact rfl)))
   | ((with_reducible apply v_ncr); (iterate 4 (· exact rfl)))
   | ((with_reducible apply v_ncp); (iterate 3 (· exact rfl)))
   | ((with_reducible apply v_lr_b); (iterate 7 (· exact rfl)); (· first | omega | (simp only [lens, List.length_map, List.length_range]; omega)))
   | ((with_reducible apply v_lr_u8); (iterate 7 (· exact rfl)); (· first | omega | (simp only [lens, List.length_map, List.length_range]; omega)))
   | ((with_reducible apply v_mkf); (iterate 3 (· exact rfl)))
   | ((with_reducible apply v_lss); (iterate 4 (· exact rfl)))
   | ((with_reducible apply v_leq); (iterate 4 (· exact rfl)))
   | ((with_reducible apply v_gtr); (iterate 4 (· exact rfl)))
   | ((with_reducible apply v_geq); (iterate 4 (· exact rfl)))
   | ((with_reducible apply v_eql); (iterate 4 (· exact rfl)))
   | ((with_reducible apply v_neq); (iterate 4 (· exact rfl)))
   | ((with_reducible apply v_add); (iterate 4 (· exact rfl)); (· first | omega | (simp only [lens, List.length_map, List.length_range]; omega)))
   | ((with_reducible apply v_sub); (iterate 4 (· exact rfl)); (· first | omega | (simp only [lens, List.length_map, List.length_range]; omega)))
   | ((with_reducible apply v_pkT); (iterate 4 (· exact rfl)))
   | ((with_reducible apply v_pkF); (iterate 4 (· exact rfl)))
   | ((with_reducible apply v_not); (iterate 3 (· exact rfl)))
   | ((with_reducible apply v_len); (iterate 5 (· exact rfl)))
   | ((with_reducible apply v_lenn); (iterate 4 (· exact rfl)))
   | ((with_reducible apply v_lit); (iterate 9 (· exact rfl)); (· repeat' (first | exact PartsC.nil | ((apply PartsC.cons); (· exact rfl)) | exact RowC.nil | apply RowC.i | apply RowC.b)))
   | ((with_reducible apply v_ap); (iterate 11 (· exact rfl)); (· first | omega | (simp only [lens, List.length_map, List.length_range]; omega)))
   | ((with_reducible apply v_ap0); (iterate 10 (· exact rfl)); (· first | omega | (simp only [lens, List.length_map, List.length_range]; omega)))
   | ((with_reducible apply v_alc); (iterate 5 (· exact rfl)))
   | ((with_reducible apply v_box); (iterate 4 (· exact rfl)))
   | ((with_reducible apply v_ldN); (iterate 7 (· exact rfl)))
   | ((with_reducible apply v_lrN); (iterate 8 (· exact rfl)); (· first | omega | (simp only [lens, List.length_map, List.length_range]; omega)))
   | ((with_reducible apply v_fld); (iterate 5 (· exact rfl)); (· kernel_rfl))
   | ((with_reducible apply v_bld); (iterate 6 (· exact rfl)))
   | ((with_reducible apply v_no); (iterate 2 (· exact rfl)))
   | ((with_reducible apply v_no'); (· exact rfl))
   | ((with_reducible apply v_ift); (iterate 2 (· exact rfl)); (· infer_instance))
   | ((with_reducible apply v_iff); (iterate 2 (· exact rfl)); (· infer_instance))
   | ((with_reducible apply v_pif); (· exact rfl); (· infer_instance))
   | (with_reducible apply vo_nil0)
   | ((with_reducible apply vo_nil); (· kernel_rfl))
   | (with_reducible apply w_rs)
   | ((with_reducible apply w_ds); (rotate_left); (iterate 2 (· kernel_rfl)))
   | (with_reducible apply w_r)
   | ((with_reducible apply w_d); (rotate_left); (iterate 2 (· kernel_rfl)))
   | (with_reducible apply w_sks)
   | (with_reducible apply W.skp)
   | (with_reducible apply W.ext)
   | (with_reducible apply W.rt)
   | (with_reducible apply w_blk)
   | ((with_reducible apply W.cT); (· exact rfl))
   | ((with_reducible apply W.cF); (· exact rfl))
   | ((with_reducible apply W.cn); (· exact rfl); (· infer_instance))
   | (with_reducible apply W.sq)
   | (with_reducible apply q_tn)
   | (with_reducible apply q_te)
   | (with_reducible apply q_tr)
   | (with_reducible apply q_bn)
   | (with_reducible apply q_br)
   | ((with_reducible apply q_be); (· exact rfl))
   | ((with_reducible apply q_bx); (· exact rfl))
   | (with_reducible apply q_er)
   | (with_reducible apply q_en)
   | (with_reducible apply q_her)
   | (with_reducible apply q_hen)
   | (intro _))
  · ((apply e_h []); (· repeat' (first | exact ResVs.nil | ((apply r_tmp); (· exact rfl)) | ((apply r_cellN); (iterate 5 (· exact rfl))) | ((apply r_cell1); (iterate 4 (· exact rfl))))); (· exact rfl); (· exact rfl); (· repeat' (first | exact PostOf.nil | ((apply p_cons); (iterate 2 (· exact rfl))))); (· exact rfl))
  · exfalso; omega
theorem c_4 (b : List (List Int)) (hb : By b) (hl : b.length ≤ 1048576) : HOK Try.prog 4 ⟨codeA b, codeP b, .one (.c (.bool true)), []⟩ := by
  have h31 : HOK Try.prog 31 ⟨codeA b, codeP b, .agg [.c (.int .i64 (dN b)), .r 1], [(1, .vec 54 i5 (dA b))]⟩ := c_31 b hb (by omega)
  have hal := anyA_bd (cut2 b) 0
  change (dA b).length ≤ 13 at hal
  generalize dN b = n at *
  generalize dA b = arcs at *
  have h34 := c_34 n arcs (by omega)
  have h32 := c_32 n arcs (by omega)
  have h35 := c_35 n arcs (by omega)
  by_cases ho : okM n arcs = true
  · rw [if_pos ho] at h32 h34
    rw [← treeI_treeS n arcs ho] at h34
    obtain ⟨t1, t2, t3, t4, t5⟩ := tree_law ho
    have hln : (treeI n.toNat arcs).length ≤ 13 := by have := (foldt_spec n.toNat arcs (ordM arcs) []).1; rw [ordM_length] at this; simp at this; simp only [treeI]; omega
    generalize treeI n.toNat arcs = L at *
    have hRL := R_length L
    have h33 := c_33 (R L) (R L) (by omega)
    rw [eqI_refl] at h33
    rw [ho] at h35
    have hn := (okM_n ho).1
    have hP : partsM n arcs (upto arcs.length) = joinM n.toNat arcs (upto arcs.length) := by rw [partsM, if_pos (aokM_of ho (by rw [upto_length]; omega) (fun x hx => upto_mem.1 hx))]
    have h36 := c_36 n arcs (upto arcs.length) (by omega) (by rw [upto_length]; omega)
    rw [hP] at h36
    have hPL : partsM n arcs L = joinM n.toNat arcs L := by rw [partsM, if_pos (aokM_of ho (by omega) t1)]
    have h36L := c_36 n arcs L (by omega) (by omega)
    rw [hPL] at h36L
    rw [← t2] at h36
    have hless : ∀ i, i < L.length → joinM n.toNat arcs (L.take i ++ L.drop (i + 1)) = partsM n arcs (L.take i ++ L.drop (i + 1)) := fun i hi => by
      rw [partsM, if_pos (aokM_of ho (by simp; omega) (fun x hx => ?_))]
      rcases List.mem_append.1 hx with h | h
      · exact t1 x (List.mem_of_mem_take h)
      · exact t1 x (List.mem_of_mem_drop h)
    have hjl := joinM_length n.toNat arcs L
    generalize hPP : joinM n.toNat arcs L = P at *
    have hRP := R_length P
    have h33P := c_33 (R P) (R P) (by omega)
    rw [eqI_refl] at h33P
    refine W.hfn 107 [.tmp 2] hTT Try.func4 rfl rfl rfl rfl rfl rfl rfl ?_
    repeat' (first
     | ((with_reducible apply v_hcall [91000] (h31)); (iterate 6 (· exact rfl)); (· repeat' (first | exact PreOf.nil | ((apply PreOf.same); (iterate 2 (· exact rfl))) | ((apply PreOf.ro); (iterate 2 (· exact rfl))) | ((apply PreOf.sro); (iterate 2 (· exact rfl))) | ((apply PreOf.rbox); (iterate 3 (· exact rfl))))); (iterate 2 (· exact rfl)))
     | ((with_reducible apply v_call 92000 (h32)); (iterate 3 (· exact rfl)); (· repeat' (first | exact DVsOf.nil | apply DVsOf.cons | apply DVof.one | apply DVof.agg | exact DCof.c | exact DCof.nil | exact DCof.nils | ((apply DCof.r); (iterate 2 (· exact rfl))) | ((apply DCof.rs); (iterate 2 (· exact rfl))) | ((apply DCof.mu); (· exact rfl)) | exact DCsOf.nil | apply DCsOf.cons | ((apply DVof_mp); (· exact rfl)) | ((apply DVof_ptr); (iterate 2 (· exact rfl))) | apply DVof.fn | exact DPsOf.nil | ((apply DPsOf_cons); (iterate 2 (· exact rfl))) | exact rfl)); (iterate 4 (· exact rfl)))
     | ((with_reducible apply v_call 93000 (h34)); (iterate 3 (· exact rfl)); (· repeat' (first | exact DVsOf.nil | apply DVsOf.cons | apply DVof.one | apply DVof.agg | exact DCof.c | exact DCof.nil | exact DCof.nils | ((apply DCof.r); (iterate 2 (· exact rfl))) | ((apply DCof.rs); (iterate 2 (· exact rfl))) | ((apply DCof.mu); (· exact rfl)) | exact DCsOf.nil | apply DCsOf.cons | ((apply DVof_mp); (· exact rfl)) | ((apply DVof_ptr); (iterate 2 (· exact rfl))) | apply DVof.fn | exact DPsOf.nil | ((apply DPsOf_cons); (iterate 2 (· exact rfl))) | exact rfl)); (iterate 4 (· exact rfl)))
     | ((with_reducible apply v_call 4000000 (h33)); (iterate 3 (· exact rfl)); (· repeat' (first | exact DVsOf.nil | apply DVsOf.cons | apply DVof.one | apply DVof.agg | exact DCof.c | exact DCof.nil | exact DCof.nils | ((apply DCof.r); (iterate 2 (· exact rfl))) | ((apply DCof.rs); (iterate 2 (· exact rfl))) | ((apply DCof.mu); (· exact rfl)) | exact DCsOf.nil | apply DCsOf.cons | ((apply DVof_mp); (· exact rfl)) | ((apply DVof_ptr); (iterate 2 (· exact rfl))) | apply DVof.fn | exact DPsOf.nil | ((apply DPsOf_cons); (iterate 2 (· exact rfl))) | exact rfl)); (iterate 4 (· exact rfl)))
     | ((with_reducible apply v_call 4000000 (h35)); (iterate 3 (· exact rfl)); (· repeat' (first | exact DVsOf.nil | apply DVsOf.cons | apply DVof.one | apply DVof.agg | exact DCof.c | exact DCof.nil | exact DCof.nils | ((apply DCof.r); (iterate 2 (· exact rfl))) | ((apply DCof.rs); (iterate 2 (· exact rfl))) | ((apply DCof.mu); (· exact rfl)) | exact DCsOf.nil | apply DCsOf.cons | ((apply DVof_mp); (· exact rfl)) | ((apply DVof_ptr); (iterate 2 (· exact rfl))) | apply DVof.fn | exact DPsOf.nil | ((apply DPsOf_cons); (iterate 2 (· exact rfl))) | exact rfl)); (iterate 4 (· exact rfl)))
     | ((with_reducible apply v_mv); (iterate 3 (· exact rfl)))
     | ((with_reducible apply v_as); (iterate 3 (· exact rfl)))
     | ((with_reducible apply v_fa); (iterate 6 (· exact rfl)))
     | ((with_reducible apply v_far); (iterate 6 (· exact rfl)))
     | ((with_reducible apply v_ia); (iterate 8 (· exact rfl)); (iterate 2 (· first | omega | (simp only [lens, List.length_map, List.length_range]; omega))))
     | ((with_reducible apply v_lr_i64); (iterate 7 (· exact rfl)); (· first | omega | (simp only [lens, List.length_map, List.length_range]; omega)))
     | ((with_reducible apply v_ld); (iterate 6 (· exact rfl)))
     | ((with_reducible apply v_st); (iterate 7 (· exact rfl)))
     | ((with_reducible apply v_sr); (iterate 7 (· exact rfl)); (· first | omega | (simp only [lens, List.length_map, List.length_range]; omega)))
     | ((with_reducible apply v_srN); (iterate 7 (· exact rfl)); (· repeat' (first | exact RowC.nil | apply RowC.i | apply RowC.b)); (· first | omega | (simp only [lens, List.length_map, List.length_range]; omega)))
     | ((with_reducible apply v_tgt); (iterate 9 (· exact rfl)); (iterate 3 (· first | omega | (simp only [lens, List.length_map, List.length_range]; omega))); (· exact rfl))
     | ((with_reducible apply v_mks); (iterate 10 (· exact rfl)); (iterate 3 (· first | omega | (simp only [lens, List.length_map, List.length_range]; omega))))
     | ((with_reducible apply v_ext); (iterate 5 (· exact rfl)))
     | ((with_reducible apply v_cnv); (iterate 6 (· exact rfl)))
     | ((with_reducible apply v_min); (iterate 4 (· exact rfl)))
     | ((with_reducible apply v_max); (iterate 4 (· exact rfl)))
     | ((with_reducible apply v_ncr); (iterate 4 (· exact rfl)))
     | ((with_reducible apply v_ncp); (iterate 3 (· exact rfl)))
     | ((with_reducible apply v_lr_b); (iterate 7 (· exact rfl)); (· first | omega | (simp only [lens, List.length_map, List.length_range]; omega)))
     | ((with_reducible apply v_lr_u8); (iterate 7 (· exact rfl)); (· first | omega | (simp only [lens, List.length_map, List.length_range]; omega)))
     | ((with_reducible apply v_mkf); (iterate 3 (· exact rfl)))
     | ((with_reducible apply v_lss); (iterate 4 (· exact rfl)))
     | ((with_reducible apply v_leq); (iterate 4 (· exact rfl)))
     | ((with_reducible apply v_gtr); (iterate 4 (· exact rfl)))
     | ((with_reducible apply v_geq); (iterate 4 (· exact rfl)))
     | ((with_reducible apply v_eql); (iterate 4 (· exact rfl)))
     | ((with_reducible apply v_neq); (iterate 4 (· exact rfl)))
     | ((with_reducible apply v_add); (iterate 4 (· exact rfl)); (· first | omega | (simp only [lens, List.length_map, List.length_range]; omega)))
     | ((with_reducible apply v_sub); (iterate 4 (· exact rfl)); (· first | omega | (simp only [lens, List.length_map, List.length_range]; omega)))
     | ((with_reducible apply v_pkT); (iterate 4 (· exact rfl)))
     | ((with_reducible apply v_pkF); (iterate 4 (· exact rfl)))
     | ((with_reducible apply v_not); (iterate 3 (· exact rfl)))
     | ((with_reducible apply v_len); (iterate 5 (· exact rfl)))
     | ((with_reducible apply v_lenn); (iterate 4 (· exact rfl)))
     | ((with_reducible apply v_lit); (iterate 9 (· exact rfl)); (· repeat' (first | exact PartsC.nil | ((apply PartsC.cons); (· exact rfl)) | exact RowC.nil | apply RowC.i | apply RowC.b)))
     | ((with_reducible apply v_ap); (iterate 11 (· exact rfl)); (· first | omega | (simp only [lens, List.length_map, List.length_range]; omega)))
     | ((with_reducible apply v_ap0); (iterate 10 (· exact rfl)); (· first | omega | (simp only [lens, List.length_map, List.length_range]; omega)))
     | ((with_reducible apply v_alc); (iterate 5 (· exact rfl)))
     | ((with_reducible apply v_box); (iterate 4 (· exact rfl)))
     | ((with_reducible apply v_ldN); (iterate 7 (· exact rfl)))
     | ((with_reducible apply v_lrN); (iterate 8 (· exact rfl)); (· first | omega | (simp only [lens, List.length_map, List.length_range]; omega)))
     | ((with_reducible apply v_fld); (iterate 5 (· exact rfl)); (· kernel_rfl))
     | ((with_reducible apply v_bld); (iterate 6 (· exact rfl)))
     | ((with_reducible apply v_no); (iterate 2 (· exact rfl)))
     | ((with_reducible apply v_no'); (· exact rfl))
     | ((with_reducible apply v_ift); (iterate 2 (· exact rfl)); (· infer_instance))
     | ((with_reducible apply v_iff); (iterate 2 (· exact rfl)); (· infer_instance))
     | ((with_reducible apply v_pif); (· exact rfl); (· infer_instance))
     | (with_reducible apply vo_nil0)
     | ((with_reducible apply vo_nil); (· kernel_rfl))
     | (with_reducible apply w_rs)
     | ((with_reducible apply w_ds); (rotate_left); (iterate 2 (· kernel_rfl)))
     | (with_reducible apply w_r)
     | ((with_reducible apply w_d); (rotate_left); (iterate 2 (· kernel_rfl)))
     | (with_reducible apply w_sks)
     | (with_reducible apply W.skp)
     | (with_reducible apply W.ext)
     | (with_reducible apply W.rt)
     | (with_reducible apply w_blk)
     | ((with_reducible apply W.cT); (· exact rfl))
     | ((with_reducible apply W.cF); (· exact rfl))
     | ((with_reducible apply W.cn); (· exact rfl); (· infer_instance))
     | (with_reducible apply W.sq)
     | (with_reducible apply q_tn)
     | (with_reducible apply q_te)
     | (with_reducible apply q_tr)
     | (with_reducible apply q_bn)
     | (with_reducible apply q_br)
     | ((with_reducible apply q_be); (· exact rfl))
     | ((with_reducible apply q_bx); (· exact rfl))
     | (with_reducible apply q_er)
     | (with_reducible apply q_en)
     | (with_reducible apply q_her)
     | (with_reducible apply q_hen)
     | (intro _))
    · ((apply e_h []); (· repeat' (first | exact ResVs.nil | ((apply r_tmp); (· exact rfl)) | ((apply r_cellN); (iterate 5 (· exact rfl))) | ((apply r_cell1); (iterate 4 (· exact rfl))))); (· exact rfl); (· exact rfl); (· repeat' (first | exact PostOf.nil | ((apply p_cons); (iterate 2 (· exact rfl))))); (· exact rfl))
    refine W.lop (X := Nat) (fun i => mk 107 [(2, .one (.c (.bool false))), (3, .one (.r 3)), (4, .one (.r 92000)), (5, .one (.r 33)), (6, .one (.c (.int .i64 i)))] [(3, some (.box 30 [.c (.int .i64 n), .r 91000])), (91000, some (.vec 54 i5 arcs)), (92000, some (.vec 3 i1 (R L))), (33, some (.vec 3 i1 (R (upto i)))), (5000, some (.ro u1 b))] [33, 92000, 3, 91000]) (fun i => i ≤ arcs.length) (fun i => arcs.length - i) 0 ?_ ?_ ?_
    · exact (Wk.list [] (by repeat' (first | exact TW.nil | refine TW.cons rfl ?_)) (by repeat' (first | exact HW.nil | refine HW.cons rfl ?_)) rfl)
    · omega
    · intro i h1
      have hul := upto_length i
      have hRl := R_length (upto i)
      by_cases hi : i < arcs.length
      · repeat' (first
         | ((with_reducible apply v_mv); (iterate 3 (· exact rfl)))
         | ((with_reducible apply v_as); (iterate 3 (· exact rfl)))
         | ((with_reducible apply v_fa); (iterate 6 (· exact rfl)))
         | ((with_reducible apply v_far); (iterate 6 (· exact rfl)))
         | ((with_reducible apply v_ia); (iterate 8 (· exact rfl)); (iterate 2 (· first | omega | (simp only [lens, List.length_map, List.length_range]; omega))))
         | ((with_reducible apply v_lr_i64); (iterate 7 (· exact rfl)); (· first | omega | (simp only [lens, List.length_map, List.length_range]; omega)))
         | ((with_reducible apply v_ld); (iterate 6 (· exact rfl)))
         | ((with_reducible apply v_st); (iterate 7 (· exact rfl)))
         | ((with_reducible apply v_sr); (iterate 7 (· exact rfl)); (· first | omega | (simp only [lens, List.length_map, List.length_range]; omega)))
         | ((with_reducible apply v_srN); (iterate 7 (· exact rfl)); (· repeat' (first | exact RowC.nil | apply RowC.i | apply RowC.b)); (· first | omega | (simp only [lens, List.length_map, List.length_range]; omega)))
         | ((with_reducible apply v_tgt); (iterate 9 (· exact rfl)); (iterate 3 (· first | omega | (simp only [lens, List.length_map, List.length_range]; omega))); (· exact rfl))
         | ((with_reducible apply v_mks); (iterate 10 (· exact rfl)); (iterate 3 (· first | omega | (simp only [lens, List.length_map, List.length_range]; omega))))
         | ((with_reducible apply v_ext); (iterate 5 (· exact rfl)))
         | ((with_reducible apply v_cnv); (iterate 6 (· exact rfl)))
         | ((with_reducible apply v_min); (iterate 4 (· exact rfl)))
         | ((with_reducible apply v_max); (iterate 4 (· exact rfl)))
         | ((with_reducible apply v_ncr); (iterate 4 (· exact rfl)))
         | ((with_reducible apply v_ncp); (iterate 3 (· exact rfl)))
         | ((with_reducible apply v_lr_b); (iterate 7 (· exact rfl)); (· first | omega | (simp only [lens, List.length_map, List.length_range]; omega)))
         | ((with_reducible apply v_lr_u8); (iterate 7 (· exact rfl)); (· first | omega | (simp only [lens, List.length_map, List.length_range]; omega)))
         | ((with_reducible apply v_mkf); (iterate 3 (· exact rfl)))
         | ((with_reducible apply v_lss); (iterate 4 (· exact rfl)))
         | ((with_reducible apply v_leq); (iterate 4 (· exact rfl)))
         | ((with_reducible apply v_gtr); (iterate 4 (· exact rfl)))
         | ((with_reducible apply v_geq); (iterate 4 (· exact rfl)))
         | ((with_reducible apply v_eql); (iterate 4 (· exact rfl)))
         | ((with_reducible apply v_neq); (iterate 4 (· exact rfl)))
         | ((with_reducible apply v_add); (iterate 4 (· exact rfl)); (· first | omega | (simp only [lens, List.length_map, List.length_range]; omega)))
         | ((with_reducible apply v_sub); (iterate 4 (· exact rfl)); (· first | omega | (simp only [lens, List.length_map, List.length_range]; omega)))
         | ((with_reducible apply v_pkT); (iterate 4 (· exact rfl)))
         | ((with_reducible apply v_pkF); (iterate 4 (· exact rfl)))
         | ((with_reducible apply v_not); (iterate 3 (· exact rfl)))
         | ((with_reducible apply v_len); (iterate 5 (· exact rfl)))
         | ((with_reducible apply v_lenn); (iterate 4 (· exact rfl)))
         | ((with_reducible apply v_lit); (iterate 9 (· exact rfl)); (· repeat' (first | exact PartsC.nil | ((apply PartsC.cons); (· exact rfl)) | exact RowC.nil | apply RowC.i | apply RowC.b)))
         | ((with_reducible apply v_ap); (iterate 11 (· exact rfl)); (· first | omega | (simp only [lens, List.length_map, List.length_range]; omega)))
         | ((with_reducible apply v_ap0); (iterate 10 (· exact rfl)); (· first | omega | (simp only [lens, List.length_map, List.length_range]; omega)))
         | ((with_reducible apply v_alc); (iterate 5 (· exact rfl)))
         | ((with_reducible apply v_box); (iterate 4 (· exact rfl)))
         | ((with_reducible apply v_ldN); (iterate 7 (· exact rfl)))
         | ((with_reducible apply v_lrN); (iterate 8 (· exact rfl)); (· first | omega | (simp only [lens, List.length_map, List.length_range]; omega)))
         | ((with_reducible apply v_fld); (iterate 5 (· exact rfl)); (· kernel_rfl))
         | ((with_reducible apply v_bld); (iterate 6 (· exact rfl)))
         | ((with_reducible apply v_no); (iterate 2 (· exact rfl)))
         | ((with_reducible apply v_no'); (· exact rfl))
         | ((with_reducible apply v_ift); (iterate 2 (· exact rfl)); (· infer_instance))
         | ((with_reducible apply v_iff); (iterate 2 (· exact rfl)); (· infer_instance))
         | ((with_reducible apply v_pif); (· exact rfl); (· infer_instance))
         | (with_reducible apply vo_nil0)
         | ((with_reducible apply vo_nil); (· kernel_rfl))
         | (with_reducible apply w_rs)
         | ((with_reducible apply w_ds); (rotate_left); (iterate 2 (· kernel_rfl)))
         | (with_reducible apply w_r)
         | ((with_reducible apply w_d); (rotate_left); (iterate 2 (· kernel_rfl)))
         | (with_reducible apply w_sks)
         | (with_reducible apply W.skp)
         | (with_reducible apply W.ext)
         | (with_reducible apply W.rt)
         | (with_reducible apply w_blk)
         | ((with_reducible apply W.cT); (· exact rfl))
         | ((with_reducible apply W.cF); (· exact rfl))
         | ((with_reducible apply W.cn); (· exact rfl); (· infer_instance))
         | (with_reducible apply W.sq)
         | (with_reducible apply q_tn)
         | (with_reducible apply q_te)
         | (with_reducible apply q_tr)
         | (with_reducible apply q_bn)
         | (with_reducible apply q_br)
         | ((with_reducible apply q_be); (· exact rfl))
         | ((with_reducible apply q_bx); (· exact rfl))
         | (with_reducible apply q_er)
         | (with_reducible apply q_en)
         | (with_reducible apply q_her)
         | (with_reducible apply q_hen)
         | (intro _))
        · refine W.round (i + 1) (Wk.list [(33, 44)] (by repeat' (first | exact TW.nil | refine TW.cons rfl ?_)) (by refine HW.cons rfl (HW.cons rfl (HW.cons rfl (HW.eq rfl ?_ (HW.cons rfl HW.nil)))); simp only [Obj.ren]; rw [upto_succ, R_append]; rfl) rfl) (by omega) (by omega)
        · exfalso; omega
      have : i = arcs.length := by omega
      subst this
      repeat' (first
       | ((with_reducible apply v_call 95000 (h36)); (iterate 3 (· exact rfl)); (· repeat' (first | exact DVsOf.nil | apply DVsOf.cons | apply DVof.one | apply DVof.agg | exact DCof.c | exact DCof.nil | exact DCof.nils | ((apply DCof.r); (iterate 2 (· exact rfl))) | ((apply DCof.rs); (iterate 2 (· exact rfl))) | ((apply DCof.mu); (· exact rfl)) | exact DCsOf.nil | apply DCsOf.cons | ((apply DVof_mp); (· exact rfl)) | ((apply DVof_ptr); (iterate 2 (· exact rfl))) | apply DVof.fn | exact DPsOf.nil | ((apply DPsOf_cons); (iterate 2 (· exact rfl))) | exact rfl)); (iterate 4 (· exact rfl)))
       | ((with_reducible apply v_mv); (iterate 3 (· exact rfl)))
       | ((with_reducible apply v_as); (iterate 3 (· exact rfl)))
       | ((with_reducible apply v_fa); (iterate 6 (· exact rfl)))
       | ((with_reducible apply v_far); (iterate 6 (· exact rfl)))
       | ((with_reducible apply v_ia); (iterate 8 (· exact rfl)); (iterate 2 (· first | omega | (simp only [lens, List.length_map, List.length_range]; omega))))
       | ((with_reducible apply v_lr_i64); (iterate 7 (· exact rfl)); (· first | omega | (simp only [lens, List.length_map, List.length_range]; omega)))
       | ((with_reducible apply v_ld); (iterate 6 (· exact rfl)))
       | ((with_reducible apply v_st); (iterate 7 (· exact rfl)))
       | ((with_reducible apply v_sr); (iterate 7 (· exact rfl)); (· first | omega | (simp only [lens, List.length_map, List.length_range]; omega)))
       | ((with_reducible apply v_srN); (iterate 7 (· exact rfl)); (· repeat' (first | exact RowC.nil | apply RowC.i | apply RowC.b)); (· first | omega | (simp only [lens, List.length_map, List.length_range]; omega)))
       | ((with_reducible apply v_tgt); (iterate 9 (· exact rfl)); (iterate 3 (· first | omega | (simp only [lens, List.length_map, List.length_range]; omega))); (· exact rfl))
       | ((with_reducible apply v_mks); (iterate 10 (· exact rfl)); (iterate 3 (· first | omega | (simp only [lens, List.length_map, List.length_range]; omega))))
       | ((with_reducible apply v_ext); (iterate 5 (· exact rfl)))
       | ((with_reducible apply v_cnv); (iterate 6 (· exact rfl)))
       | ((with_reducible apply v_min); (iterate 4 (· exact rfl)))
       | ((with_reducible apply v_max); (iterate 4 (· exact rfl)))
       | ((with_reducible apply v_ncr); (iterate 4 (· exact rfl)))
       | ((with_reducible apply v_ncp); (iterate 3 (· exact rfl)))
       | ((with_reducible apply v_lr_b); (iterate 7 (· exact rfl)); (· first | omega | (simp only [lens, List.length_map, List.length_range]; omega)))
       | ((with_reducible apply v_lr_u8); (iterate 7 (· exact rfl)); (· first | omega | (simp only [lens, List.length_map, List.length_range]; omega)))
       | ((with_reducible apply v_mkf); (iterate 3 (· exact rfl)))
       | ((with_reducible apply v_lss); (iterate 4 (· exact rfl)))
       | ((with_reducible apply v_leq); (iterate 4 (· exact rfl)))
       | ((with_reducible apply v_gtr); (iterate 4 (· exact rfl)))
       | ((with_reducible apply v_geq); (iterate 4 (· exact rfl)))
       | ((with_reducible apply v_eql); (iterate 4 (· exact rfl)))
       | ((with_reducible apply v_neq); (iterate 4 (· exact rfl)))
       | ((with_reducible apply v_add); (iterate 4 (· exact rfl)); (· first | omega | (simp only [lens, List.length_map, List.length_range]; omega)))
       | ((with_reducible apply v_sub); (iterate 4 (· exact rfl)); (· first | omega | (simp only [lens, List.length_map, List.length_range]; omega)))
       | ((with_reducible apply v_pkT); (iterate 4 (· exact rfl)))
       | ((with_reducible apply v_pkF); (iterate 4 (· exact rfl)))
       | ((with_reducible apply v_not); (iterate 3 (· exact rfl)))
       | ((with_reducible apply v_len); (iterate 5 (· exact rfl)))
       | ((with_reducible apply v_lenn); (iterate 4 (· exact rfl)))
       | ((with_reducible apply v_lit); (iterate 9 (· exact rfl)); (· repeat' (first | exact PartsC.nil | ((apply PartsC.cons); (· exact rfl)) | exact RowC.nil | apply RowC.i | apply RowC.b)))
       | ((with_reducible apply v_ap); (iterate 11 (· exact rfl)); (· first | omega | (simp only [lens, List.length_map, List.length_range]; omega)))
       | ((with_reducible apply v_ap0); (iterate 10 (· exact rfl)); (· first | omega | (simp only [lens, List.length_map, List.length_range]; omega)))
       | ((with_reducible apply v_alc); (iterate 5 (· exact rfl)))
       | ((with_reducible apply v_box); (iterate 4 (· exact rfl)))
       | ((with_reducible apply v_ldN); (iterate 7 (· exact rfl)))
       | ((with_reducible apply v_lrN); (iterate 8 (· exact rfl)); (· first | omega | (simp only [lens, List.length_map, List.length_range]; omega)))
       | ((with_reducible apply v_fld); (iterate 5 (· exact rfl)); (· kernel_rfl))
       | ((with_reducible apply v_bld); (iterate 6 (· exact rfl)))
       | ((with_reducible apply v_no); (iterate 2 (· exact rfl)))
       | ((with_reducible apply v_no'); (· exact rfl))
       | ((with_reducible apply v_ift); (iterate 2 (· exact rfl)); (· infer_instance))
       | ((with_reducible apply v_iff); (iterate 2 (· exact rfl)); (· infer_instance))
       | ((with_reducible apply v_pif); (· exact rfl); (· infer_instance))
       | (with_reducible apply vo_nil0)
       | ((with_reducible apply vo_nil); (· kernel_rfl))
       | (with_reducible apply w_rs)
       | ((with_reducible apply w_ds); (rotate_left); (iterate 2 (· kernel_rfl)))
       | (with_reducible apply w_r)
       | ((with_reducible apply w_d); (rotate_left); (iterate 2 (· kernel_rfl)))
       | (with_reducible apply w_sks)
       | (with_reducible apply W.skp)
       | (with_reducible apply W.ext)
       | (with_reducible apply W.rt)
       | (with_reducible apply w_blk)
       | ((with_reducible apply W.cT); (· exact rfl))
       | ((with_reducible apply W.cF); (· exact rfl))
       | ((with_reducible apply W.cn); (· exact rfl); (· infer_instance))
       | (with_reducible apply W.sq)
       | (with_reducible apply q_tn)
       | (with_reducible apply q_te)
       | (with_reducible apply q_tr)
       | (with_reducible apply q_bn)
       | (with_reducible apply q_br)
       | ((with_reducible apply q_be); (· exact rfl))
       | ((with_reducible apply q_bx); (· exact rfl))
       | (with_reducible apply q_er)
       | (with_reducible apply q_en)
       | (with_reducible apply q_her)
       | (with_reducible apply q_hen)
       | (intro _))
      · exfalso; omega
      refine W.lop (X := Nat) (fun q => mk 107 [(2, .one (.c (.bool false))), (3, .one (.r 3)), (4, .one (.r 92000)), (7, .one (.r 95000)), (8, .one (.c (.int .i64 (cnt P q)))), (9, .one (.c (.int .i64 q)))] [(3, some (.box 30 [.c (.int .i64 n), .r 91000])), (91000, some (.vec 54 i5 arcs)), (92000, some (.vec 3 i1 (R L))), (95000, some (.vec 3 i1 (R P))), (5000, some (.ro u1 b))] [95000, 92000, 3, 91000]) (fun q => q ≤ n.toNat ∧ 0 ≤ cnt P q ∧ cnt P q ≤ q) (fun q => n.toNat - q) 0 ?_ ?_ ?_
      · exact (Wk.list [] (by repeat' (first | exact TW.nil | refine TW.cons rfl ?_)) (by repeat' (first | exact HW.nil | refine HW.cons rfl ?_)) rfl)
      · exact ⟨by omega, by simp [cnt], by simp [cnt]⟩
      · rintro q ⟨g1, g2, g3⟩
        have eq : ((q : Nat) : Int).toNat = q := by omega
        by_cases hq : q < n.toNat
        · have ek : rd (R P) ((q : Nat) : Int).toNat 0 = gt P q := by rw [eq, R_rd (by omega)]; rfl
          repeat' (first
           | ((with_reducible apply v_mv); (iterate 3 (· exact rfl)))
           | ((with_reducible apply v_as); (iterate 3 (· exact rfl)))
           | ((with_reducible apply v_fa); (iterate 6 (· exact rfl)))
           | ((with_reducible apply v_far); (iterate 6 (· exact rfl)))
           | ((with_reducible apply v_ia); (iterate 8 (· exact rfl)); (iterate 2 (· first | omega | (simp only [lens, List.length_map, List.length_range]; omega))))
           | ((with_reducible apply v_lr_i64); (iterate 7 (· exact rfl)); (· first | omega | (simp only [lens, List.length_map, List.length_range]; omega)))
           | ((with_reducible apply v_ld); (iterate 6 (· exact rfl)))
           | ((with_reducible apply v_st); (iterate 7 (· exact rfl)))
           | ((with_reducible apply v_sr); (iterate 7 (· exact rfl)); (· first | omega | (simp only [lens, List.length_map, List.length_range]; omega)))
           | ((with_reducible apply v_srN); (iterate 7 (· exact rfl)); (· repeat' (first | exact RowC.nil | apply RowC.i | apply RowC.b)); (· first | omega | (simp only [lens, List.length_map, List.length_range]; omega)))
           | ((with_reducible apply v_tgt); (iterate 9 (· exact rfl)); (iterate 3 (· first | omega | (simp only [lens, List.length_map, List.length_range]; omega))); (· exact rfl))
           | ((with_reducible apply v_mks); (iterate 10 (· exact rfl)); (iterate 3 (· first | omega | (simp only [lens, List.length_map, List.length_range]; omega))))
           | ((with_reducible apply v_ext); (iterate 5 (· exact rfl)))
           | ((with_reducible apply v_cnv); (iterate 6 (· exact rfl)))
           | ((with_reducible apply v_min); (iterate 4 (· exact rfl)))
           | ((with_reducible apply v_max); (iterate 4 (· exact rfl)))
           | ((with_reducible apply v_ncr); (iterate 4 (· exact rfl)))
           | ((with_reducible apply v_ncp); (iterate 3 (· exact rfl)))
           | ((with_reducible apply v_lr_b); (iterate 7 (· exact rfl)); (· first | omega | (simp only [lens, List.length_map, List.length_range]; omega)))
           | ((with_reducible apply v_lr_u8); (iterate 7 (· exact rfl)); (· first | omega | (simp only [lens, List.length_map, List.length_range]; omega)))
           | ((with_reducible apply v_mkf); (iterate 3 (· exact rfl)))
           | ((with_reducible apply v_lss); (iterate 4 (· exact rfl)))
           | ((with_reducible apply v_leq); (iterate 4 (· exact rfl)))
           | ((with_reducible apply v_gtr); (iterate 4 (· exact rfl)))
           | ((with_reducible apply v_geq); (iterate 4 (· exact rfl)))
           | ((with_reducible apply v_eql); (iterate 4 (· exact rfl)))
           | ((with_reducible apply v_neq); (iterate 4 (· exact rfl)))
           | ((with_reducible apply v_add); (iterate 4 (· exact rfl)); (· first | omega | (simp only [lens, List.length_map, List.length_range]; omega)))
           | ((with_reducible apply v_sub); (iterate 4 (· exact rfl)); (· first | omega | (simp only [lens, List.length_map, List.length_range]; omega)))
           | ((with_reducible apply v_pkT); (iterate 4 (· exact rfl)))
           | ((with_reducible apply v_pkF); (iterate 4 (· exact rfl)))
           | ((with_reducible apply v_not); (iterate 3 (· exact rfl)))
           | ((with_reducible apply v_len); (iterate 5 (· exact rfl)))
           | ((with_reducible apply v_lenn); (iterate 4 (· exact rfl)))
           | ((with_reducible apply v_lit); (iterate 9 (· exact rfl)); (· repeat' (first | exact PartsC.nil | ((apply PartsC.cons); (· exact rfl)) | exact RowC.nil | apply RowC.i | apply RowC.b)))
           | ((with_reducible apply v_ap); (iterate 11 (· exact rfl)); (· first | omega | (simp only [lens, List.length_map, List.length_range]; omega)))
           | ((with_reducible apply v_ap0); (iterate 10 (· exact rfl)); (· first | omega | (simp only [lens, List.length_map, List.length_range]; omega)))
           | ((with_reducible apply v_alc); (iterate 5 (· exact rfl)))
           | ((with_reducible apply v_box); (iterate 4 (· exact rfl)))
           | ((with_reducible apply v_ldN); (iterate 7 (· exact rfl)))
           | ((with_reducible apply v_lrN); (iterate 8 (· exact rfl)); (· first | omega | (simp only [lens, List.length_map, List.length_range]; omega)))
           | ((with_reducible apply v_fld); (iterate 5 (· exact rfl)); (· kernel_rfl))
           | ((with_reducible apply v_bld); (iterate 6 (· exact rfl)))
           | ((with_reducible apply v_no); (iterate 2 (· exact rfl)))
           | ((with_reducible apply v_no'); (· exact rfl))
           | ((with_reducible apply v_ift); (iterate 2 (· exact rfl)); (· infer_instance))
           | ((with_reducible apply v_iff); (iterate 2 (· exact rfl)); (· infer_instance))
           | ((with_reducible apply v_pif); (· exact rfl); (· infer_instance))
           | (with_reducible apply vo_nil0)
           | ((with_reducible apply vo_nil); (· kernel_rfl))
           | (with_reducible apply w_rs)
           | ((with_reducible apply w_ds); (rotate_left); (iterate 2 (· kernel_rfl)))
           | (with_reducible apply w_r)
           | ((with_reducible apply w_d); (rotate_left); (iterate 2 (· kernel_rfl)))
           | (with_reducible apply w_sks)
           | (with_reducible apply W.skp)
           | (with_reducible apply W.ext)
           | (with_reducible apply W.rt)
           | (with_reducible apply w_blk)
           | ((with_reducible apply W.cT); (· exact rfl))
           | ((with_reducible apply W.cF); (· exact rfl))
           | ((with_reducible apply W.cn); (· exact rfl); (· infer_instance))
           | (with_reducible apply W.sq)
           | (with_reducible apply q_tn)
           | (with_reducible apply q_te)
           | (with_reducible apply q_tr)
           | (with_reducible apply q_bn)
           | (with_reducible apply q_br)
           | ((with_reducible apply q_be); (· exact rfl))
           | ((with_reducible apply q_bx); (· exact rfl))
           | (with_reducible apply q_er)
           | (with_reducible apply q_en)
           | (with_reducible apply q_her)
           | (with_reducible apply q_hen)
           | (intro _))
          all_goals first
            | (exfalso; omega)
            | skip
          · rename_i hc
            rw [ek] at hc
            have e1 : cnt P (q + 1) = cnt P q + 1 := by rw [cnt, if_pos hc]
            refine W.round (q + 1) (Wk.list [] (by repeat' (first | exact TW.nil | refine TW.cons rfl ?_ | (refine TW.eq rfl ?_ ?_; (· rw [e1]; rfl)))) (by repeat' (first | exact HW.nil | refine HW.cons rfl ?_)) rfl) ⟨by omega, by omega, by omega⟩ (by omega)
          · rename_i hc
            rw [ek] at hc
            have e1 : cnt P (q + 1) = cnt P q := by rw [cnt, if_neg hc]; omega
            refine W.round (q + 1) (Wk.list [] (by repeat' (first | exact TW.nil | refine TW.cons rfl ?_ | (refine TW.eq rfl ?_ ?_; (· rw [e1]; rfl)))) (by repeat' (first | exact HW.nil | refine HW.cons rfl ?_)) rfl) ⟨by omega, by omega, by omega⟩ (by omega)
        have : q = n.toNat := by omega
        subst this
        repeat' (first
         | ((with_reducible apply v_mv); (iterate 3 (· exact rfl)))
         | ((with_reducible apply v_as); (iterate 3 (· exact rfl)))
         | ((with_reducible apply v_fa); (iterate 6 (· exact rfl)))
         | ((with_reducible apply v_far); (iterate 6 (· exact rfl)))
         | ((with_reducible apply v_ia); (iterate 8 (· exact rfl)); (iterate 2 (· first | omega | (simp only [lens, List.length_map, List.length_range]; omega))))
         | ((with_reducible apply v_lr_i64); (iterate 7 (· exact rfl)); (· first | omega | (simp only [lens, List.length_map, List.length_range]; omega)))
         | ((with_reducible apply v_ld); (iterate 6 (· exact rfl)))
         | ((with_reducible apply v_st); (iterate 7 (· exact rfl)))
         | ((with_reducible apply v_sr); (iterate 7 (· exact rfl)); (· first | omega | (simp only [lens, List.length_map, List.length_range]; omega)))
         | ((with_reducible apply v_srN); (iterate 7 (· exact rfl)); (· repeat' (first | exact RowC.nil | apply RowC.i | apply RowC.b)); (· first | omega | (simp only [lens, List.length_map, List.length_range]; omega)))
         | ((with_reducible apply v_tgt); (iterate 9 (· exact rfl)); (iterate 3 (· first | omega | (simp only [lens, List.length_map, List.length_range]; omega))); (· exact rfl))
         | ((with_reducible apply v_mks); (iterate 10 (· exact rfl)); (iterate 3 (· first | omega | (simp only [lens, List.length_map, List.length_range]; omega))))
         | ((with_reducible apply v_ext); (iterate 5 (· exact rfl)))
         | ((with_reducible apply v_cnv); (iterate 6 (· exact rfl)))
         | ((with_reducible apply v_min); (iterate 4 (· exact rfl)))
         | ((with_reducible apply v_max); (iterate 4 (· exact rfl)))
         | ((with_reducible apply v_ncr); (iterate 4 (· exact rfl)))
         | ((with_reducible apply v_ncp); (iterate 3 (· exact rfl)))
         | ((with_reducible apply v_lr_b); (iterate 7 (· exact rfl)); (· first | omega | (simp only [lens, List.length_map, List.length_range]; omega)))
         | ((with_reducible apply v_lr_u8); (iterate 7 (· exact rfl)); (· first | omega | (simp only [lens, List.length_map, List.length_range]; omega)))
         | ((with_reducible apply v_mkf); (iterate 3 (· exact rfl)))
         | ((with_reducible apply v_lss); (iterate 4 (· exact rfl)))
         | ((with_reducible apply v_leq); (iterate 4 (· exact rfl)))
         | ((with_reducible apply v_gtr); (iterate 4 (· exact rfl)))
         | ((with_reducible apply v_geq); (iterate 4 (· exact rfl)))
         | ((with_reducible apply v_eql); (iterate 4 (· exact rfl)))
         | ((with_reducible apply v_neq); (iterate 4 (· exact rfl)))
         | ((with_reducible apply v_add); (iterate 4 (· exact rfl)); (· first | omega | (simp only [lens, List.length_map, List.length_range]; omega)))
         | ((with_reducible apply v_sub); (iterate 4 (· exact rfl)); (· first | omega | (simp only [lens, List.length_map, List.length_range]; omega)))
         | ((with_reducible apply v_pkT); (iterate 4 (· exact rfl)))
         | ((with_reducible apply v_pkF); (iterate 4 (· exact rfl)))
         | ((with_reducible apply v_not); (iterate 3 (· exact rfl)))
         | ((with_reducible apply v_len); (iterate 5 (· exact rfl)))
         | ((with_reducible apply v_lenn); (iterate 4 (· exact rfl)))
         | ((with_reducible apply v_lit); (iterate 9 (· exact rfl)); (· repeat' (first | exact PartsC.nil | ((apply PartsC.cons); (· exact rfl)) | exact RowC.nil | apply RowC.i | apply RowC.b)))
         | ((with_reducible apply v_ap); (iterate 11 (· exact rfl)); (· first | omega | (simp only [lens, List.length_map, List.length_range]; omega)))
         | ((with_reducible apply v_ap0); (iterate 10 (· exact rfl)); (· first | omega | (simp only [lens, List.length_map, List.length_range]; omega)))
         | ((with_reducible apply v_alc); (iterate 5 (· exact rfl)))
         | ((with_reducible apply v_box); (iterate 4 (· exact rfl)))
         | ((with_reducible apply v_ldN); (iterate 7 (· exact rfl)))
         | ((with_reducible apply v_lrN); (iterate 8 (· exact rfl)); (· first | omega | (simp only [lens, List.length_map, List.length_range]; omega)))
         | ((with_reducible apply v_fld); (iterate 5 (· exact rfl)); (· kernel_rfl))
         | ((with_reducible apply v_bld); (iterate 6 (· exact rfl)))
         | ((with_reducible apply v_no); (iterate 2 (· exact rfl)))
         | ((with_reducible apply v_no'); (· exact rfl))
         | ((with_reducible apply v_ift); (iterate 2 (· exact rfl)); (· infer_instance))
         | ((with_reducible apply v_iff); (iterate 2 (· exact rfl)); (· infer_instance))
         | ((with_reducible apply v_pif); (· exact rfl); (· infer_instance))
         | (with_reducible apply vo_nil0)
         | ((with_reducible apply vo_nil); (· kernel_rfl))
         | (with_reducible apply w_rs)
         | ((with_reducible apply w_ds); (rotate_left); (iterate 2 (· kernel_rfl)))
         | (with_reducible apply w_r)
         | ((with_reducible apply w_d); (rotate_left); (iterate 2 (· kernel_rfl)))
         | (with_reducible apply w_sks)
         | (with_reducible apply W.skp)
         | (with_reducible apply W.ext)
         | (with_reducible apply W.rt)
         | (with_reducible apply w_blk)
         | ((with_reducible apply W.cT); (· exact rfl))
         | ((with_reducible apply W.cF); (· exact rfl))
         | ((with_reducible apply W.cn); (· exact rfl); (· infer_instance))
         | (with_reducible apply W.sq)
         | (with_reducible apply q_tn)
         | (with_reducible apply q_te)
         | (with_reducible apply q_tr)
         | (with_reducible apply q_bn)
         | (with_reducible apply q_br)
         | ((with_reducible apply q_be); (· exact rfl))
         | ((with_reducible apply q_bx); (· exact rfl))
         | (with_reducible apply q_er)
         | (with_reducible apply q_en)
         | (with_reducible apply q_her)
         | (with_reducible apply q_hen)
         | (intro _))
        all_goals first
          | (exfalso; omega)
          | skip
        (apply W.weak); (apply Wk.ro 92000); (iterate 1 (· exact rfl))
        refine W.lop (X := Nat) (fun j => mk 107 [(2, .one (.c (.bool false))), (3, .one (.r 3)), (4, .one (.r 92000)), (7, .one (.r 95000)), (8, .one (.c (.int .i64 (cnt P n.toNat)))), (10, .one (.c (.int .i64 j)))] [(3, some (.box 30 [.c (.int .i64 n), .r 91000])), (91000, some (.vec 54 i5 arcs)), (92000, some (.ro i1 (R L))), (95000, some (.vec 3 i1 (R P))), (5000, some (.ro u1 b))] [95000, 92000, 3, 91000]) (fun j => j ≤ L.length) (fun j => L.length - j) 0 ?_ ?_ ?_
        · exact (Wk.list [] (by repeat' (first | exact TW.nil | refine TW.cons rfl ?_)) (by repeat' (first | exact HW.nil | refine HW.cons rfl ?_)) rfl)
        · omega
        · intro j g4
          have ej : ((j : Nat) : Int).toNat = j := by omega
          by_cases hj : j < L.length
          · have hT : List.take (((j : Nat) : Int).toNat - Int.toNat 0) (List.drop (Int.toNat 0) (R L)) = R (L.take j) := by
              rw [ej]; simp [R, List.map_take]
            have hX : [] ++ List.take (((j : Nat) : Int).toNat - Int.toNat 0) (List.drop (Int.toNat 0) (R L)) ++ List.take ((((R L).length : Nat) : Int).toNat - (((j : Nat) : Int) + 1).toNat) (List.drop (((j : Nat) : Int) + 1).toNat (R L)) = R (L.take j ++ L.drop (j + 1)) := by
              rw [hT, R_append, List.nil_append]
              congr 1
              rw [show (((j : Nat) : Int) + 1).toNat = j + 1 by omega, List.take_of_length_le (by simp)]
              simp [R, List.map_drop]
            have h36j := c_36 n arcs (L.take j ++ L.drop (j + 1)) (by omega) (by simp; omega)
            rw [← hless j hj] at h36j
            have hne := t4 j hj
            have hjl2 := joinM_length n.toNat arcs (L.take j ++ L.drop (j + 1))
            generalize joinM n.toNat arcs (L.take j ++ L.drop (j + 1)) = Q at *
            rw [dL, ← hX] at h36j
            have h33j := c_33 (R Q) (R P) (by rw [R_length]; omega)
            rw [eqI_R, decide_eq_false hne] at h33j
            have h37j := c_37 (R (L.take j)) (rd (R L) ((j : Nat) : Int).toNat 0) (by rw [R_length]; simp; omega)
            have hin : inI (R (L.take j)) (rd (R L) ((j : Nat) : Int).toNat 0) = false := by
              rw [inI, range_all_true, Bool.not_true]
              intro q hq
              rw [R_length] at hq
              rw [ej, R_rd hq, R_rd hj]
              have h5 := t5 j hj
              have h6 := gt_mem hq
              simp only [Bool.not_eq_true', beq_eq_false_iff_ne]
              intro e
              apply h5
              change gt (L.take j) q = gt L j at e
              rwa [← e]
            rw [hin, ← hT] at h37j
            repeat' (first
             | ((with_reducible apply v_cutr); (iterate 10 (· exact rfl)); (iterate 3 (· first | omega | (simp only [lens, List.length_map, List.length_range]; omega))); (· exact rfl))
             | ((with_reducible apply v_call 96000 (h36j)); (iterate 3 (· exact rfl)); (· repeat' (first | exact DVsOf.nil | apply DVsOf.cons | apply DVof.one | apply DVof.agg | exact DCof.c | exact DCof.nil | exact DCof.nils | ((apply DCof.r); (iterate 2 (· exact rfl))) | ((apply DCof.rs); (iterate 2 (· exact rfl))) | ((apply DCof.mu); (· exact rfl)) | exact DCsOf.nil | apply DCsOf.cons | ((apply DVof_mp); (· exact rfl)) | ((apply DVof_ptr); (iterate 2 (· exact rfl))) | apply DVof.fn | exact DPsOf.nil | ((apply DPsOf_cons); (iterate 2 (· exact rfl))) | exact rfl)); (iterate 4 (· exact rfl)))
             | ((with_reducible apply v_call 4000000 (h33j)); (iterate 3 (· exact rfl)); (· repeat' (first | exact DVsOf.nil | apply DVsOf.cons | apply DVof.one | apply DVof.agg | exact DCof.c | exact DCof.nil | exact DCof.nils | ((apply DCof.r); (iterate 2 (· exact rfl))) | ((apply DCof.rs); (iterate 2 (· exact rfl))) | ((apply DCof.mu); (· exact rfl)) | exact DCsOf.nil | apply DCsOf.cons | ((apply DVof_mp); (· exact rfl)) | ((apply DVof_ptr); (iterate 2 (· exact rfl))) | apply DVof.fn | exact DPsOf.nil | ((apply DPsOf_cons); (iterate 2 (· exact rfl))) | exact rfl)); (iterate 4 (· exact rfl)))
             | ((with_reducible apply v_call 4000000 (h37j)); (iterate 3 (· exact rfl)); (· repeat' (first | exact DVsOf.nil | apply DVsOf.cons | apply DVof.one | apply DVof.agg | exact DCof.c | exact DCof.nil | exact DCof.nils | ((apply DCof.r); (iterate 2 (· exact rfl))) | ((apply DCof.rs); (iterate 2 (· exact rfl))) | ((apply DCof.mu); (· exact rfl)) | exact DCsOf.nil | apply DCsOf.cons | ((apply DVof_mp); (· exact rfl)) | ((apply DVof_ptr); (iterate 2 (· exact rfl))) | apply DVof.fn | exact DPsOf.nil | ((apply DPsOf_cons); (iterate 2 (· exact rfl))) | exact rfl)); (iterate 4 (· exact rfl)))
             | ((with_reducible apply v_mv); (iterate 3 (· exact rfl)))
             | ((with_reducible apply v_as); (iterate 3 (· exact rfl)))
             | ((with_reducible apply v_fa); (iterate 6 (· exact rfl)))
             | ((with_reducible apply v_far); (iterate 6 (· exact rfl)))
             | ((with_reducible apply v_ia); (iterate 8 (· exact rfl)); (iterate 2 (· first | omega | (simp only [lens, List.length_map, List.length_range]; omega))))
             | ((with_reducible apply v_lr_i64); (iterate 7 (· exact rfl)); (· first | omega | (simp only [lens, List.length_map, List.length_range]; omega)))
             | ((with_reducible apply v_ld); (iterate 6 (· exact rfl)))
             | ((with_reducible apply v_st); (iterate 7 (· exact rfl)))
             | ((with_reducible apply v_sr); (iterate 7 (· exact rfl)); (· first | omega | (simp only [lens, List.length_map, List.length_range]; omega)))
             | ((with_reducible apply v_srN); (iterate 7 (· exact rfl)); (· repeat' (first | exact RowC.nil | apply RowC.i | apply RowC.b)); (· first | omega | (simp only [lens, List.length_map, List.length_range]; omega)))
             | ((with_reducible apply v_tgt); (iterate 9 (· exact rfl)); (iterate 3 (· first | omega | (simp only [lens, List.length_map, List.length_range]; omega))); (· exact rfl))
             | ((with_reducible apply v_mks); (iterate 10 (· exact rfl)); (iterate 3 (· first | omega | (simp only [lens, List.length_map, List.length_range]; omega))))
             | ((with_reducible apply v_ext); (iterate 5 (· exact rfl)))
             | ((with_reducible apply v_cnv); (iterate 6 (· exact rfl)))
             | ((with_reducible apply v_min); (iterate 4 (· exact rfl)))
             | ((with_reducible apply v_max); (iterate 4 (· exact rfl)))
             | ((with_reducible apply v_ncr); (iterate 4 (· exact rfl)))
             | ((with_reducible apply v_ncp); (iterate 3 (· exact rfl)))
             | ((with_reducible apply v_lr_b); (iterate 7 (· exact rfl)); (· first | omega | (simp only [lens, List.length_map, List.length_range]; omega)))
             | ((with_reducible apply v_lr_u8); (iterate 7 (· exact rfl)); (· first | omega | (simp only [lens, List.length_map, List.length_range]; omega)))
             | ((with_reducible apply v_mkf); (iterate 3 (· exact rfl)))
             | ((with_reducible apply v_lss); (iterate 4 (· exact rfl)))
             | ((with_reducible apply v_leq); (iterate 4 (· exact rfl)))
             | ((with_reducible apply v_gtr); (iterate 4 (· exact rfl)))
             | ((with_reducible apply v_geq); (iterate 4 (· exact rfl)))
             | ((with_reducible apply v_eql); (iterate 4 (· exact rfl)))
             | ((with_reducible apply v_neq); (iterate 4 (· exact rfl)))
             | ((with_reducible apply v_add); (iterate 4 (· exact rfl)); (· first | omega | (simp only [lens, List.length_map, List.length_range]; omega)))
             | ((with_reducible apply v_sub); (iterate 4 (· exact rfl)); (· first | omega | (simp only [lens, List.length_map, List.length_range]; omega)))
             | ((with_reducible apply v_pkT); (iterate 4 (· exact rfl)))
             | ((with_reducible apply v_pkF); (iterate 4 (· exact rfl)))
             | ((with_reducible apply v_not); (iterate 3 (· exact rfl)))
             | ((with_reducible apply v_len); (iterate 5 (· exact rfl)))
             | ((with_reducible apply v_lenn); (iterate 4 (· exact rfl)))
             | ((with_reducible apply v_lit); (iterate 9 (· exact rfl)); (· repeat' (first | exact PartsC.nil | ((apply PartsC.cons); (· exact rfl)) | exact RowC.nil | apply RowC.i | apply RowC.b)))
             | ((with_reducible apply v_ap); (iterate 11 (· exact rfl)); (· first | omega | (simp only [lens, List.length_map, List.length_range]; omega)))
             | ((with_reducible apply v_ap0); (iterate 10 (· exact rfl)); (· first | omega | (simp only [lens, List.length_map, List.length_range]; omega)))
             | ((with_reducible apply v_alc); (iterate 5 (· exact rfl)))
             | ((with_reducible apply v_box); (iterate 4 (· exact rfl)))
             | ((with_reducible apply v_ldN); (iterate 7 (· exact rfl)))
             | ((with_reducible apply v_lrN); (iterate 8 (· exact rfl)); (· first | omega | (simp only [lens, List.length_map, List.length_range]; omega)))
             | ((with_reducible apply v_fld); (iterate 5 (· exact rfl)); (· kernel_rfl))
             | ((with_reducible apply v_bld); (iterate 6 (· exact rfl)))
             | ((with_reducible apply v_no); (iterate 2 (· exact rfl)))
             | ((with_reducible apply v_no'); (· exact rfl))
             | ((with_reducible apply v_ift); (iterate 2 (· exact rfl)); (· infer_instance))
             | ((with_reducible apply v_iff); (iterate 2 (· exact rfl)); (· infer_instance))
             | ((with_reducible apply v_pif); (· exact rfl); (· infer_instance))
             | (with_reducible apply vo_nil0)
             | ((with_reducible apply vo_nil); (· kernel_rfl))
             | (with_reducible apply w_rs)
             | ((with_reducible apply w_ds); (rotate_left); (iterate 2 (· kernel_rfl)))
             | (with_reducible apply w_r)
             | ((with_reducible apply w_d); (rotate_left); (iterate 2 (· kernel_rfl)))
             | (with_reducible apply w_sks)
             | (with_reducible apply W.skp)
             | (with_reducible apply W.ext)
             | (with_reducible apply W.rt)
             | (with_reducible apply w_blk)
             | ((with_reducible apply W.cT); (· exact rfl))
             | ((with_reducible apply W.cF); (· exact rfl))
             | ((with_reducible apply W.cn); (· exact rfl); (· infer_instance))
             | (with_reducible apply W.sq)
             | (with_reducible apply q_tn)
             | (with_reducible apply q_te)
             | (with_reducible apply q_tr)
             | (with_reducible apply q_bn)
             | (with_reducible apply q_br)
             | ((with_reducible apply q_be); (· exact rfl))
             | ((with_reducible apply q_bx); (· exact rfl))
             | (with_reducible apply q_er)
             | (with_reducible apply q_en)
             | (with_reducible apply q_her)
             | (with_reducible apply q_hen)
             | (intro _))
            all_goals first
              | (exfalso; omega)
              | skip
            refine W.round (j + 1) (Wk.list [] (by repeat' (first | exact TW.nil | refine TW.cons rfl ?_)) (by repeat' (first | exact HW.nil | refine HW.cons rfl ?_)) rfl) (by omega) (by omega)
          · have : j = L.length := by omega
            subst this
            repeat' (first
             | ((with_reducible apply v_call 96000 (h36L)); (iterate 3 (· exact rfl)); (· repeat' (first | exact DVsOf.nil | apply DVsOf.cons | apply DVof.one | apply DVof.agg | exact DCof.c | exact DCof.nil | exact DCof.nils | ((apply DCof.r); (iterate 2 (· exact rfl))) | ((apply DCof.rs); (iterate 2 (· exact rfl))) | ((apply DCof.mu); (· exact rfl)) | exact DCsOf.nil | apply DCsOf.cons | ((apply DVof_mp); (· exact rfl)) | ((apply DVof_ptr); (iterate 2 (· exact rfl))) | apply DVof.fn | exact DPsOf.nil | ((apply DPsOf_cons); (iterate 2 (· exact rfl))) | exact rfl)); (iterate 4 (· exact rfl)))
             | ((with_reducible apply v_call 4000000 (h33P)); (iterate 3 (· exact rfl)); (· repeat' (first | exact DVsOf.nil | apply DVsOf.cons | apply DVof.one | apply DVof.agg | exact DCof.c | exact DCof.nil | exact DCof.nils | ((apply DCof.r); (iterate 2 (· exact rfl))) | ((apply DCof.rs); (iterate 2 (· exact rfl))) | ((apply DCof.mu); (· exact rfl)) | exact DCsOf.nil | apply DCsOf.cons | ((apply DVof_mp); (· exact rfl)) | ((apply DVof_ptr); (iterate 2 (· exact rfl))) | apply DVof.fn | exact DPsOf.nil | ((apply DPsOf_cons); (iterate 2 (· exact rfl))) | exact rfl)); (iterate 4 (· exact rfl)))
             | ((with_reducible apply v_mv); (iterate 3 (· exact rfl)))
             | ((with_reducible apply v_as); (iterate 3 (· exact rfl)))
             | ((with_reducible apply v_fa); (iterate 6 (· exact rfl)))
             | ((with_reducible apply v_far); (iterate 6 (· exact rfl)))
             | ((with_reducible apply v_ia); (iterate 8 (· exact rfl)); (iterate 2 (· first | omega | (simp only [lens, List.length_map, List.length_range]; omega))))
             | ((with_reducible apply v_lr_i64); (iterate 7 (· exact rfl)); (· first | omega | (simp only [lens, List.length_map, List.length_range]; omega)))
             | ((with_reducible apply v_ld); (iterate 6 (· exact rfl)))
             | ((with_reducible apply v_st); (iterate 7 (· exact rfl)))
             | ((with_reducible apply v_sr); (iterate 7 (· exact rfl)); (· first | omega | (simp only [lens, List.length_map, List.length_range]; omega)))
             | ((with_reducible apply v_srN); (iterate 7 (· exact rfl)); (· repeat' (first | exact RowC.nil | apply RowC.i | apply RowC.b)); (· first | omega | (simp only [lens, List.length_map, List.length_range]; omega)))
             | ((with_reducible apply v_tgt); (iterate 9 (· exact rfl)); (iterate 3 (· first | omega | (simp only [lens, List.length_map, List.length_range]; omega))); (· exact rfl))
             | ((with_reducible apply v_mks); (iterate 10 (· exact rfl)); (iterate 3 (· first | omega | (simp only [lens, List.length_map, List.length_range]; omega))))
             | ((with_reducible apply v_ext); (iterate 5 (· exact rfl)))
             | ((with_reducible apply v_cnv); (iterate 6 (· exact rfl)))
             | ((with_reducible apply v_min); (iterate 4 (· exact rfl)))
             | ((with_reducible apply v_max); (iterate 4 (· exact rfl)))
             | ((with_reducible apply v_ncr); (iterate 4 (· exact rfl)))
             | ((with_reducible apply v_ncp); (iterate 3 (· exact rfl)))
             | ((with_reducible apply v_lr_b); (iterate 7 (· exact rfl)); (· first | omega | (simp only [lens, List.length_map, List.length_range]; omega)))
             | ((with_reducible apply v_lr_u8); (iterate 7 (· exact rfl)); (· first | omega | (simp only [lens, List.length_map, List.length_range]; omega)))
             | ((with_reducible apply v_mkf); (iterate 3 (· exact rfl)))
             | ((with_reducible apply v_lss); (iterate 4 (· exact rfl)))
             | ((with_reducible apply v_leq); (iterate 4 (· exact rfl)))
             | ((with_reducible apply v_gtr); (iterate 4 (· exact rfl)))
             | ((with_reducible apply v_geq); (iterate 4 (· exact rfl)))
             | ((with_reducible apply v_eql); (iterate 4 (· exact rfl)))
             | ((with_reducible apply v_neq); (iterate 4 (· exact rfl)))
             | ((with_reducible apply v_add); (iterate 4 (· exact rfl)); (· first | omega | (simp only [lens, List.length_map, List.length_range]; omega)))
             | ((with_reducible apply v_sub); (iterate 4 (· exact rfl)); (· first | omega | (simp only [lens, List.length_map, List.length_range]; omega)))
             | ((with_reducible apply v_pkT); (iterate 4 (· exact rfl)))
             | ((with_reducible apply v_pkF); (iterate 4 (· exact rfl)))
             | ((with_reducible apply v_not); (iterate 3 (· exact rfl)))
             | ((with_reducible apply v_len); (iterate 5 (· exact rfl)))
             | ((with_reducible apply v_lenn); (iterate 4 (· exact rfl)))
             | ((with_reducible apply v_lit); (iterate 9 (· exact rfl)); (· repeat' (first | exact PartsC.nil | ((apply PartsC.cons); (· exact rfl)) | exact RowC.nil | apply RowC.i | apply RowC.b)))
             | ((with_reducible apply v_ap); (iterate 11 (· exact rfl)); (· first | omega | (simp only [lens, List.length_map, List.length_range]; omega)))
             | ((with_reducible apply v_ap0); (iterate 10 (· exact rfl)); (· first | omega | (simp only [lens, List.length_map, List.length_range]; omega)))
             | ((with_reducible apply v_alc); (iterate 5 (· exact rfl)))
             | ((with_reducible apply v_box); (iterate 4 (· exact rfl)))
             | ((with_reducible apply v_ldN); (iterate 7 (· exact rfl)))
             | ((with_reducible apply v_lrN); (iterate 8 (· exact rfl)); (· first | omega | (simp only [lens, List.length_map, List.length_range]; omega)))
             | ((with_reducible apply v_fld); (iterate 5 (· exact rfl)); (· kernel_rfl))
             | ((with_reducible apply v_bld); (iterate 6 (· exact rfl)))
             | ((with_reducible apply v_no); (iterate 2 (· exact rfl)))
             | ((with_reducible apply v_no'); (· exact rfl))
             | ((with_reducible apply v_ift); (iterate 2 (· exact rfl)); (· infer_instance))
             | ((with_reducible apply v_iff); (iterate 2 (· exact rfl)); (· infer_instance))
             | ((with_reducible apply v_pif); (· exact rfl); (· infer_instance))
             | (with_reducible apply vo_nil0)
             | ((with_reducible apply vo_nil); (· kernel_rfl))
             | (with_reducible apply w_rs)
             | ((with_reducible apply w_ds); (rotate_left); (iterate 2 (· kernel_rfl)))
             | (with_reducible apply w_r)
             | ((with_reducible apply w_d); (rotate_left); (iterate 2 (· kernel_rfl)))
             | (with_reducible apply w_sks)
             | (with_reducible apply W.skp)
             | (with_reducible apply W.ext)
             | (with_reducible apply W.rt)
             | (with_reducible apply w_blk)
             | ((with_reducible apply W.cT); (· exact rfl))
             | ((with_reducible apply W.cF); (· exact rfl))
             | ((with_reducible apply W.cn); (· exact rfl); (· infer_instance))
             | (with_reducible apply W.sq)
             | (with_reducible apply q_tn)
             | (with_reducible apply q_te)
             | (with_reducible apply q_tr)
             | (with_reducible apply q_bn)
             | (with_reducible apply q_br)
             | ((with_reducible apply q_be); (· exact rfl))
             | ((with_reducible apply q_bx); (· exact rfl))
             | (with_reducible apply q_er)
             | (with_reducible apply q_en)
             | (with_reducible apply q_her)
             | (with_reducible apply q_hen)
             | (intro _))
            all_goals first
              | (exfalso; omega)
              | skip
            ((apply e_h []); (· repeat' (first | exact ResVs.nil | ((apply r_tmp); (· exact rfl)) | ((apply r_cellN); (iterate 5 (· exact rfl))) | ((apply r_cell1); (iterate 4 (· exact rfl))))); (· exact rfl); (· exact av_bool (by rw [hRL, t3]; simp; omega)); (· repeat' (first | exact PostOf.nil | ((apply p_cons); (iterate 2 (· exact rfl))))); (· exact rfl))
  · rw [if_neg ho] at h32 h34
    have h33 := c_33 (R []) (R []) (by simp [R])
    rw [eqI_refl] at h33
    rw [show okM n arcs = false by simpa using ho] at h35
    refine W.hfn 107 [.tmp 2] hTT Try.func4 rfl rfl rfl rfl rfl rfl rfl ?_
    repeat' (first
     | ((with_reducible apply v_hcall [91000] (h31)); (iterate 6 (· exact rfl)); (· repeat' (first | exact PreOf.nil | ((apply PreOf.same); (iterate 2 (· exact rfl))) | ((apply PreOf.ro); (iterate 2 (· exact rfl))) | ((apply PreOf.sro); (iterate 2 (· exact rfl))) | ((apply PreOf.rbox); (iterate 3 (· exact rfl))))); (iterate 2 (· exact rfl)))
     | ((with_reducible apply v_call 92000 (h32)); (iterate 3 (· exact rfl)); (· repeat' (first | exact DVsOf.nil | apply DVsOf.cons | apply DVof.one | apply DVof.agg | exact DCof.c | exact DCof.nil | exact DCof.nils | ((apply DCof.r); (iterate 2 (· exact rfl))) | ((apply DCof.rs); (iterate 2 (· exact rfl))) | ((apply DCof.mu); (· exact rfl)) | exact DCsOf.nil | apply DCsOf.cons | ((apply DVof_mp); (· exact rfl)) | ((apply DVof_ptr); (iterate 2 (· exact rfl))) | apply DVof.fn | exact DPsOf.nil | ((apply DPsOf_cons); (iterate 2 (· exact rfl))) | exact rfl)); (iterate 4 (· exact rfl)))
     | ((with_reducible apply v_call 93000 (h34)); (iterate 3 (· exact rfl)); (· repeat' (first | exact DVsOf.nil | apply DVsOf.cons | apply DVof.one | apply DVof.agg | exact DCof.c | exact DCof.nil | exact DCof.nils | ((apply DCof.r); (iterate 2 (· exact rfl))) | ((apply DCof.rs); (iterate 2 (· exact rfl))) | ((apply DCof.mu); (· exact rfl)) | exact DCsOf.nil | apply DCsOf.cons | ((apply DVof_mp); (· exact rfl)) | ((apply DVof_ptr); (iterate 2 (· exact rfl))) | apply DVof.fn | exact DPsOf.nil | ((apply DPsOf_cons); (iterate 2 (· exact rfl))) | exact rfl)); (iterate 4 (· exact rfl)))
     | ((with_reducible apply v_call 94000 (h34)); (iterate 3 (· exact rfl)); (· repeat' (first | exact DVsOf.nil | apply DVsOf.cons | apply DVof.one | apply DVof.agg | exact DCof.c | exact DCof.nil | exact DCof.nils | ((apply DCof.r); (iterate 2 (· exact rfl))) | ((apply DCof.rs); (iterate 2 (· exact rfl))) | ((apply DCof.mu); (· exact rfl)) | exact DCsOf.nil | apply DCsOf.cons | ((apply DVof_mp); (· exact rfl)) | ((apply DVof_ptr); (iterate 2 (· exact rfl))) | apply DVof.fn | exact DPsOf.nil | ((apply DPsOf_cons); (iterate 2 (· exact rfl))) | exact rfl)); (iterate 4 (· exact rfl)))
     | ((with_reducible apply v_call 4000000 (h33)); (iterate 3 (· exact rfl)); (· repeat' (first | exact DVsOf.nil | apply DVsOf.cons | apply DVof.one | apply DVof.agg | exact DCof.c | exact DCof.nil | exact DCof.nils | ((apply DCof.r); (iterate 2 (· exact rfl))) | ((apply DCof.rs); (iterate 2 (· exact rfl))) | ((apply DCof.mu); (· exact rfl)) | exact DCsOf.nil | apply DCsOf.cons | ((apply DVof_mp); (· exact rfl)) | ((apply DVof_ptr); (iterate 2 (· exact rfl))) | apply DVof.fn | exact DPsOf.nil | ((apply DPsOf_cons); (iterate 2 (· exact rfl))) | exact rfl)); (iterate 4 (· exact rfl)))
     | ((with_reducible apply v_call 4000000 (h35)); (iterate 3 (· exact rfl)); (· repeat' (first | exact DVsOf.nil | apply DVsOf.cons | apply DVof.one | apply DVof.agg | exact DCof.c | exact DCof.nil | exact DCof.nils | ((apply DCof.r); (iterate 2 (· exact rfl))) | ((apply DCof.rs); (iterate 2 (· exact rfl))) | ((apply DCof.mu); (· exact rfl)) | exact DCsOf.nil | apply DCsOf.cons | ((apply DVof_mp); (· exact rfl)) | ((apply DVof_ptr); (iterate 2 (· exact rfl))) | apply DVof.fn | exact DPsOf.nil | ((apply DPsOf_cons); (iterate 2 (· exact rfl))) | exact rfl)); (iterate 4 (· exact rfl)))
     | ((with_reducible apply v_mv); (iterate 3 (· exact rfl)))
     | ((with_reducible apply v_as); (iterate 3 (· exact rfl)))
     | ((with_reducible apply v_fa); (iterate 6 (· exact rfl)))
     | ((with_reducible apply v_far); (iterate 6 (· exact rfl)))
     | ((with_reducible apply v_ia); (iterate 8 (· exact rfl)); (iterate 2 (· first | omega | (simp only [lens, List.length_map, List.length_range]; omega))))
     | ((with_reducible apply v_lr_i64); (iterate 7 (· exact rfl)); (· first | omega | (simp only [lens, List.length_map, List.length_range]; omega)))
     | ((with_reducible apply v_ld); (iterate 6 (· exact rfl)))
     | ((with_reducible apply v_st); (iterate 7 (· exact rfl)))
     | ((with_reducible apply v_sr); (iterate 7 (· exact rfl)); (· first | omega | (simp only [lens, List.length_map, List.length_range]; omega)))
     | ((with_reducible apply v_srN); (iterate 7 (· exact rfl)); (· repeat' (first | exact RowC.nil | apply RowC.i | apply RowC.b)); (· first | omega | (simp only [lens, List.length_map, List.length_range]; omega)))
     | ((with_reducible apply v_tgt); (iterate 9 (· exact rfl)); (iterate 3 (· first | omega | (simp only [lens, List.length_map, List.length_range]; omega))); (· exact rfl))
     | ((with_reducible apply v_mks); (iterate 10 (· exact rfl)); (iterate 3 (· first | omega | (simp only [lens, List.length_map, List.length_range]; omega))))
     | ((with_reducible apply v_ext); (iterate 5 (· exact rfl)))
     | ((with_reducible apply v_cnv); (iterate 6 (· exact rfl)))
     | ((with_reducible apply v_min); (iterate 4 (· exact rfl)))
     | ((with_reducible apply v_max); (iterate 4 (· exact rfl)))
     | ((with_reducible apply v_ncr); (iterate 4 (· exact rfl)))
     | ((with_reducible apply v_ncp); (iterate 3 (· exact rfl)))
     | ((with_reducible apply v_lr_b); (iterate 7 (· exact rfl)); (· first | omega | (simp only [lens, List.length_map, List.length_range]; omega)))
     | ((with_reducible apply v_lr_u8); (iterate 7 (· exact rfl)); (· first | omega | (simp only [lens, List.length_map, List.length_range]; omega)))
     | ((with_reducible apply v_mkf); (iterate 3 (· exact rfl)))
     | ((with_reducible apply v_lss); (iterate 4 (· exact rfl)))
     | ((with_reducible apply v_leq); (iterate 4 (· exact rfl)))
     | ((with_reducible apply v_gtr); (iterate 4 (· exact rfl)))
     | ((with_reducible apply v_geq); (iterate 4 (· exact rfl)))
     | ((with_reducible apply v_eql); (iterate 4 (· exact rfl)))
     | ((with_reducible apply v_neq); (iterate 4 (· exact rfl)))
     | ((with_reducible apply v_add); (iterate 4 (· exact rfl)); (· first | omega | (simp only [lens, List.length_map, List.length_range]; omega)))
     | ((with_reducible apply v_sub); (iterate 4 (· exact rfl)); (· first | omega | (simp only [lens, List.length_map, List.length_range]; omega)))
     | ((with_reducible apply v_pkT); (iterate 4 (· exact rfl)))
     | ((with_reducible apply v_pkF); (iterate 4 (· exact rfl)))
     | ((with_reducible apply v_not); (iterate 3 (· exact rfl)))
     | ((with_reducible apply v_len); (iterate 5 (· exact rfl)))
     | ((with_reducible apply v_lenn); (iterate 4 (· exact rfl)))
     | ((with_reducible apply v_lit); (iterate 9 (· exact rfl)); (· repeat' (first | exact PartsC.nil | ((apply PartsC.cons); (· exact rfl)) | exact RowC.nil | apply RowC.i | apply RowC.b)))
     | ((with_reducible apply v_ap); (iterate 11 (· exact rfl)); (· first | omega | (simp only [lens, List.length_map, List.length_range]; omega)))
     | ((with_reducible apply v_ap0); (iterate 10 (· exact rfl)); (· first | omega | (simp only [lens, List.length_map, List.length_range]; omega)))
     | ((with_reducible apply v_alc); (iterate 5 (· exact rfl)))
     | ((with_reducible apply v_box); (iterate 4 (· exact rfl)))
     | ((with_reducible apply v_ldN); (iterate 7 (· exact rfl)))
     | ((with_reducible apply v_lrN); (iterate 8 (· exact rfl)); (· first | omega | (simp only [lens, List.length_map, List.length_range]; omega)))
     | ((with_reducible apply v_fld); (iterate 5 (· exact rfl)); (· kernel_rfl))
     | ((with_reducible apply v_bld); (iterate 6 (· exact rfl)))
     | ((with_reducible apply v_no); (iterate 2 (· exact rfl)))
     | ((with_reducible apply v_no'); (· exact rfl))
     | ((with_reducible apply v_ift); (iterate 2 (· exact rfl)); (· infer_instance))
     | ((with_reducible apply v_iff); (iterate 2 (· exact rfl)); (· infer_instance))
     | ((with_reducible apply v_pif); (· exact rfl); (· infer_instance))
     | (with_reducible apply vo_nil0)
     | ((with_reducible apply vo_nil); (· kernel_rfl))
     | (with_reducible apply w_rs)
     | ((with_reducible apply w_ds); (rotate_left); (iterate 2 (· kernel_rfl)))
     | (with_reducible apply w_r)
     | ((with_reducible apply w_d); (rotate_left); (iterate 2 (· kernel_rfl)))
     | (with_reducible apply w_sks)
     | (with_reducible apply W.skp)
     | (with_reducible apply W.ext)
     | (with_reducible apply W.rt)
     | (with_reducible apply w_blk)
     | ((with_reducible apply W.cT); (· exact rfl))
     | ((with_reducible apply W.cF); (· exact rfl))
     | ((with_reducible apply W.cn); (· exact rfl); (· infer_instance))
     | (with_reducible apply W.sq)
     | (with_reducible apply q_tn)
     | (with_reducible apply q_te)
     | (with_reducible apply q_tr)
     | (with_reducible apply q_bn)
     | (with_reducible apply q_br)
     | ((with_reducible apply q_be); (· exact rfl))
     | ((with_reducible apply q_bx); (· exact rfl))
     | (with_reducible apply q_er)
     | (with_reducible apply q_en)
     | (with_reducible apply q_her)
     | (with_reducible apply q_hen)
     | (intro _))
    all_goals
      ((apply e_h []); (· repeat' (first | exact ResVs.nil | ((apply r_tmp); (· exact rfl)) | ((apply r_cellN); (iterate 5 (· exact rfl))) | ((apply r_cell1); (iterate 4 (· exact rfl))))); (· exact rfl); (· exact rfl); (· repeat' (first | exact PostOf.nil | ((apply p_cons); (iterate 2 (· exact rfl))))); (· exact rfl))
theorem c_4all (b : List (List Int)) (hb : By b) (hl : b.length ≤ 9223372036854775807) : HOK Try.prog 4 ⟨codeA b, codeP b, .one (.c (.bool true)), []⟩ := by
  by_cases h : 1048576 < b.length
  · exact c_4big b h hl
  · exact c_4 b hb (by omega)
end Go.AM
