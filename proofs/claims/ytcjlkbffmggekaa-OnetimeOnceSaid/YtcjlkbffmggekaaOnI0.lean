/-
  OnI0: walks of functions of the program at data level.
-/
import Derived.Test.YtcjlkbffmggekaaProg
import Derived.Test.YtcjlkbffmggekaaEngZ
import Derived.Test.YtcjlkbffmggekaaOnG
import Derived.Shelf.Lay
import Derived.Shelf.Strings.Search1
import Derived.KernelRfl
set_option linter.unusedVariables false
set_option linter.unusedSimpArgs false
namespace Go.Proofs.Ytcjlkbffmggekaa.E
open Go
set_option maxHeartbeats 4000000
set_option maxRecDepth 100000
set_option linter.unusedSimpArgs false
set_option linter.unusedVariables false
attribute [local congr] c_wp c_ops c_op c_opS c_run c_runS c_dt c_seq c_blk c_loop c_S c_put c_bind c_mv c_pick c_nt c_ng c_bin c_binI c_binS c_beq c_B c_eqa c_hd c_cells c_blkK c_box c_vec c_mp c_nck c_mks c_appn c_mkm c_mput c_mlk c_mrm c_take c_ld c_ldF c_cellsK c_st c_fld c_fldv c_ix c_ixp c_ixv c_ixs c_sub c_subs c_len c_lens c_src c_dst c_ow c_app c_ext c_mm c_conv c_str c_isn c_fill c_rows c_boxo c_frz c_frzO c_frzA c_frzV c_spec c_specO c_opsP c_opP c_runP c_specP c_Z c_qretP c_fz c_fn c_gv c_cond c_res1 c_resL c_ret c_qret c_ite c_unr c_nx c_bk c_cut c_is
attribute [local irreducible] dwp

def Try.lays217_ren : Go.Shelf.Ren := ⟨fun | 217 => 50 | 266 => 56 | n => n, fun | 9 => 9 | 5 => 5 | 3 => 3 | n => n, fun | n => n⟩
theorem Try.lays217 : Go.Proofs.Lays.n217 Try.prog Try.lays217_ren := {
  mixed := by kernel_rfl
  f217 := Try.func50.trans (congrArg some (by kernel_rfl))
  f266 := Try.func56.trans (congrArg some (by kernel_rfl))
  t3 := Try.underlying3
  a3 := Try.isAgg3
  z3 := Try.sizeOf3
  v3 := Try.zeroValue3
  t5 := Try.underlying5
  a5 := Try.isAgg5
  z5 := Try.sizeOf5
  v5 := Try.zeroValue5
  t9 := Try.underlying9
  a9 := Try.isAgg9
  z9 := Try.sizeOf9
  v9 := Try.zeroValue9 }
theorem spec50 (l : List UInt8) (n : Int) : Spec Try.prog 50 [.fz (.str l), .fz (.int .u8 n)] (.fz (.int .i64 (Lib.indexByte l n.toNat.toUInt8))) := by
  refine ⟨by kernel_rfl, fun F w vs hf hargs _ => ?_⟩
  obtain ⟨v, r, e, h1, h2⟩ := hargs
  obtain ⟨v2, r2, e2, h3, h4⟩ := h2
  have h4 : r2 = [] := h4
  have h1 : RF F w (.str l) v := h1
  have h3 : RF F w (.int .u8 n) v2 := h3
  rw [RF] at h1
  rw [RF] at h3
  obtain ⟨rfl, -⟩ := h1
  subst h3 h4 e2
  obtain rfl : vs = #[.string ⟨l.toArray⟩, .int .u8 n] := by apply Array.ext'; simpa using e
  refine (Any.stringslite_IndexByte Try.lays217 ⟨l.toArray⟩ n w).mono ?_
  rintro e w' ⟨rfl, rfl⟩
  exact ⟨_, F, rfl, ⟨fun _ _ h => h, fun _ _ h => .inl h, hf, Nat.le_refl _, fun _ _ _ => rfl, rfl, rfl, rfl⟩, by show RF _ _ _ _; rw [RF]⟩

end Go.Proofs.Ytcjlkbffmggekaa.E
