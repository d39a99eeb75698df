/-
  Two devices of one user upload and claim keys: what the list is.
-/
import Derived.Test.YtcjlkbffmggekaaOnV
import Derived.Test.YtcjlkbffmggekaaProg
import Derived.Test.YtcjlkbffmggekaaEngZ
import Derived.KernelRfl
set_option linter.unusedVariables false
set_option linter.unusedSimpArgs false
set_option linter.unusedSimpArgs false
set_option linter.unusedVariables false
set_option maxRecDepth 100000
set_option maxHeartbeats 1000000
namespace Go.Proofs.Ytcjlkbffmggekaa.E
open Go
def nU : List UInt8 := [64, 97, 110, 110, 58, 97]
def nP : List UInt8 := [112, 104, 111, 110, 101]
def nD : List UInt8 := [100, 101, 115, 107]
/-- the list behind any number of steps: uploaded and claimed by the phone, and by the desk -/
def lst (pu pc du dc : Int) : List OT := (if du = 0 then [] else [⟨nU, nD, du, du - dc⟩]) ++ (if pu = 0 then [] else [⟨nU, nP, pu, pu - pc⟩])
structure IvO (i : Nat) (pu pc du dc : Int) : Prop where
  a : 0 ≤ pc
  b : pc ≤ pu
  c : pu - pc ≤ 200
  d : pu ≤ 100 * i
  e : 0 ≤ dc
  f : dc ≤ du
  g : du - dc ≤ 200
  h : du ≤ 100 * i
  i : i ≤ 60
theorem nmP : nameD nU nP = true := by decide +kernel
theorem nmD : nameD nU nD = true := by decide +kernel
theorem bfDP : befB nU nD nU nP = true := by decide +kernel
theorem bfPD : befB nU nP nU nD = false := by decide +kernel
theorem neDP : ¬ (nD = nP) := by decide
theorem nePD : ¬ (nP = nD) := by decide
theorem lst_len (pu pc du dc : Int) : (lst pu pc du dc).length ≤ 2 := by
  unfold lst
  by_cases h1 : du = 0 <;> by_cases h2 : pu = 0 <;> simp [h1, h2]
theorem numB_ok {u d : List UInt8} {n l : Int} (h1 : 0 ≤ l) (h2 : l ≤ 200) (h3 : l ≤ n) (h4 : n ≤ 6000) : numB ⟨u, d, n, l⟩ = false := by
  unfold numB
  simp only [decide_eq_false_iff_not]
  omega
theorem chk_lst {i : Nat} {pu pc du dc : Int} (h : IvO i pu pc du dc) : chkL (lst pu pc du dc) = 0 := by
  obtain ⟨a, b, c, d, e, f, g, hh, i⟩ := h
  have n1 := numB_ok (u := nU) (d := nD) (n := du) (l := du - dc) (by omega) (by omega) (by omega) (by omega)
  have n2 := numB_ok (u := nU) (d := nP) (n := pu) (l := pu - pc) (by omega) (by omega) (by omega) (by omega)
  unfold lst chkL
  by_cases h1 : du = 0 <;> by_cases h2 : pu = 0 <;> simp [h1, h2, chkF, validR, okPrev, nmP, nmD, bfDP]
  all_goals (try rw [h1] at n1) <;> (try rw [h2] at n2) <;> simp_all
theorem left_P (pu pc du dc : Int) (h : pu = 0 → pc = 0) : leftL (lst pu pc du dc) nU nP = pu - pc := by
  unfold lst leftL
  by_cases h1 : du = 0 <;> by_cases h2 : pu = 0 <;> simp [h1, h2, isD, neDP]
  all_goals (have := h h2; omega)
theorem left_D (pu pc du dc : Int) (h : du = 0 → dc = 0) : leftL (lst pu pc du dc) nU nD = du - dc := by
  unfold lst leftL
  by_cases h1 : du = 0 <;> by_cases h2 : pu = 0 <;> simp [h1, h2, isD, nePD]
  all_goals (have := h h1; omega)
theorem find_P (pu pc du dc : Int) : findO (lst pu pc du dc) nU nP = if pu = 0 then none else some ⟨nU, nP, pu, pu - pc⟩ := by
  unfold lst
  by_cases h1 : du = 0 <;> by_cases h2 : pu = 0 <;> simp [h1, h2, findO, neDP]
theorem find_D (pu pc du dc : Int) : findO (lst pu pc du dc) nU nD = if du = 0 then none else some ⟨nU, nD, du, du - dc⟩ := by
  unfold lst
  by_cases h1 : du = 0 <;> by_cases h2 : pu = 0 <;> simp [h1, h2, findO, nePD]
theorem full_ok {u d : List UInt8} {n l q : Int} (h1 : 0 ≤ l) (h2 : l ≤ 200) (h3 : l ≤ n) (h4 : n ≤ 6000) (h5 : 1 ≤ q) (h6 : q ≤ 100) : fullB ⟨u, d, n, l⟩ q = decide (200 < l + q) := by
  unfold fullB
  rw [wrap_in (by dsimp only; omega) (by dsimp only; omega), wrap_in (by dsimp only; omega) (by dsimp only; omega)]
  apply decide_eq_decide.2
  dsimp only
  omega
theorem up_bad (l : List OT) (u d : List UInt8) (q : Int) (h : chkL l = 0) (hn : nameD u d = true) (hq : q < 1 ∨ 100 < q) : upR l u d q = ([], 2) := by
  unfold upR
  rw [if_neg (by simp [h]), if_neg (by simp [hn]), if_pos hq]
theorem up_P_full {i : Nat} {pu pc du dc q : Int} (h : IvO i pu pc du dc) (h1 : 1 ≤ q) (h2 : q ≤ 100) (h3 : 200 < pu - pc + q) : upR (lst pu pc du dc) nU nP q = ([], 29) := by
  have hc := chk_lst h
  obtain ⟨a, b, c, d, e, f, g, hh, i⟩ := h
  unfold upR
  rw [if_neg (by simp [hc]), if_neg (by simp [nmP]), if_neg (by omega), find_P, if_neg (by omega)]
  dsimp only
  rw [full_ok (by omega) c (by omega) (by omega) h1 h2, if_pos (by simpa using h3)]
theorem up_D_full {i : Nat} {pu pc du dc q : Int} (h : IvO i pu pc du dc) (h1 : 1 ≤ q) (h2 : q ≤ 100) (h3 : 200 < du - dc + q) : upR (lst pu pc du dc) nU nD q = ([], 29) := by
  have hc := chk_lst h
  obtain ⟨a, b, c, d, e, f, g, hh, i⟩ := h
  unfold upR
  rw [if_neg (by simp [hc]), if_neg (by simp [nmD]), if_neg (by omega), find_D, if_neg (by omega)]
  dsimp only
  rw [full_ok (by omega) g (by omega) (by omega) h1 h2, if_pos (by simpa using h3)]
theorem up_P {i : Nat} {pu pc du dc q : Int} (h : IvO i pu pc du dc) (h1 : 1 ≤ q) (h2 : q ≤ 100) (h3 : pu - pc + q ≤ 200) : upR (lst pu pc du dc) nU nP q = (lst (pu + q) pc du dc, 0) := by
  have hc := chk_lst h
  obtain ⟨a, b, c, d, e, f, g, hh, i⟩ := h
  unfold upR
  rw [if_neg (by simp [hc]), if_neg (by simp [nmP]), if_neg (by omega), find_P]
  by_cases hp : pu = 0
  · rw [if_pos hp]
    have hpc : pc = 0 := by omega
    subst hp hpc
    have hq : ¬ (q = 0) := by omega
    by_cases hd : du = 0 <;> simp [lst, hd, hq, insL, bm, bfDP]
  · rw [if_neg hp]
    dsimp only
    rw [full_ok (by omega) c (by omega) (by omega) h1 h2, if_neg (by simpa using h3)]
    have hq : ¬ (pu + q = 0) := by omega
    have w1 : IntKind.i64.wrap (pu + q) = pu + q := wrap_in (by omega) (by omega)
    have w2 : IntKind.i64.wrap (pu - pc + q) = pu - pc + q := wrap_in (by omega) (by omega)
    by_cases hd : du = 0 <;> simp [lst, hd, hp, hq, updL, addO, neDP, w1, w2] <;> omega
theorem up_D {i : Nat} {pu pc du dc q : Int} (h : IvO i pu pc du dc) (h1 : 1 ≤ q) (h2 : q ≤ 100) (h3 : du - dc + q ≤ 200) : upR (lst pu pc du dc) nU nD q = (lst pu pc (du + q) dc, 0) := by
  have hc := chk_lst h
  obtain ⟨a, b, c, d, e, f, g, hh, i⟩ := h
  unfold upR
  rw [if_neg (by simp [hc]), if_neg (by simp [nmD]), if_neg (by omega), find_D]
  by_cases hp : du = 0
  · rw [if_pos hp]
    have hpc : dc = 0 := by omega
    subst hp hpc
    have hq : ¬ (q = 0) := by omega
    by_cases hd : pu = 0 <;> simp [lst, hd, hq, insL, bm, bfPD]
  · rw [if_neg hp]
    dsimp only
    rw [full_ok (by omega) g (by omega) (by omega) h1 h2, if_neg (by simpa using h3)]
    have hq : ¬ (du + q = 0) := by omega
    have w1 : IntKind.i64.wrap (du + q) = du + q := wrap_in (by omega) (by omega)
    have w2 : IntKind.i64.wrap (du - dc + q) = du - dc + q := wrap_in (by omega) (by omega)
    by_cases hd : pu = 0 <;> simp [lst, hd, hp, hq, updL, addO, nePD, w1, w2] <;> omega
theorem cl_P {i : Nat} {pu pc du dc : Int} (h : IvO i pu pc du dc) (h1 : pc < pu) : clR (lst pu pc du dc) nU nP = (lst pu (pc + 1) du dc, pc, 0) := by
  have hc := chk_lst h
  obtain ⟨a, b, c, d, e, f, g, hh, i⟩ := h
  have hp : ¬ (pu = 0) := by omega
  unfold clR
  rw [if_neg (by simp [hc]), find_P, if_neg hp]
  dsimp only
  rw [if_neg (by omega)]
  have w1 : IntKind.i64.wrap (pu - (pu - pc)) = pc := by rw [wrap_in (by omega) (by omega)]; omega
  have w2 : IntKind.i64.wrap (pu - pc - 1) = pu - pc - 1 := wrap_in (by omega) (by omega)
  by_cases hd : du = 0 <;> simp [lst, hd, hp, updL, decO, neDP, w1, w2] <;> omega
theorem cl_D {i : Nat} {pu pc du dc : Int} (h : IvO i pu pc du dc) (h1 : dc < du) : clR (lst pu pc du dc) nU nD = (lst pu pc du (dc + 1), dc, 0) := by
  have hc := chk_lst h
  obtain ⟨a, b, c, d, e, f, g, hh, i⟩ := h
  have hp : ¬ (du = 0) := by omega
  unfold clR
  rw [if_neg (by simp [hc]), find_D, if_neg hp]
  dsimp only
  rw [if_neg (by omega)]
  have w1 : IntKind.i64.wrap (du - (du - dc)) = dc := by rw [wrap_in (by omega) (by omega)]; omega
  have w2 : IntKind.i64.wrap (du - dc - 1) = du - dc - 1 := wrap_in (by omega) (by omega)
  by_cases hd : pu = 0 <;> simp [lst, hd, hp, updL, decO, nePD, w1, w2] <;> omega
theorem cl_P0 {i : Nat} {pu pc du dc : Int} (h : IvO i pu pc du dc) (h1 : ¬ pc < pu) : clR (lst pu pc du dc) nU nP = ([], 0, 5) := by
  have hc := chk_lst h
  obtain ⟨a, b, c, d, e, f, g, hh, i⟩ := h
  unfold clR
  rw [if_neg (by simp [hc]), find_P]
  by_cases hp : pu = 0
  · rw [if_pos hp]
  · rw [if_neg hp]
    dsimp only
    rw [if_pos (by omega)]
theorem cl_D0 {i : Nat} {pu pc du dc : Int} (h : IvO i pu pc du dc) (h1 : ¬ dc < du) : clR (lst pu pc du dc) nU nD = ([], 0, 5) := by
  have hc := chk_lst h
  obtain ⟨a, b, c, d, e, f, g, hh, i⟩ := h
  unfold clR
  rw [if_neg (by simp [hc]), find_D]
  by_cases hp : du = 0
  · rw [if_pos hp]
  · rw [if_neg hp]
    dsimp only
    rw [if_pos (by omega)]
end Go.Proofs.Ytcjlkbffmggekaa.E

namespace Go.Proofs.Ytcjlkbffmggekaa.E
open Go
set_option maxHeartbeats 4000000
set_option maxRecDepth 100000
set_option linter.unusedSimpArgs false
set_option linter.unusedVariables false
attribute [local congr] c_wp c_ops c_op c_opS c_run c_runS c_dt c_seq c_blk c_loop c_S c_put c_bind c_mv c_pick c_nt c_ng c_bin c_binI c_binS c_beq c_B c_eqa c_hd c_cells c_blkK c_box c_vec c_mp c_nck c_mks c_appn c_mkm c_mput c_mlk c_mrm c_take c_ld c_ldF c_cellsK c_st c_fld c_fldv c_ix c_ixp c_ixv c_ixs c_sub c_subs c_len c_lens c_src c_dst c_ow c_app c_ext c_mm c_conv c_str c_isn c_fill c_rows c_boxo c_frz c_frzO c_frzA c_frzV c_spec c_specO c_opsP c_opP c_runP c_specP c_Z c_qretP c_fz c_fn c_gv c_cond c_res1 c_resL c_ret c_qret c_ite c_unr c_nx c_bk c_cut c_is
attribute [local irreducible] dwp

structure Stp where
  other : Bool
  n : Int
def encStp (x : Stp) : List DV := [.bool x.other, .int .i64 x.n]
theorem lst0 : lst 0 0 0 0 = [] := rfl
theorem iv0 : IvO 0 0 0 0 0 := by constructor <;> omega
theorem iv_s {i : Nat} {pu pc du dc : Int} (h : IvO i pu pc du dc) (hi : i + 1 ≤ 60) : IvO (i + 1) pu pc du dc := by
  obtain ⟨a, b, c, d, e, f, g, hh, k⟩ := h
  constructor <;> omega
theorem iv_up {i : Nat} {pu pc du dc q : Int} (h : IvO i pu pc du dc) (hi : i + 1 ≤ 60) (h1 : 1 ≤ q) (h2 : q ≤ 100) (h3 : pu - pc + q ≤ 200) : IvO (i + 1) (pu + q) pc du dc := by
  obtain ⟨a, b, c, d, e, f, g, hh, k⟩ := h
  constructor <;> omega
theorem iv_ud {i : Nat} {pu pc du dc q : Int} (h : IvO i pu pc du dc) (hi : i + 1 ≤ 60) (h1 : 1 ≤ q) (h2 : q ≤ 100) (h3 : du - dc + q ≤ 200) : IvO (i + 1) pu pc (du + q) dc := by
  obtain ⟨a, b, c, d, e, f, g, hh, k⟩ := h
  constructor <;> omega
theorem iv_cp {i : Nat} {pu pc du dc : Int} (h : IvO i pu pc du dc) (hi : i + 1 ≤ 60) (h1 : pc < pu) : IvO (i + 1) pu (pc + 1) du dc := by
  obtain ⟨a, b, c, d, e, f, g, hh, k⟩ := h
  constructor <;> omega
theorem iv_cd {i : Nat} {pu pc du dc : Int} (h : IvO i pu pc du dc) (hi : i + 1 ≤ 60) (h1 : dc < du) : IvO (i + 1) pu pc du (dc + 1) := by
  obtain ⟨a, b, c, d, e, f, g, hh, k⟩ := h
  constructor <;> omega
def bd7 : AC := (.seq (.seq (.ops [⟨(some 22), none, (.mv (.t 7))⟩, ⟨(some 23), none, (.mv (.t 0))⟩, ⟨(some 24), none, (.len (.t 23))⟩, ⟨(some 25), none, (.bin .lss (.t 22) (.t 24))⟩]) (.cond (.t 25) .skip (.exit 0))) (.seq (.block 1 (.seq (.ops [⟨(some 8), none, (.mv (.c (.int .i64 0)))⟩]) (.seq (.seq (.ops [⟨(some 28), none, (.mv (.t 0))⟩, ⟨(some 29), none, (.mv (.t 7))⟩, ⟨(some 30), none, (.ix 2 (.t 28) (.t 29))⟩, ⟨(some 31), none, (.fld 0 (.t 30))⟩, ⟨(some 32), none, (.ld false 1 (.t 31))⟩]) (.cond (.t 32) (.ops [⟨(some 8), none, (.mv (.c (.int .i64 1)))⟩]) .skip)) (.seq (.seq (.ops [⟨(some 33), none, (.mv (.t 0))⟩, ⟨(some 34), none, (.mv (.t 7))⟩, ⟨(some 35), none, (.ix 2 (.t 33) (.t 34))⟩, ⟨(some 36), none, (.fld 1 (.t 35))⟩, ⟨(some 37), none, (.ld false 1 (.t 36))⟩, ⟨(some 38), none, (.bin .neq (.t 37) (.c (.int .i64 0)))⟩]) (.cond (.t 38) (.seq (.draw (.q false ⟨(some 40), none, (.mv (.t 3))⟩ (.q false ⟨(some 41), none, (.mv (.t 8))⟩ (.q false ⟨(some 42), none, (.ixp 2 1 (.t 6) (.t 41))⟩ (.q false ⟨(some 43), none, (.ld false 1 (.t 42))⟩ (.q false ⟨(some 44), none, (.mv (.t 0))⟩ (.q false ⟨(some 45), none, (.mv (.t 7))⟩ (.q false ⟨(some 46), none, (.ix 2 (.t 44) (.t 45))⟩ (.q false ⟨(some 47), none, (.fld 1 (.t 46))⟩ (.q false ⟨(some 48), none, (.ld false 1 (.t 47))⟩ (.op ⟨(some 49), none, (.call false 12 [(.t 40), (.c (.str [64, 97, 110, 110, 58, 97])), (.t 43), (.t 48)])⟩ (.q false ⟨(some 39), none, (.mv (.t 49))⟩ (.alt (.op ⟨(some 50), none, (.ext (.t 39) 0)⟩ (.q true ⟨(some 9), none, (.mv (.t 50))⟩ (.op ⟨(some 51), none, (.ext (.t 39) 1)⟩ (.q false ⟨(some 10), none, (.mv (.t 51))⟩ .nil)))) (.op ⟨(some 51), none, (.ext (.t 39) 1)⟩ (.op ⟨(some 50), none, (.ext (.t 39) 0)⟩ (.q false ⟨(some 9), none, (.mv (.t 50))⟩ (.q false ⟨(some 10), none, (.mv (.t 51))⟩ .nil))))))))))))))))) (.seq (.draw (.q false ⟨(some 52), none, (.mv (.t 0))⟩ (.q false ⟨(some 53), none, (.mv (.t 7))⟩ (.q false ⟨(some 54), none, (.ix 2 (.t 52) (.t 53))⟩ (.q false ⟨(some 55), none, (.fld 1 (.t 54))⟩ (.q false ⟨(some 56), none, (.ld false 1 (.t 55))⟩ (.q false ⟨(some 57), none, (.bin .geq (.t 56) (.c (.int .i64 1)))⟩ (.q false ⟨(some 58), none, (.mv (.t 57))⟩ (.q false ⟨(some 59), (some (58, true)), (.mv (.t 0))⟩ (.q false ⟨(some 60), (some (58, true)), (.mv (.t 7))⟩ (.q false ⟨(some 61), (some (58, true)), (.ix 2 (.t 59) (.t 60))⟩ (.q false ⟨(some 62), (some (58, true)), (.fld 1 (.t 61))⟩ (.q false ⟨(some 63), (some (58, true)), (.ld false 1 (.t 62))⟩ (.q false ⟨(some 64), (some (58, true)), (.bin .leq (.t 63) (.c (.int .i64 100)))⟩ (.q false ⟨(some 65), none, (.pick (.t 58) (.t 64) (.c (.bool false)))⟩ (.q false ⟨(some 66), none, (.mv (.t 65))⟩ (.q false ⟨(some 67), (some (66, true)), (.mv (.t 8))⟩ (.q false ⟨(some 68), (some (66, true)), (.ixp 2 1 (.t 4) (.t 67))⟩ (.q false ⟨(some 69), (some (66, true)), (.ld false 1 (.t 68))⟩ (.q false ⟨(some 70), (some (66, true)), (.mv (.t 8))⟩ (.q false ⟨(some 71), (some (66, true)), (.ixp 2 1 (.t 5) (.t 70))⟩ (.q false ⟨(some 72), (some (66, true)), (.ld false 1 (.t 71))⟩ (.q false ⟨(some 73), (some (66, true)), (.bin .sub (.t 69) (.t 72))⟩ (.q false ⟨(some 74), (some (66, true)), (.mv (.t 0))⟩ (.q false ⟨(some 75), (some (66, true)), (.mv (.t 7))⟩ (.q false ⟨(some 76), (some (66, true)), (.ix 2 (.t 74) (.t 75))⟩ (.q false ⟨(some 77), (some (66, true)), (.fld 1 (.t 76))⟩ (.q false ⟨(some 78), (some (66, true)), (.ld false 1 (.t 77))⟩ (.q false ⟨(some 79), (some (66, true)), (.bin .sub (.c (.int .i64 200)) (.t 78))⟩ (.q false ⟨(some 80), (some (66, true)), (.bin .leq (.t 73) (.t 79))⟩ (.q false ⟨(some 81), none, (.pick (.t 66) (.t 80) (.c (.bool false)))⟩ (.q false ⟨(some 11), none, (.mv (.t 81))⟩ .nil)))))))))))))))))))))))))))))))) (.seq (.seq (.ops [⟨(some 82), none, (.mv (.t 11))⟩, ⟨(some 83), none, (.mv (.t 10))⟩, ⟨(some 84), none, (.bin .eql (.t 83) (.c (.int .i64 0)))⟩, ⟨(some 85), none, (.beq true (.t 82) (.t 84))⟩]) (.cond (.t 85) (.seq (.ops [⟨(some 2), none, (.mv (.c (.bool false)))⟩]) .ret) .skip)) (.seq (.ops [⟨(some 86), none, (.mv (.t 11))⟩]) (.cond (.t 86) (.seq (.ops [⟨(some 87), none, (.mv (.t 9))⟩, ⟨(some 3), none, (.mv (.t 87))⟩]) (.draw (.q false ⟨(some 88), none, (.mv (.t 8))⟩ (.q false ⟨(some 89), none, (.mv (.t 8))⟩ (.q false ⟨(some 90), none, (.ixp 2 1 (.t 4) (.t 89))⟩ (.q false ⟨(some 91), none, (.ld false 1 (.t 90))⟩ (.q false ⟨(some 92), none, (.mv (.t 0))⟩ (.q false ⟨(some 93), none, (.mv (.t 7))⟩ (.q false ⟨(some 94), none, (.ix 2 (.t 92) (.t 93))⟩ (.q false ⟨(some 95), none, (.fld 1 (.t 94))⟩ (.q false ⟨(some 96), none, (.ld false 1 (.t 95))⟩ (.q false ⟨(some 97), none, (.bin .add (.t 91) (.t 96))⟩ (.q false ⟨(some 98), none, (.ixp 2 1 (.t 4) (.t 88))⟩ (.op ⟨none, none, (.sto 1 (.t 98) (.t 97))⟩ .nil)))))))))))))) .skip))))) (.seq (.ops [⟨(some 100), none, (.mv (.t 3))⟩, ⟨(some 101), none, (.mv (.t 8))⟩, ⟨(some 102), none, (.ixp 2 1 (.t 6) (.t 101))⟩, ⟨(some 103), none, (.ld false 1 (.t 102))⟩, ⟨(some 104), none, (.call false 15 [(.t 100), (.c (.str [64, 97, 110, 110, 58, 97])), (.t 103)])⟩, ⟨(some 99), none, (.mv (.t 104))⟩, ⟨(some 105), none, (.ext (.t 99) 0)⟩, ⟨(some 106), none, (.ext (.t 99) 1)⟩, ⟨(some 107), none, (.ext (.t 99) 2)⟩, ⟨(some 12), none, (.mv (.t 105))⟩, ⟨(some 13), none, (.mv (.t 106))⟩, ⟨(some 14), none, (.mv (.t 107))⟩]) (.seq (.seq (.draw (.q false ⟨(some 108), none, (.mv (.t 14))⟩ (.q false ⟨(some 109), none, (.bin .eql (.t 108) (.c (.int .i64 0)))⟩ (.q false ⟨(some 110), none, (.mv (.t 8))⟩ (.q false ⟨(some 111), none, (.ixp 2 1 (.t 5) (.t 110))⟩ (.q false ⟨(some 112), none, (.ld false 1 (.t 111))⟩ (.q false ⟨(some 113), none, (.mv (.t 8))⟩ (.q false ⟨(some 114), none, (.ixp 2 1 (.t 4) (.t 113))⟩ (.q false ⟨(some 115), none, (.ld false 1 (.t 114))⟩ (.q false ⟨(some 116), none, (.bin .lss (.t 112) (.t 115))⟩ (.q false ⟨(some 117), none, (.beq true (.t 109) (.t 116))⟩ (.q false ⟨(some 118), none, (.mv (.t 117))⟩ (.q false ⟨(some 119), (some (118, false)), (.mv (.t 14))⟩ (.q false ⟨(some 120), (some (118, false)), (.bin .eql (.t 119) (.c (.int .i64 0)))⟩ (.q false ⟨(some 121), (some (118, false)), (.mv (.t 120))⟩ (.q false ⟨(some 122), (some (121, true)), (.mv (.t 13))⟩ (.q false ⟨(some 123), (some (121, true)), (.mv (.t 8))⟩ (.q false ⟨(some 124), (some (121, true)), (.ixp 2 1 (.t 5) (.t 123))⟩ (.q false ⟨(some 125), (some (121, true)), (.ld false 1 (.t 124))⟩ (.q false ⟨(some 126), (some (121, true)), (.bin .neq (.t 122) (.t 125))⟩ (.q false ⟨(some 127), (some (118, false)), (.pick (.t 121) (.t 126) (.c (.bool false)))⟩ (.q false ⟨(some 128), none, (.pick (.t 118) (.c (.bool true)) (.t 127))⟩ .nil)))))))))))))))))))))) (.cond (.t 128) (.seq (.ops [⟨(some 2), none, (.mv (.c (.bool false)))⟩]) .ret) .skip)) (.seq (.ops [⟨(some 129), none, (.mv (.t 14))⟩, ⟨(some 130), none, (.bin .eql (.t 129) (.c (.int .i64 0)))⟩]) (.cond (.t 130) (.seq (.ops [⟨(some 131), none, (.mv (.t 12))⟩, ⟨(some 3), none, (.mv (.t 131))⟩]) (.ops [⟨(some 132), none, (.mv (.t 8))⟩, ⟨(some 133), none, (.mv (.t 8))⟩, ⟨(some 134), none, (.ixp 2 1 (.t 5) (.t 133))⟩, ⟨(some 135), none, (.ld false 1 (.t 134))⟩, ⟨(some 136), none, (.bin .add (.t 135) (.c (.int .i64 1)))⟩, ⟨(some 137), none, (.ixp 2 1 (.t 5) (.t 132))⟩, ⟨none, none, (.sto 1 (.t 137) (.t 136))⟩])) .skip)))))) (.seq (.draw (.q false ⟨(some 138), none, (.mv (.t 3))⟩ (.op ⟨(some 139), none, (.call false 10 [(.t 138)])⟩ (.q false ⟨(some 140), none, (.bin .neq (.t 139) (.c (.int .i64 0)))⟩ (.q false ⟨(some 141), none, (.mv (.t 140))⟩ (.q false ⟨(some 142), (some (141, false)), (.mv (.t 3))⟩ (.q false ⟨(some 144), (some (141, false)), (.ixp 2 1 (.t 4) (.c (.int .i64 0)))⟩ (.q false ⟨(some 145), (some (141, false)), (.ld false 1 (.t 144))⟩ (.q false ⟨(some 146), (some (141, false)), (.ixp 2 1 (.t 5) (.c (.int .i64 0)))⟩ (.q false ⟨(some 147), (some (141, false)), (.ld false 1 (.t 146))⟩ (.q false ⟨(some 148), (some (141, false)), (.bin .sub (.t 145) (.t 147))⟩ (.op ⟨(some 143), (some (141, false)), (.call false 17 [(.t 142), (.c (.str [64, 97, 110, 110, 58, 97])), (.c (.str [112, 104, 111, 110, 101]))])⟩ (.q false ⟨(some 149), (some (141, false)), (.bin .neq (.t 143) (.t 148))⟩ (.q false ⟨(some 150), none, (.pick (.t 141) (.c (.bool true)) (.t 149))⟩ (.q false ⟨(some 151), none, (.mv (.t 150))⟩ (.q false ⟨(some 152), (some (151, false)), (.mv (.t 3))⟩ (.q false ⟨(some 154), (some (151, false)), (.ixp 2 1 (.t 4) (.c (.int .i64 1)))⟩ (.q false ⟨(some 155), (some (151, false)), (.ld false 1 (.t 154))⟩ (.q false ⟨(some 156), (some (151, false)), (.ixp 2 1 (.t 5) (.c (.int .i64 1)))⟩ (.q false ⟨(some 157), (some (151, false)), (.ld false 1 (.t 156))⟩ (.q false ⟨(some 158), (some (151, false)), (.bin .sub (.t 155) (.t 157))⟩ (.op ⟨(some 153), (some (151, false)), (.call false 17 [(.t 152), (.c (.str [64, 97, 110, 110, 58, 97])), (.c (.str [100, 101, 115, 107]))])⟩ (.q false ⟨(some 159), (some (151, false)), (.bin .neq (.t 153) (.t 158))⟩ (.q false ⟨(some 160), none, (.pick (.t 151) (.c (.bool true)) (.t 159))⟩ .nil)))))))))))))))))))))))) (.cond (.t 160) (.seq (.ops [⟨(some 2), none, (.mv (.c (.bool false)))⟩]) .ret) .skip)))))) (.ops [⟨(some 26), none, (.mv (.t 7))⟩, ⟨(some 27), none, (.bin .add (.t 26) (.c (.int .i64 1)))⟩, ⟨(some 7), none, (.mv (.t 27))⟩])))
abbrev X7 : Type := List Stp × List Stp × DV × Int × Int × Int × Int
def st7 (ss : List Stp) (x : X7) : DS := ⟨[.sl 2 (ss.map encStp), .any, .bool false, x.2.2.1, .ml 4 0, .ml 5 0, .ml 6 0, .int .i64 x.1.length] ++ List.replicate 154 .any, [(4, .box [.int .i64 x.2.2.2.1, .int .i64 x.2.2.2.2.2.1]), (5, .box [.int .i64 x.2.2.2.2.1, .int .i64 x.2.2.2.2.2.2]), (6, .box [.str [112, 104, 111, 110, 101], .str [100, 101, 115, 107]])]⟩
abbrev R7 (ss : List Stp) (n : Nat) (x : X7) : Prop := ss = x.1 ++ x.2.1 ∧ n = x.2.1.length ∧ ((x.2.2.1 = .e0 ∧ x.2.2.2.1 = 0 ∧ x.2.2.2.2.1 = 0 ∧ x.2.2.2.2.2.1 = 0 ∧ x.2.2.2.2.2.2 = 0) ∨ x.2.2.1 = .sl 4 ((lst x.2.2.2.1 x.2.2.2.2.1 x.2.2.2.2.2.1 x.2.2.2.2.2.2).map encOT)) ∧ IvO x.1.length x.2.2.2.1 x.2.2.2.2.1 x.2.2.2.2.2.1 x.2.2.2.2.2.2

end Go.Proofs.Ytcjlkbffmggekaa.E
