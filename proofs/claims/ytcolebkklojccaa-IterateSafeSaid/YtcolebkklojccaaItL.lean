/-
  ItL: walks of functions of the program at data level.
-/
import Derived.Test.YtcolebkklojccaaProg
import Derived.Test.YtcolebkklojccaaEngZ
import Derived.Test.YtcolebkklojccaaItJ
import Derived.KernelRfl
set_option linter.unusedVariables false
set_option linter.unusedSimpArgs false
namespace Go.Proofs.Ytcolebkklojccaa.E
open Go
set_option maxHeartbeats 4000000
set_option maxRecDepth 100000
set_option linter.unusedSimpArgs false
set_option linter.unusedVariables false
attribute [local congr] c_wp c_ops c_op c_opS c_run c_runS c_dt c_seq c_blk c_loop c_S c_put c_bind c_mv c_pick c_nt c_ng c_bin c_binI c_binS c_beq c_B c_eqa c_hd c_cells c_blkK c_box c_vec c_mp c_nck c_mks c_appn c_mkm c_mput c_mlk c_mrm c_take c_ld c_ldF c_cellsK c_st c_fld c_fldv c_ix c_ixp c_ixv c_ixs c_sub c_subs c_len c_lens c_src c_dst c_ow c_app c_ext c_mm c_conv c_str c_isn c_fill c_rows c_boxo c_frz c_frzO c_frzA c_frzV c_spec c_specO c_opsP c_opP c_runP c_specP c_Z c_qretP c_fz c_fn c_gv c_cond c_res1 c_resL c_ret c_qret c_ite c_unr c_nx c_bk c_cut c_is
attribute [local irreducible] dwp

def memI (ids : List Int) (i : Int) : Bool := ids.any fun k => decide (k = i)
theorem memI_snoc (pre : List Int) (x i : Int) : memI (pre ++ [x]) i = (memI pre i || decide (x = i)) := by simp [memI]
theorem memI_of {ids : List Int} {i : Int} (h : i ∈ ids) : memI ids i = true := by
  unfold memI
  rw [List.any_eq_true]
  exact ⟨i, h, by simp⟩
theorem keep_set {l : List Ent} {q k : Ent} (h : ∃ y ∈ l, isK k y = true) : ∃ y ∈ setS l q, isK k y = true := by
  obtain ⟨y, hy, hk⟩ := h
  have hs : y ∈ l.takeWhile (bq q) ++ l.dropWhile (bq q) := by rw [List.takeWhile_append_dropWhile]; exact hy
  unfold setS
  rcases List.mem_append.1 hs with hs | hs
  · exact ⟨y, List.mem_append.2 (.inl hs), hk⟩
  · cases hd : l.dropWhile (bq q) with
    | nil => rw [hd] at hs; simp at hs
    | cons z rest =>
      rw [hd] at hs
      simp only
      have hz : bq q z = false := by
        have := List.head?_dropWhile_not (bq q) l
        rw [hd] at this
        simpa using this
      by_cases hp : precB q z = false
      · rw [if_pos hp]
        rcases List.mem_cons.1 hs with rfl | hs
        · refine ⟨q, by simp, ?_⟩
          have hq : isK y q = true := by
            rcases prec_tri y q with h | h | h
            · rw [show bq q y = precB y q from rfl, h] at hz
              cases hz
            · exact h
            · rw [h] at hp
              cases hp
          rw [isK_iff] at *
          exact ⟨by rw [hq.1, hk.1], by rw [hq.2, hk.2]⟩
        · exact ⟨y, by simp [hs], hk⟩
      · rw [if_neg hp]
        exact ⟨y, by simp [List.mem_cons.1 hs], hk⟩
/-- what an entry of the result is -/
def goodE (es : List Ev) (st : List Ent) (ids : List Int) (x : Ent) : Prop := x ∈ st ∨ ∃ e, es.find? (hasId x.ident) = some e ∧ memI ids x.ident = true ∧ e.kind = x.kind ∧ e.key = x.key ∧ stateB e.kind = true
theorem good_more {es : List Ev} {st : List Ent} {l : List Int} {i : Int} {x : Ent} (h : goodE es st l x) : goodE es st (l ++ [i]) x := by
  rcases h with h | ⟨e, h1, h2, h3⟩
  · exact .inl h
  · exact .inr ⟨e, h1, by rw [memI_snoc, h2]; rfl, h3⟩
theorem apply_good (es : List Ev) (st : List Ent) : ∀ (n : Nat) (ids : List Int), ids.length = n → ∀ x ∈ applyR es st ids, goodE es st ids x
  | 0, ids, hn, x, hx => by
    obtain rfl := List.eq_nil_of_length_eq_zero hn
    exact .inl hx
  | n + 1, ids, hn, x, hx => by
    have hne : ids ≠ [] := by rintro rfl; simp at hn
    have he := List.dropLast_concat_getLast hne
    generalize ids.getLast hne = i at he
    generalize hl : ids.dropLast = l at he
    subst he
    have hn' : l.length = n := by simpa using hn
    rw [apply_snoc] at hx
    unfold stepR at hx
    cases hf : es.find? (hasId i) with
    | none =>
      rw [hf] at hx
      exact good_more (apply_good es st n l hn' x hx)
    | some e =>
      rw [hf] at hx
      dsimp only at hx
      split at hx
      · rename_i hok
        rcases mem_setS hx with rfl | hx
        · have hi : e.ident = i := by
            have := List.find?_some hf
            simpa [hasId] using this
          simp only [okE, Bool.and_eq_true] at hok
          refine .inr ⟨e, ?_, ?_, rfl, rfl, hok.1⟩
          · show es.find? (hasId e.ident) = some e
            rw [hi, hf]
          · show memI (l ++ [i]) e.ident = true
            rw [memI_snoc, hi]
            simp
        · exact good_more (apply_good es st n l hn' x hx)
      · exact good_more (apply_good es st n l hn' x hx)
theorem step_keys {es : List Ev} {st : List Ent} {i : Int} {k : Ent} (h : ∃ y ∈ st, isK k y = true) : ∃ y ∈ stepR es st i, isK k y = true := by
  unfold stepR
  split
  · exact h
  · split
    · exact keep_set h
    · exact h
theorem apply_keys (es : List Ev) (k : Ent) : ∀ (ids : List Int) (st : List Ent), (∃ y ∈ st, isK k y = true) → ∃ y ∈ applyR es st ids, isK k y = true
  | [], _, h => h
  | i :: ids, st, h => apply_keys es k ids (stepR es st i) (step_keys h)
/-- what the law asks of each entry of the result -/
theorem entry_cases {es : List Ev} {st : List Ent} {ids : List Int} {x : Ent} (hs : srt st) (h : goodE es st ids x) : getL st ⟨x.kind, x.key, 0⟩ = (x.ident, true) ∨ (∃ gi gb e, getL st ⟨x.kind, x.key, 0⟩ = (gi, gb) ∧ ¬ (gb = true ∧ gi = x.ident) ∧ es.find? (hasId x.ident) = some e ∧ memI ids x.ident = true ∧ e.kind = x.kind ∧ e.key = x.key ∧ stateB e.kind = true) := by
  by_cases hg : getL st ⟨x.kind, x.key, 0⟩ = (x.ident, true)
  · exact .inl hg
  · rcases h with h | ⟨e, h1, h2, h3, h4, h5⟩
    · exact absurd (getL_mem hs h) hg
    · refine .inr ⟨_, _, e, rfl, ?_, h1, h2, h3, h4, h5⟩
      rintro ⟨h6, h7⟩
      exact hg (Prod.ext h7 h6)

end Go.Proofs.Ytcolebkklojccaa.E

namespace Go.Proofs.Ytcolebkklojccaa.E
open Go
set_option maxHeartbeats 4000000
set_option maxRecDepth 100000
set_option linter.unusedSimpArgs false
set_option linter.unusedVariables false
attribute [local congr] c_wp c_ops c_op c_opS c_run c_runS c_dt c_seq c_blk c_loop c_S c_put c_bind c_mv c_pick c_nt c_ng c_bin c_binI c_binS c_beq c_B c_eqa c_hd c_cells c_blkK c_box c_vec c_mp c_nck c_mks c_appn c_mkm c_mput c_mlk c_mrm c_take c_ld c_ldF c_cellsK c_st c_fld c_fldv c_ix c_ixp c_ixv c_ixs c_sub c_subs c_len c_lens c_src c_dst c_ow c_app c_ext c_mm c_conv c_str c_isn c_fill c_rows c_boxo c_frz c_frzO c_frzA c_frzV c_spec c_specO c_opsP c_opP c_runP c_specP c_Z c_qretP c_fz c_fn c_gv c_cond c_res1 c_resL c_ret c_qret c_ite c_unr c_nx c_bk c_cut c_is
attribute [local irreducible] dwp

theorem cutD' {P : Program} {Q : AE → DS → Prop} {D b : AC} {s : DS} (S : DS) (h1 : dwp P D s (kCut (kIs S) Q)) (h2 : dwp P b S Q) : dwp P D s (kSeq (dwp P b) Q) := by
  have h := seq_is (a := D) (b := b) S h1 h2
  rw [e_sq] at h
  exact h
def acD3_0 : AC := (.draw (.q false ⟨(some 34), none, (.mv (.t 1))⟩ (.q false ⟨(some 35), none, (.mv (.t 7))⟩ (.q false ⟨(some 36), none, (.mv (.t 8))⟩ (.q false ⟨(some 37), none, (.ix 3 (.t 35) (.t 36))⟩ (.q false ⟨(some 38), none, (.fld 0 (.t 37))⟩ (.q false ⟨(some 39), none, (.ld false 1 (.t 38))⟩ (.q false ⟨(some 40), none, (.mv (.t 7))⟩ (.q false ⟨(some 41), none, (.mv (.t 8))⟩ (.q false ⟨(some 42), none, (.ix 3 (.t 40) (.t 41))⟩ (.q false ⟨(some 43), none, (.fld 1 (.t 42))⟩ (.q false ⟨(some 44), none, (.ld false 1 (.t 43))⟩ (.op ⟨(some 45), none, (.call false 8 [(.t 34), (.t 39), (.t 44)])⟩ (.q false ⟨(some 33), none, (.mv (.t 45))⟩ (.alt (.op ⟨(some 46), none, (.ext (.t 33) 0)⟩ (.q true ⟨(some 9), none, (.mv (.t 46))⟩ (.op ⟨(some 47), none, (.ext (.t 33) 1)⟩ (.q false ⟨(some 10), none, (.mv (.t 47))⟩ .nil)))) (.op ⟨(some 47), none, (.ext (.t 33) 1)⟩ (.op ⟨(some 46), none, (.ext (.t 33) 0)⟩ (.q false ⟨(some 9), none, (.mv (.t 46))⟩ (.q false ⟨(some 10), none, (.mv (.t 47))⟩ .nil)))))))))))))))))))
def acD3_1 : AC := (.draw (.q false ⟨(some 126), none, (.mv (.t 7))⟩ (.q false ⟨(some 127), none, (.mv (.t 1))⟩ (.q false ⟨(some 128), none, (.mv (.t 15))⟩ (.q false ⟨(some 129), none, (.ix 3 (.t 127) (.t 128))⟩ (.q false ⟨(some 130), none, (.fld 0 (.t 129))⟩ (.q false ⟨(some 131), none, (.ld false 1 (.t 130))⟩ (.q false ⟨(some 132), none, (.mv (.t 1))⟩ (.q false ⟨(some 133), none, (.mv (.t 15))⟩ (.q false ⟨(some 134), none, (.ix 3 (.t 132) (.t 133))⟩ (.q false ⟨(some 135), none, (.fld 1 (.t 134))⟩ (.q false ⟨(some 136), none, (.ld false 1 (.t 135))⟩ (.op ⟨(some 137), none, (.call false 8 [(.t 126), (.t 131), (.t 136)])⟩ (.q false ⟨(some 125), none, (.mv (.t 137))⟩ (.alt (.op ⟨(some 138), none, (.ext (.t 125) 0)⟩ (.q true ⟨(some 16), none, (.mv (.t 138))⟩ (.op ⟨(some 139), none, (.ext (.t 125) 1)⟩ (.q false ⟨(some 17), none, (.mv (.t 139))⟩ .nil)))) (.op ⟨(some 139), none, (.ext (.t 125) 1)⟩ (.op ⟨(some 138), none, (.ext (.t 125) 0)⟩ (.q false ⟨(some 16), none, (.mv (.t 138))⟩ (.q false ⟨(some 17), none, (.mv (.t 139))⟩ .nil)))))))))))))))))))
def ac3 : AC := (.seq (.ops [⟨(some 6), none, (.mv (.c (.bool false)))⟩]) (.seq (.seq (.ops [⟨(some 18), none, (.mv (.t 0))⟩, ⟨(some 19), none, (.mv (.t 1))⟩, ⟨(some 20), none, (.mv (.t 2))⟩, ⟨(some 21), none, (.call false 5 [(.t 18), (.t 19), (.t 20)])⟩]) (.cond (.t 21) (.seq (.ops [⟨(some 22), none, (.call false 6 [])⟩, ⟨(some 6), none, (.mv (.t 22))⟩]) .ret) .skip)) (.seq (.ops [⟨(some 23), none, (.mv (.t 0))⟩, ⟨(some 24), none, (.mv (.t 1))⟩, ⟨(some 25), none, (.mv (.t 2))⟩, ⟨(some 26), none, (.call false 7 [(.t 23), (.t 24), (.t 25)])⟩, ⟨(some 7), none, (.mv (.t 26))⟩]) (.seq (.seq (.ops [⟨(some 8), none, (.mv (.c (.int .i64 0)))⟩]) (.block 0 (.loop (.seq (.seq (.ops [⟨(some 27), none, (.mv (.t 8))⟩, ⟨(some 28), none, (.mv (.t 7))⟩, ⟨(some 29), none, (.len (.t 28))⟩, ⟨(some 30), none, (.bin .lss (.t 27) (.t 29))⟩]) (.cond (.t 30) .skip (.exit 0))) (.seq (.block 1 (.seq acD3_0 (.seq (.seq (.ops [⟨(some 48), none, (.mv (.t 10))⟩, ⟨(some 49), none, (.mv (.t 48))⟩, ⟨(some 50), (some (49, true)), (.mv (.t 9))⟩, ⟨(some 51), (some (49, true)), (.mv (.t 7))⟩, ⟨(some 52), (some (49, true)), (.mv (.t 8))⟩, ⟨(some 53), (some (49, true)), (.ix 3 (.t 51) (.t 52))⟩, ⟨(some 54), (some (49, true)), (.fld 2 (.t 53))⟩, ⟨(some 55), (some (49, true)), (.ld false 1 (.t 54))⟩, ⟨(some 56), (some (49, true)), (.bin .eql (.t 50) (.t 55))⟩, ⟨(some 57), none, (.pick (.t 49) (.t 56) (.c (.bool false)))⟩]) (.cond (.t 57) (.exit 1) .skip)) (.seq (.ops [⟨(some 59), none, (.mv (.t 0))⟩, ⟨(some 60), none, (.mv (.t 7))⟩, ⟨(some 61), none, (.mv (.t 8))⟩, ⟨(some 62), none, (.ix 3 (.t 60) (.t 61))⟩, ⟨(some 63), none, (.fld 2 (.t 62))⟩, ⟨(some 64), none, (.ld false 1 (.t 63))⟩, ⟨(some 65), none, (.call false 9 [(.t 59), (.t 64)])⟩, ⟨(some 58), none, (.mv (.t 65))⟩, ⟨(some 66), none, (.ext (.t 58) 0)⟩, ⟨(some 67), none, (.ext (.t 58) 1)⟩, ⟨(some 11), none, (.alloc [(.int .i64 0), (.str []), (.str []), (.int .i64 0), (.bool false), (.str []), (.int .i64 0), (.int .i64 0), .e0, .e0, (.str []), (.int .i64 0), (.int .i64 0), (.bool false), (.str []), .e0, .e0, .e0, .e0, (.int .i64 0), (.int .i64 0), (.int .i64 0), (.int .i64 0), (.int .i64 0), (.int .i64 0), (.int .i64 0), (.int .i64 0), (.str []), (.int .i64 0)])⟩, ⟨none, none, (.sto 29 (.t 11) (.t 66))⟩, ⟨(some 12), none, (.mv (.t 67))⟩]) (.seq (.ops [⟨(some 13), none, (.mv (.c (.bool false)))⟩]) (.seq (.seq (.ops [⟨(some 14), none, (.mv (.c (.int .i64 0)))⟩]) (.block 2 (.loop (.seq (.seq (.ops [⟨(some 68), none, (.mv (.t 14))⟩, ⟨(some 69), none, (.mv (.t 2))⟩, ⟨(some 70), none, (.len (.t 69))⟩, ⟨(some 71), none, (.bin .lss (.t 68) (.t 70))⟩]) (.cond (.t 71) .skip (.exit 2))) (.seq (.block 3 (.draw (.q false ⟨(some 74), none, (.mv (.t 13))⟩ (.q false ⟨(some 75), none, (.mv (.t 74))⟩ (.q false ⟨(some 76), (some (75, false)), (.mv (.t 2))⟩ (.q false ⟨(some 77), (some (75, false)), (.mv (.t 14))⟩ (.q false ⟨(some 78), (some (75, false)), (.ix 1 (.t 76) (.t 77))⟩ (.q false ⟨(some 79), (some (75, false)), (.ld false 1 (.t 78))⟩ (.q false ⟨(some 80), (some (75, false)), (.mv (.t 7))⟩ (.q false ⟨(some 81), (some (75, false)), (.mv (.t 8))⟩ (.q false ⟨(some 82), (some (75, false)), (.ix 3 (.t 80) (.t 81))⟩ (.q false ⟨(some 83), (some (75, false)), (.fld 2 (.t 82))⟩ (.q false ⟨(some 84), (some (75, false)), (.ld false 1 (.t 83))⟩ (.q false ⟨(some 85), (some (75, false)), (.bin .eql (.t 79) (.t 84))⟩ (.q false ⟨(some 86), none, (.pick (.t 75) (.c (.bool true)) (.t 85))⟩ (.q false ⟨(some 13), none, (.mv (.t 86))⟩ .nil)))))))))))))))) (.ops [⟨(some 72), none, (.mv (.t 14))⟩, ⟨(some 73), none, (.bin .add (.t 72) (.c (.int .i64 1)))⟩, ⟨(some 14), none, (.mv (.t 73))⟩])))))) (.seq (.draw (.q false ⟨(some 87), none, (.mv (.t 12))⟩ (.q false ⟨(some 88), none, (.nt (.t 87))⟩ (.q false ⟨(some 89), none, (.mv (.t 88))⟩ (.q false ⟨(some 90), (some (89, false)), (.mv (.t 13))⟩ (.q false ⟨(some 91), (some (89, false)), (.nt (.t 90))⟩ (.q false ⟨(some 92), none, (.pick (.t 89) (.c (.bool true)) (.t 91))⟩ (.q false ⟨(some 93), none, (.mv (.t 92))⟩ (.q false ⟨(some 94), (some (93, false)), (.fld 3 (.t 11))⟩ (.q false ⟨(some 95), (some (93, false)), (.ld false 1 (.t 94))⟩ (.q false ⟨(some 96), (some (93, false)), (.mv (.t 7))⟩ (.q false ⟨(some 97), (some (93, false)), (.mv (.t 8))⟩ (.q false ⟨(some 98), (some (93, false)), (.ix 3 (.t 96) (.t 97))⟩ (.q false ⟨(some 99), (some (93, false)), (.fld 0 (.t 98))⟩ (.q false ⟨(some 100), (some (93, false)), (.ld false 1 (.t 99))⟩ (.q false ⟨(some 101), (some (93, false)), (.bin .neq (.t 95) (.t 100))⟩ (.q false ⟨(some 102), none, (.pick (.t 93) (.c (.bool true)) (.t 101))⟩ (.q false ⟨(some 103), none, (.mv (.t 102))⟩ (.q false ⟨(some 104), (some (103, false)), (.fld 5 (.t 11))⟩ (.q false ⟨(some 105), (some (103, false)), (.ld false 1 (.t 104))⟩ (.q false ⟨(some 106), (some (103, false)), (.mv (.t 7))⟩ (.q false ⟨(some 107), (some (103, false)), (.mv (.t 8))⟩ (.q false ⟨(some 108), (some (103, false)), (.ix 3 (.t 106) (.t 107))⟩ (.q false ⟨(some 109), (some (103, false)), (.fld 1 (.t 108))⟩ (.q false ⟨(some 110), (some (103, false)), (.ld false 1 (.t 109))⟩ (.q false ⟨(some 111), (some (103, false)), (.bin .neq (.t 105) (.t 110))⟩ (.q false ⟨(some 112), none, (.pick (.t 103) (.c (.bool true)) (.t 111))⟩ (.q false ⟨(some 113), none, (.mv (.t 112))⟩ (.q false ⟨(some 114), (some (113, false)), (.fld 3 (.t 11))⟩ (.q false ⟨(some 115), (some (113, false)), (.ld false 1 (.t 114))⟩ (.op ⟨(some 116), (some (113, false)), (.call false 10 [(.t 115)])⟩ (.q false ⟨(some 117), (some (113, false)), (.nt (.t 116))⟩ (.q false ⟨(some 118), none, (.pick (.t 113) (.c (.bool true)) (.t 117))⟩ .nil))))))))))))))))))))))))))))))))) (.cond (.t 118) (.seq (.ops [⟨(some 6), none, (.mv (.c (.bool false)))⟩]) .ret) .skip)))))))) (.ops [⟨(some 31), none, (.mv (.t 8))⟩, ⟨(some 32), none, (.bin .add (.t 31) (.c (.int .i64 1)))⟩, ⟨(some 8), none, (.mv (.t 32))⟩])))))) (.seq (.seq (.ops [⟨(some 15), none, (.mv (.c (.int .i64 0)))⟩]) (.block 4 (.loop (.seq (.seq (.ops [⟨(some 119), none, (.mv (.t 15))⟩, ⟨(some 120), none, (.mv (.t 1))⟩, ⟨(some 121), none, (.len (.t 120))⟩, ⟨(some 122), none, (.bin .lss (.t 119) (.t 121))⟩]) (.cond (.t 122) .skip (.exit 4))) (.seq (.block 5 (.seq acD3_1 (.seq (.ops [⟨(some 140), none, (.mv (.t 17))⟩, ⟨(some 141), none, (.nt (.t 140))⟩]) (.cond (.t 141) (.seq (.ops [⟨(some 6), none, (.mv (.c (.bool false)))⟩]) .ret) .skip)))) (.ops [⟨(some 123), none, (.mv (.t 15))⟩, ⟨(some 124), none, (.bin .add (.t 123) (.c (.int .i64 1)))⟩, ⟨(some 15), none, (.mv (.t 124))⟩])))))) (.seq (.ops [⟨(some 142), none, (.call false 6 [])⟩, ⟨(some 6), none, (.mv (.t 142))⟩]) .ret))))))
theorem tr3 : Try.f3.body.bind (trCode Try.prog) = some (strip ac3) := by kernel_rfl
theorem spec3 (es : List Ev) (st : List Ent) (ids : List Int) : Spec Try.prog 3 [.fz (.sl 29 (es.map encEv)), .fz (.sl 3 (st.map encEnt)), .fz (.sl 1 (ids.map encN))] (.fz (.bool true)) := by
  refine spec_at (n := 140) (ars := [(.t 6)]) (ac := ac3) Try.func3 (by kernel_rfl) (by kernel_rfl) tr3 (by kernel_rfl) ?_
  unfold ac3
  have hgc := spec5 es st ids
  cases hg : greatR es st ids
  case true =>
    rw [hg] at hgc
    iterate 30 (all_goals (try (first
      | ((with_reducible refine of_kSpec ?_); refine call_fz (hgc) rfl ?_)
      | ((with_reducible refine of_kSpec ?_); refine call_fz (spec6) rfl ?_)
      | (with_reducible refine ite_in (fun _ => ?_) (fun _ => ?_))
      | (with_reducible refine ⟨fun _ => ?_, fun _ => ?_⟩)
      | (with_reducible refine And.intro ?_ ?_)
      | (with_reducible intro _)
      | (with_reducible exact is_in _)
      | (simp -implicitDefEqProofs only [SD, SF, SL, e_nf, reduceCtorEq, implies_true, ↓reduceIte, Nat.reduceEqDiff, Nat.reduceAdd, Nat.reduceMul, Nat.reduceSub, Nat.reduceLeDiff, Nat.reduceLT, Int.reduceLT, Int.reduceLE, Int.reduceEq, Int.reduceToNat, Int.reduceAdd, Int.reduceSub, Int.reduceNeg, Int.reduceBEq, Int.reduceBNe, Nat.reduceBEq, Int.cast_ofNat_Int, decide_true, decide_false, ne_eq, eq_self_iff_true, beq_eq_false_iff_ne, bne_iff_ne, List.replicate, *]))))
    all_goals (first | rfl | (simp_all; done) | trace_state)
  obtain ⟨hE, hl, hst, hid, hs⟩ := great_ok hg
  rw [hg] at hgc
  have q7 := spec7 es st ids (by omega) (by omega) hE
  have hT : ∀ x ∈ applyR es st ids, getL st ⟨x.kind, x.key, 0⟩ = (x.ident, true) ∨ (∃ gi gb e, getL st ⟨x.kind, x.key, 0⟩ = (gi, gb) ∧ ¬ (gb = true ∧ gi = x.ident) ∧ es.find? (hasId x.ident) = some e ∧ memI ids x.ident = true ∧ e.kind = x.kind ∧ e.key = x.key ∧ stateB e.kind = true) := fun x hx => entry_cases hs (apply_good es st _ ids rfl x hx)
  have hK : ∀ x ∈ st, (getL (applyR es st ids) ⟨x.kind, x.key, 0⟩).2 = true := by
    intro x hx
    obtain ⟨y, hy, hk⟩ := apply_keys es ⟨x.kind, x.key, 0⟩ ids st ⟨x, hx, by rw [isK_iff]; exact ⟨rfl, rfl⟩⟩
    exact getL_has hy hk
  have htl : (applyR es st ids).length ≤ maxLen := by
    have := len_applyR es ids st
    simp only [maxLen]
    omega
  generalize applyR es st ids = t at *
  clear hg hE hl hst hid hs
  replace hT := Hd.mk hT
  replace hK := Hd.mk hK
  iterate 12 (all_goals (try (first
    | ((with_reducible refine of_kSpec ?_); refine call_fz (hgc) rfl ?_)
    | ((with_reducible refine of_kSpec ?_); refine call_fz (q7) rfl ?_)
    | (with_reducible refine ite_in (fun _ => ?_) (fun _ => ?_))
    | (with_reducible refine ⟨fun _ => ?_, fun _ => ?_⟩)
    | (with_reducible refine And.intro ?_ ?_)
    | (with_reducible intro _)
    | (with_reducible exact is_in _)
    | (simp -implicitDefEqProofs only [SD, SF, SL, e_nf, reduceCtorEq, implies_true, ↓reduceIte, Nat.reduceEqDiff, Nat.reduceAdd, Nat.reduceMul, Nat.reduceSub, Nat.reduceLeDiff, Nat.reduceLT, Int.reduceLT, Int.reduceLE, Int.reduceEq, Int.reduceToNat, Int.reduceAdd, Int.reduceSub, Int.reduceNeg, Int.reduceBEq, Int.reduceBNe, Nat.reduceBEq, Int.cast_ofNat_Int, decide_true, decide_false, ne_eq, eq_self_iff_true, beq_eq_false_iff_ne, bne_iff_ne, List.replicate, *]))))
  refine loop_r (X := List Ent × List Ent × Unit) (fun n x => t = x.1 ++ x.2.1 ∧ n = x.2.1.length ∧ (True)) (fun x => [(8, .int .i64 x.1.length)]) (fun _ => []) [6, 9, 10, 11, 12, 13, 14, 27, 28, 29, 30, 31, 32, 33, 34, 35, 36, 37, 38, 39, 40, 41, 42, 43, 44, 45, 46, 47, 48, 49, 50, 51, 52, 53, 54, 55, 56, 57, 58, 59, 60, 61, 62, 63, 64, 65, 66, 67, 68, 69, 70, 71, 72, 73, 74, 75, 76, 77, 78, 79, 80, 81, 82, 83, 84, 85, 86, 87, 88, 89, 90, 91, 92, 93, 94, 95, 96, 97, 98, 99, 100, 101, 102, 103, 104, 105, 106, 107, 108, 109, 110, 111, 112, 113, 114, 115, 116, 117, 118] [11] [11] (t).length ([], t, ()) ⟨rfl, rfl, by trivial⟩ ?_ ?_
  · simp -implicitDefEqProofs only [SD, SF, SL, e_nf, reduceCtorEq, implies_true, ↓reduceIte, Nat.reduceEqDiff, Nat.reduceAdd, Nat.reduceMul, Nat.reduceSub, Nat.reduceLeDiff, Nat.reduceLT, Int.reduceLT, Int.reduceLE, Int.reduceEq, Int.reduceToNat, Int.reduceAdd, Int.reduceSub, Int.reduceNeg, Int.reduceBEq, Int.reduceBNe, Nat.reduceBEq, Int.cast_ofNat_Int, decide_true, decide_false, ne_eq, eq_self_iff_true, beq_eq_false_iff_ne, bne_iff_ne, List.replicate, encEnt, encN, encEv, evOf_s, isS_s] <;> simp
  · rintro n ⟨pre1, rest1, a1⟩ ⟨he1, rfl, hI1⟩
    dsimp only at he1 hI1
    cases rest1 with
    | nil =>
      obtain rfl : t = pre1 := by simpa using he1
      clear he1
      have hlt1 : ¬ (((t).length : Int) < ((t).length : Int)) := Int.lt_irrefl _
      iterate 30 (all_goals (try (first
        | (with_reducible refine ite_in (fun _ => ?_) (fun _ => ?_))
        | (with_reducible refine ⟨fun _ => ?_, fun _ => ?_⟩)
        | (with_reducible refine And.intro ?_ ?_)
        | (with_reducible intro _)
        | (with_reducible exact is_in _)
        | (simp -implicitDefEqProofs only [SD, SF, SL, e_nf, reduceCtorEq, implies_true, ↓reduceIte, Nat.reduceEqDiff, Nat.reduceAdd, Nat.reduceMul, Nat.reduceSub, Nat.reduceLeDiff, Nat.reduceLT, Int.reduceLT, Int.reduceLE, Int.reduceEq, Int.reduceToNat, Int.reduceAdd, Int.reduceSub, Int.reduceNeg, Int.reduceBEq, Int.reduceBNe, Nat.reduceBEq, Int.cast_ofNat_Int, decide_true, decide_false, ne_eq, eq_self_iff_true, beq_eq_false_iff_ne, bne_iff_ne, List.replicate, encEnt, encN, encEv, evOf_s, isS_s, *]))))
      refine loop_q (X := List Ent × List Ent × Unit) (fun n x => st = x.1 ++ x.2.1 ∧ n = x.2.1.length ∧ (True)) (fun x => [(15, .int .i64 x.1.length)]) (fun _ => []) [6, 16, 17, 119, 120, 121, 122, 123, 124, 125, 126, 127, 128, 129, 130, 131, 132, 133, 134, 135, 136, 137, 138, 139, 140, 141] []  (st).length ([], st, ()) ⟨rfl, rfl, by trivial⟩ ?_ ?_
      · simp -implicitDefEqProofs only [SD, SF, SL, e_nf, reduceCtorEq, implies_true, ↓reduceIte, Nat.reduceEqDiff, Nat.reduceAdd, Nat.reduceMul, Nat.reduceSub, Nat.reduceLeDiff, Nat.reduceLT, Int.reduceLT, Int.reduceLE, Int.reduceEq, Int.reduceToNat, Int.reduceAdd, Int.reduceSub, Int.reduceNeg, Int.reduceBEq, Int.reduceBNe, Nat.reduceBEq, Int.cast_ofNat_Int, decide_true, decide_false, ne_eq, eq_self_iff_true, beq_eq_false_iff_ne, bne_iff_ne, List.replicate, encEnt, encN, encEv, evOf_s, isS_s] <;> simp
      · rintro n ⟨pre3, rest3, a3⟩ ⟨he3, rfl, hI3⟩
        dsimp only at he3 hI3
        cases rest3 with
        | nil =>
          obtain rfl : st = pre3 := by simpa using he3
          clear he3
          have hlt3 : ¬ (((st).length : Int) < ((st).length : Int)) := Int.lt_irrefl _
          iterate 30 (all_goals (try (first
            | ((with_reducible refine of_kSpec ?_); refine call_fz (spec6) rfl ?_)
            | (with_reducible refine ite_in (fun _ => ?_) (fun _ => ?_))
            | (with_reducible refine ⟨fun _ => ?_, fun _ => ?_⟩)
            | (with_reducible refine And.intro ?_ ?_)
            | (with_reducible intro _)
            | (with_reducible exact is_in _)
            | (simp -implicitDefEqProofs only [SD, SF, SL, e_nf, reduceCtorEq, implies_true, ↓reduceIte, Nat.reduceEqDiff, Nat.reduceAdd, Nat.reduceMul, Nat.reduceSub, Nat.reduceLeDiff, Nat.reduceLT, Int.reduceLT, Int.reduceLE, Int.reduceEq, Int.reduceToNat, Int.reduceAdd, Int.reduceSub, Int.reduceNeg, Int.reduceBEq, Int.reduceBNe, Nat.reduceBEq, Int.cast_ofNat_Int, decide_true, decide_false, ne_eq, eq_self_iff_true, beq_eq_false_iff_ne, bne_iff_ne, List.replicate, encEnt, encN, encEv, evOf_s, isS_s, *]))))
          all_goals (first | (simp_all; done) | trace_state)

        | cons x3 rest3 =>
          have hlt3 := cut_lt he3
          have hx3 := cutD encEnt he3
          simp only [encEnt] at hx3
          simp -implicitDefEqProofs only [SD, SF, SL, e_nf, reduceCtorEq, implies_true, ↓reduceIte, Nat.reduceEqDiff, Nat.reduceAdd, Nat.reduceMul, Nat.reduceSub, Nat.reduceLeDiff, Nat.reduceLT, Int.reduceLT, Int.reduceLE, Int.reduceEq, Int.reduceToNat, Int.reduceAdd, Int.reduceSub, Int.reduceNeg, Int.reduceBEq, Int.reduceBNe, Nat.reduceBEq, Int.cast_ofNat_Int, decide_true, decide_false, ne_eq, eq_self_iff_true, beq_eq_false_iff_ne, bne_iff_ne, List.replicate, encEnt, encN, encEv, evOf_s, isS_s, hlt3]
          intro hl
          have hw3 := wrap_len (n := pre3.length) (m := (st).length) (cut_lt' he3) (by simpa using hl)
          replace he3 := Hd.mk he3
          have hgk : (getL t ⟨x3.kind, x3.key, 0⟩).2 = true := hK.out x3 (by rw [he3.out]; simp)
          obtain ⟨gi3, hg3⟩ : ∃ gi, getL t ⟨x3.kind, x3.key, 0⟩ = (gi, true) := ⟨_, Prod.ext rfl hgk⟩
          clear hgk
          iterate 30 (all_goals (try (first
            | (with_reducible refine cutD' (D := acD3_1) ?_ ?_ ?_
               rotate_left
               · unfold acD3_1
                 iterate 40 (all_goals (try (first
                   | ((with_reducible refine of_kSpec ?_); refine call_fz (spec8 t x3.kind x3.key) rfl ?_)
                   | (with_reducible refine ite_in (fun _ => ?_) (fun _ => ?_))
                   | (with_reducible refine ⟨fun _ => ?_, fun _ => ?_⟩)
                   | (with_reducible refine And.intro ?_ ?_)
                   | (with_reducible intro _)
                   | (with_reducible exact is_in _)
                   | (simp -implicitDefEqProofs only [SD, SF, SL, e_nf, reduceCtorEq, implies_true, ↓reduceIte, Nat.reduceEqDiff, Nat.reduceAdd, Nat.reduceMul, Nat.reduceSub, Nat.reduceLeDiff, Nat.reduceLT, Int.reduceLT, Int.reduceLE, Int.reduceEq, Int.reduceToNat, Int.reduceAdd, Int.reduceSub, Int.reduceNeg, Int.reduceBEq, Int.reduceBNe, Nat.reduceBEq, Int.cast_ofNat_Int, decide_true, decide_false, ne_eq, eq_self_iff_true, beq_eq_false_iff_ne, bne_iff_ne, List.replicate, encEnt, encN, encEv, evOf_s, isS_s, *])))))
            | ((with_reducible refine back_in rest3.length [6, 16, 17, 119, 120, 121, 122, 123, 124, 125, 126, 127, 128, 129, 130, 131, 132, 133, 134, 135, 136, 137, 138, 139, 140, 141] [] (pre3 ++ [x3], rest3, a3) ?_ ⟨?_, ?_, ?_⟩ ?_)
               · simp
               · exact cut_snoc he3.out
               · rfl
               · trivial
               · first | (simp -implicitDefEqProofs only [SD, SF, SL, e_nf, reduceCtorEq, implies_true, ↓reduceIte, Nat.reduceEqDiff, Nat.reduceAdd, Nat.reduceMul, Nat.reduceSub, Nat.reduceLeDiff, Nat.reduceLT, Int.reduceLT, Int.reduceLE, Int.reduceEq, Int.reduceToNat, Int.reduceAdd, Int.reduceSub, Int.reduceNeg, Int.reduceBEq, Int.reduceBNe, Nat.reduceBEq, Int.cast_ofNat_Int, decide_true, decide_false, ne_eq, eq_self_iff_true, beq_eq_false_iff_ne, bne_iff_ne, List.replicate, encEnt, encN, encEv, evOf_s, isS_s] <;> simp <;> done) | (simp -implicitDefEqProofs only [SD, SF, SL, e_nf, reduceCtorEq, implies_true, ↓reduceIte, Nat.reduceEqDiff, Nat.reduceAdd, Nat.reduceMul, Nat.reduceSub, Nat.reduceLeDiff, Nat.reduceLT, Int.reduceLT, Int.reduceLE, Int.reduceEq, Int.reduceToNat, Int.reduceAdd, Int.reduceSub, Int.reduceNeg, Int.reduceBEq, Int.reduceBNe, Nat.reduceBEq, Int.cast_ofNat_Int, decide_true, decide_false, ne_eq, eq_self_iff_true, beq_eq_false_iff_ne, bne_iff_ne, List.replicate, encEnt, encN, encEv, evOf_s, isS_s, *] <;> simp_all <;> done))
            | ((with_reducible refine of_kSpec ?_); refine call_fz (spec8 t x3.kind x3.key) rfl ?_)
            | (with_reducible refine ite_in (fun _ => ?_) (fun _ => ?_))
            | (with_reducible refine ⟨fun _ => ?_, fun _ => ?_⟩)
            | (with_reducible refine And.intro ?_ ?_)
            | (with_reducible intro _)
            | (with_reducible exact is_in _)
            | (simp -implicitDefEqProofs only [SD, SF, SL, e_nf, reduceCtorEq, implies_true, ↓reduceIte, Nat.reduceEqDiff, Nat.reduceAdd, Nat.reduceMul, Nat.reduceSub, Nat.reduceLeDiff, Nat.reduceLT, Int.reduceLT, Int.reduceLE, Int.reduceEq, Int.reduceToNat, Int.reduceAdd, Int.reduceSub, Int.reduceNeg, Int.reduceBEq, Int.reduceBNe, Nat.reduceBEq, Int.cast_ofNat_Int, decide_true, decide_false, ne_eq, eq_self_iff_true, beq_eq_false_iff_ne, bne_iff_ne, List.replicate, encEnt, encN, encEv, evOf_s, isS_s, *]))))
          all_goals (first | (simp_all; done) | trace_state)
    | cons x1 rest1 =>
      have hlt1 := cut_lt he1
      have hx1 := cutD encEnt he1
      simp only [encEnt] at hx1
      simp -implicitDefEqProofs only [SD, SF, SL, e_nf, reduceCtorEq, implies_true, ↓reduceIte, Nat.reduceEqDiff, Nat.reduceAdd, Nat.reduceMul, Nat.reduceSub, Nat.reduceLeDiff, Nat.reduceLT, Int.reduceLT, Int.reduceLE, Int.reduceEq, Int.reduceToNat, Int.reduceAdd, Int.reduceSub, Int.reduceNeg, Int.reduceBEq, Int.reduceBNe, Nat.reduceBEq, Int.cast_ofNat_Int, decide_true, decide_false, ne_eq, eq_self_iff_true, beq_eq_false_iff_ne, bne_iff_ne, List.replicate, encEnt, encN, encEv, evOf_s, isS_s, hlt1]
      intro hl
      have hw1 := wrap_len (n := pre1.length) (m := (t).length) (cut_lt' he1) htl
      replace he1 := Hd.mk he1
      rcases hT.out x1 (by rw [he1.out]; simp) with hg1 | ⟨gi, gb, e, hg1, hng, hf1, hmem, hk1, hk2, hk3⟩
      case' inr =>
        replace hmem := Hd.mk hmem
        cases gb
      all_goals try (have hng2 : ¬ gi = x1.ident := fun h => hng ⟨rfl, h⟩)
      all_goals try clear hng
      iterate 30 (all_goals (try (first
        | (with_reducible refine cutD' (D := acD3_0) ?_ ?_ ?_
           rotate_left
           · unfold acD3_0
             iterate 40 (all_goals (try (first
               | ((with_reducible refine of_kSpec ?_)
                  refine call_sub (ds' := [.sl 3 (st.map encEnt), .int .i64 x1.kind, .str x1.key]) (spec8 st x1.kind x1.key) rfl ?_ ?_
                  · simp -implicitDefEqProofs only [SD, SF, SL, e_nf, reduceCtorEq, implies_true, ↓reduceIte, Nat.reduceEqDiff, Nat.reduceAdd, Nat.reduceMul, Nat.reduceSub, Nat.reduceLeDiff, Nat.reduceLT, Int.reduceLT, Int.reduceLE, Int.reduceEq, Int.reduceToNat, Int.reduceAdd, Int.reduceSub, Int.reduceNeg, Int.reduceBEq, Int.reduceBNe, Nat.reduceBEq, Int.cast_ofNat_Int, decide_true, decide_false, ne_eq, eq_self_iff_true, beq_eq_false_iff_ne, bne_iff_ne, List.replicate, *]
                    done)
               | (with_reducible refine ite_in (fun _ => ?_) (fun _ => ?_))
               | (with_reducible refine ⟨fun _ => ?_, fun _ => ?_⟩)
               | (with_reducible refine And.intro ?_ ?_)
               | (with_reducible intro _)
               | (with_reducible exact is_in _)
               | (simp -implicitDefEqProofs only [SD, SF, SL, e_nf, reduceCtorEq, implies_true, ↓reduceIte, Nat.reduceEqDiff, Nat.reduceAdd, Nat.reduceMul, Nat.reduceSub, Nat.reduceLeDiff, Nat.reduceLT, Int.reduceLT, Int.reduceLE, Int.reduceEq, Int.reduceToNat, Int.reduceAdd, Int.reduceSub, Int.reduceNeg, Int.reduceBEq, Int.reduceBNe, Nat.reduceBEq, Int.cast_ofNat_Int, decide_true, decide_false, ne_eq, eq_self_iff_true, beq_eq_false_iff_ne, bne_iff_ne, List.replicate, encEnt, encN, encEv, evOf_s, isS_s, *])))))
        | ((with_reducible refine back_in rest1.length [6, 9, 10, 11, 12, 13, 14, 27, 28, 29, 30, 31, 32, 33, 34, 35, 36, 37, 38, 39, 40, 41, 42, 43, 44, 45, 46, 47, 48, 49, 50, 51, 52, 53, 54, 55, 56, 57, 58, 59, 60, 61, 62, 63, 64, 65, 66, 67, 68, 69, 70, 71, 72, 73, 74, 75, 76, 77, 78, 79, 80, 81, 82, 83, 84, 85, 86, 87, 88, 89, 90, 91, 92, 93, 94, 95, 96, 97, 98, 99, 100, 101, 102, 103, 104, 105, 106, 107, 108, 109, 110, 111, 112, 113, 114, 115, 116, 117, 118] [11] (pre1 ++ [x1], rest1, a1) ?_ ⟨?_, ?_, ?_⟩ ?_)
           · simp
           · exact cut_snoc he1.out
           · rfl
           · trivial
           · first | (simp -implicitDefEqProofs only [SD, SF, SL, e_nf, reduceCtorEq, implies_true, ↓reduceIte, Nat.reduceEqDiff, Nat.reduceAdd, Nat.reduceMul, Nat.reduceSub, Nat.reduceLeDiff, Nat.reduceLT, Int.reduceLT, Int.reduceLE, Int.reduceEq, Int.reduceToNat, Int.reduceAdd, Int.reduceSub, Int.reduceNeg, Int.reduceBEq, Int.reduceBNe, Nat.reduceBEq, Int.cast_ofNat_Int, decide_true, decide_false, ne_eq, eq_self_iff_true, beq_eq_false_iff_ne, bne_iff_ne, List.replicate, encEnt, encN, encEv, evOf_s, isS_s] <;> simp <;> done) | (simp -implicitDefEqProofs only [SD, SF, SL, e_nf, reduceCtorEq, implies_true, ↓reduceIte, Nat.reduceEqDiff, Nat.reduceAdd, Nat.reduceMul, Nat.reduceSub, Nat.reduceLeDiff, Nat.reduceLT, Int.reduceLT, Int.reduceLE, Int.reduceEq, Int.reduceToNat, Int.reduceAdd, Int.reduceSub, Int.reduceNeg, Int.reduceBEq, Int.reduceBNe, Nat.reduceBEq, Int.cast_ofNat_Int, decide_true, decide_false, ne_eq, eq_self_iff_true, beq_eq_false_iff_ne, bne_iff_ne, List.replicate, encEnt, encN, encEv, evOf_s, isS_s, *] <;> simp_all <;> done))
        | ((with_reducible refine of_kSpec ?_)
           refine call_sub (ds' := [.sl 3 (st.map encEnt), .int .i64 x1.kind, .str x1.key]) (spec8 st x1.kind x1.key) rfl ?_ ?_
           · simp -implicitDefEqProofs only [SD, SF, SL, e_nf, reduceCtorEq, implies_true, ↓reduceIte, Nat.reduceEqDiff, Nat.reduceAdd, Nat.reduceMul, Nat.reduceSub, Nat.reduceLeDiff, Nat.reduceLT, Int.reduceLT, Int.reduceLE, Int.reduceEq, Int.reduceToNat, Int.reduceAdd, Int.reduceSub, Int.reduceNeg, Int.reduceBEq, Int.reduceBNe, Nat.reduceBEq, Int.cast_ofNat_Int, decide_true, decide_false, ne_eq, eq_self_iff_true, beq_eq_false_iff_ne, bne_iff_ne, List.replicate, *]
             done)
        | ((with_reducible refine of_kSpec ?_)
           refine call_sub (ds' := [.sl 29 (es.map encEv), .int .i64 x1.ident]) (spec9 es x1.ident) rfl ?_ ?_
           · simp -implicitDefEqProofs only [SD, SF, SL, e_nf, reduceCtorEq, implies_true, ↓reduceIte, Nat.reduceEqDiff, Nat.reduceAdd, Nat.reduceMul, Nat.reduceSub, Nat.reduceLeDiff, Nat.reduceLT, Int.reduceLT, Int.reduceLE, Int.reduceEq, Int.reduceToNat, Int.reduceAdd, Int.reduceSub, Int.reduceNeg, Int.reduceBEq, Int.reduceBNe, Nat.reduceBEq, Int.cast_ofNat_Int, decide_true, decide_false, ne_eq, eq_self_iff_true, beq_eq_false_iff_ne, bne_iff_ne, List.replicate, *]
             done)
        | (with_reducible refine ite_in (fun _ => ?_) (fun _ => ?_))
        | (with_reducible refine ⟨fun _ => ?_, fun _ => ?_⟩)
        | (with_reducible refine And.intro ?_ ?_)
        | (with_reducible intro _)
        | (with_reducible exact is_in _)
        | (simp -implicitDefEqProofs only [SD, SF, SL, e_nf, reduceCtorEq, implies_true, ↓reduceIte, Nat.reduceEqDiff, Nat.reduceAdd, Nat.reduceMul, Nat.reduceSub, Nat.reduceLeDiff, Nat.reduceLT, Int.reduceLT, Int.reduceLE, Int.reduceEq, Int.reduceToNat, Int.reduceAdd, Int.reduceSub, Int.reduceNeg, Int.reduceBEq, Int.reduceBNe, Nat.reduceBEq, Int.cast_ofNat_Int, decide_true, decide_false, ne_eq, eq_self_iff_true, beq_eq_false_iff_ne, bne_iff_ne, List.replicate, encEnt, encN, encEv, evOf_s, isS_s, *]))))
      all_goals (
        refine loop_q (X := List Int × List Int × Bool) (fun n x => ids = x.1 ++ x.2.1 ∧ n = x.2.1.length ∧ (x.2.2 = memI x.1 x1.ident)) (fun x => [(14, .int .i64 x.1.length), (13, .bool x.2.2)]) (fun _ => []) [68, 69, 70, 71, 72, 73, 74, 75, 76, 77, 78, 79, 80, 81, 82, 83, 84, 85, 86] []  (ids).length ([], ids, false) ⟨rfl, rfl, by rfl⟩ ?_ ?_
        · simp -implicitDefEqProofs only [SD, SF, SL, e_nf, reduceCtorEq, implies_true, ↓reduceIte, Nat.reduceEqDiff, Nat.reduceAdd, Nat.reduceMul, Nat.reduceSub, Nat.reduceLeDiff, Nat.reduceLT, Int.reduceLT, Int.reduceLE, Int.reduceEq, Int.reduceToNat, Int.reduceAdd, Int.reduceSub, Int.reduceNeg, Int.reduceBEq, Int.reduceBNe, Nat.reduceBEq, Int.cast_ofNat_Int, decide_true, decide_false, ne_eq, eq_self_iff_true, beq_eq_false_iff_ne, bne_iff_ne, List.replicate, encEnt, encN, encEv, evOf_s, isS_s] <;> simp
        · rintro n ⟨pre2, rest2, a2⟩ ⟨he2, rfl, hI2⟩
          dsimp only at he2 hI2
          cases rest2 with
          | nil =>
            obtain rfl : ids = pre2 := by simpa using he2
            clear he2
            have hlt2 : ¬ (((ids).length : Int) < ((ids).length : Int)) := Int.lt_irrefl _
            rw [hmem.out] at hI2
            subst hI2
            iterate 60 (all_goals (try (first
              | ((with_reducible refine back_in rest1.length [6, 9, 10, 11, 12, 13, 14, 27, 28, 29, 30, 31, 32, 33, 34, 35, 36, 37, 38, 39, 40, 41, 42, 43, 44, 45, 46, 47, 48, 49, 50, 51, 52, 53, 54, 55, 56, 57, 58, 59, 60, 61, 62, 63, 64, 65, 66, 67, 68, 69, 70, 71, 72, 73, 74, 75, 76, 77, 78, 79, 80, 81, 82, 83, 84, 85, 86, 87, 88, 89, 90, 91, 92, 93, 94, 95, 96, 97, 98, 99, 100, 101, 102, 103, 104, 105, 106, 107, 108, 109, 110, 111, 112, 113, 114, 115, 116, 117, 118] [11] (pre1 ++ [x1], rest1, a1) ?_ ⟨?_, ?_, ?_⟩ ?_)
                 · simp
                 · exact cut_snoc he1.out
                 · rfl
                 · trivial
                 · first | (simp -implicitDefEqProofs only [SD, SF, SL, e_nf, reduceCtorEq, implies_true, ↓reduceIte, Nat.reduceEqDiff, Nat.reduceAdd, Nat.reduceMul, Nat.reduceSub, Nat.reduceLeDiff, Nat.reduceLT, Int.reduceLT, Int.reduceLE, Int.reduceEq, Int.reduceToNat, Int.reduceAdd, Int.reduceSub, Int.reduceNeg, Int.reduceBEq, Int.reduceBNe, Nat.reduceBEq, Int.cast_ofNat_Int, decide_true, decide_false, ne_eq, eq_self_iff_true, beq_eq_false_iff_ne, bne_iff_ne, List.replicate, encEnt, encN, encEv, evOf_s, isS_s] <;> simp <;> done) | (simp -implicitDefEqProofs only [SD, SF, SL, e_nf, reduceCtorEq, implies_true, ↓reduceIte, Nat.reduceEqDiff, Nat.reduceAdd, Nat.reduceMul, Nat.reduceSub, Nat.reduceLeDiff, Nat.reduceLT, Int.reduceLT, Int.reduceLE, Int.reduceEq, Int.reduceToNat, Int.reduceAdd, Int.reduceSub, Int.reduceNeg, Int.reduceBEq, Int.reduceBNe, Nat.reduceBEq, Int.cast_ofNat_Int, decide_true, decide_false, ne_eq, eq_self_iff_true, beq_eq_false_iff_ne, bne_iff_ne, List.replicate, encEnt, encN, encEv, evOf_s, isS_s, *] <;> simp_all <;> done))
              | ((with_reducible refine of_kSpec ?_); refine call_fz (spec10 _) rfl ?_)
              | (with_reducible refine ite_in (fun _ => ?_) (fun _ => ?_))
              | (with_reducible refine ⟨fun _ => ?_, fun _ => ?_⟩)
              | (with_reducible refine And.intro ?_ ?_)
              | (with_reducible intro _)
              | (with_reducible exact is_in _)
              | (simp -implicitDefEqProofs only [SD, SF, SL, e_nf, reduceCtorEq, implies_true, ↓reduceIte, Nat.reduceEqDiff, Nat.reduceAdd, Nat.reduceMul, Nat.reduceSub, Nat.reduceLeDiff, Nat.reduceLT, Int.reduceLT, Int.reduceLE, Int.reduceEq, Int.reduceToNat, Int.reduceAdd, Int.reduceSub, Int.reduceNeg, Int.reduceBEq, Int.reduceBNe, Nat.reduceBEq, Int.cast_ofNat_Int, decide_true, decide_false, ne_eq, eq_self_iff_true, beq_eq_false_iff_ne, bne_iff_ne, List.replicate, encEnt, encN, encEv, evOf_s, isS_s, *]))))
            all_goals (first | (simp_all; done) | trace_state)

          | cons x2 rest2 =>
            have hlt2 := cut_lt he2
            have hx2 := cutD encN he2
            simp only [encN] at hx2
            simp -implicitDefEqProofs only [SD, SF, SL, e_nf, reduceCtorEq, implies_true, ↓reduceIte, Nat.reduceEqDiff, Nat.reduceAdd, Nat.reduceMul, Nat.reduceSub, Nat.reduceLeDiff, Nat.reduceLT, Int.reduceLT, Int.reduceLE, Int.reduceEq, Int.reduceToNat, Int.reduceAdd, Int.reduceSub, Int.reduceNeg, Int.reduceBEq, Int.reduceBNe, Nat.reduceBEq, Int.cast_ofNat_Int, decide_true, decide_false, ne_eq, eq_self_iff_true, beq_eq_false_iff_ne, bne_iff_ne, List.replicate, encEnt, encN, encEv, evOf_s, isS_s, hlt2]
            intro hl
            have hw2 := wrap_len (n := pre2.length) (m := (ids).length) (cut_lt' he2) (by simpa using hl)
            replace he2 := Hd.mk he2
            replace hI2 := Hd.mk hI2
            iterate 60 (all_goals (try (first
              | ((with_reducible refine back_in rest2.length [68, 69, 70, 71, 72, 73, 74, 75, 76, 77, 78, 79, 80, 81, 82, 83, 84, 85, 86] [] (pre2 ++ [x2], rest2, (a2 || decide (x2 = x1.ident))) ?_ ⟨?_, ?_, ?_⟩ ?_)
                 · simp
                 · exact cut_snoc he2.out
                 · rfl
                 · (rw [memI_snoc, hI2.out])
                 · first | (simp -implicitDefEqProofs only [SD, SF, SL, e_nf, reduceCtorEq, implies_true, ↓reduceIte, Nat.reduceEqDiff, Nat.reduceAdd, Nat.reduceMul, Nat.reduceSub, Nat.reduceLeDiff, Nat.reduceLT, Int.reduceLT, Int.reduceLE, Int.reduceEq, Int.reduceToNat, Int.reduceAdd, Int.reduceSub, Int.reduceNeg, Int.reduceBEq, Int.reduceBNe, Nat.reduceBEq, Int.cast_ofNat_Int, decide_true, decide_false, ne_eq, eq_self_iff_true, beq_eq_false_iff_ne, bne_iff_ne, List.replicate, encEnt, encN, encEv, evOf_s, isS_s] <;> simp <;> done) | (simp -implicitDefEqProofs only [SD, SF, SL, e_nf, reduceCtorEq, implies_true, ↓reduceIte, Nat.reduceEqDiff, Nat.reduceAdd, Nat.reduceMul, Nat.reduceSub, Nat.reduceLeDiff, Nat.reduceLT, Int.reduceLT, Int.reduceLE, Int.reduceEq, Int.reduceToNat, Int.reduceAdd, Int.reduceSub, Int.reduceNeg, Int.reduceBEq, Int.reduceBNe, Nat.reduceBEq, Int.cast_ofNat_Int, decide_true, decide_false, ne_eq, eq_self_iff_true, beq_eq_false_iff_ne, bne_iff_ne, List.replicate, encEnt, encN, encEv, evOf_s, isS_s, *] <;> simp_all <;> done))
              | (with_reducible refine ite_in (fun _ => ?_) (fun _ => ?_))
              | (with_reducible refine ⟨fun _ => ?_, fun _ => ?_⟩)
              | (with_reducible refine And.intro ?_ ?_)
              | (with_reducible intro _)
              | (with_reducible exact is_in _)
              | (simp -implicitDefEqProofs only [SD, SF, SL, e_nf, reduceCtorEq, implies_true, ↓reduceIte, Nat.reduceEqDiff, Nat.reduceAdd, Nat.reduceMul, Nat.reduceSub, Nat.reduceLeDiff, Nat.reduceLT, Int.reduceLT, Int.reduceLE, Int.reduceEq, Int.reduceToNat, Int.reduceAdd, Int.reduceSub, Int.reduceNeg, Int.reduceBEq, Int.reduceBNe, Nat.reduceBEq, Int.cast_ofNat_Int, decide_true, decide_false, ne_eq, eq_self_iff_true, beq_eq_false_iff_ne, bne_iff_ne, List.replicate, encEnt, encN, encEv, evOf_s, isS_s, *]))))
            all_goals (first | (simp_all; done) | trace_state))

end Go.Proofs.Ytcolebkklojccaa.E
