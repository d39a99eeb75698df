/-
  Plain laws about lists of files: what keeps a list valid, and what is found in it.
-/
import Derived.Test.YtfcjmblhcakhaaaMdN
set_option linter.unusedVariables false
set_option linter.unusedSimpArgs false
namespace Go.Proofs.Ytfcjmblhcakhaaa.E
open Go
set_option linter.unusedVariables false
set_option linter.unusedSimpArgs false

theorem less_tri : ∀ a b : List UInt8, Op.bytesLess a b = true ∨ a = b ∨ Op.bytesLess b a = true
  | [], [] => .inr (.inl rfl)
  | [], _ :: _ => .inl rfl
  | _ :: _, [] => .inr (.inr rfl)
  | a :: x, b :: y => by
    simp only [Op.bytesLess]
    rcases Nat.lt_trichotomy a.toNat b.toNat with h | h | h
    · exact .inl (by simp [UInt8.lt_iff_toNat_lt, h])
    · have e : a = b := UInt8.toNat_inj.1 h
      subst e
      rcases less_tri x y with h | h | h
      · exact .inl (by simp [h])
      · exact .inr (.inl (by rw [h]))
      · exact .inr (.inr (by simp [h]))
    · exact .inr (.inr (by simp [UInt8.lt_iff_toNat_lt, h]))
theorem bef_tri (a b c d : List UInt8) : befB a b c d = true ∨ (a = c ∧ b = d) ∨ befB c d a b = true := by
  unfold befB
  rcases less_tri a c with h | h | h
  · exact .inl (by simp [h])
  · subst h
    rcases less_tri b d with h | h | h
    · exact .inl (by simp [h])
    · exact .inr (.inl ⟨rfl, h⟩)
    · exact .inr (.inr (by simp [h]))
  · exact .inr (.inr (by simp [h]))

theorem chkF_cons {p : Option Md} {m : Md} {r : List Md} : chkF p (m :: r) = 0 ↔ validR m = 0 ∧ okPrev p m = true ∧ chkF (some m) r = 0 := by
  have e : chkF p (m :: r) = if validR m ≠ 0 then validR m else if okPrev p m = false then 8 else chkF (some m) r := by rw [chkF]
  rw [e]
  constructor
  · intro h
    split at h
    · omega
    · split at h
      · omega
      · rename_i h1 h2
        exact ⟨by omega, by simpa using h2, h⟩
  · rintro ⟨h1, h2, h3⟩
    rw [if_neg (by omega), if_neg (by simp [h2])]
    exact h3
theorem chk_map (f : Md → Md) (hs : ∀ x, (f x).server = x.server) (hn : ∀ x, (f x).name = x.name) : ∀ (l : List Md) (p p' : Option Md), (∀ m, okPrev p' m = okPrev p m) → (∀ x ∈ l, validR x = 0 → validR (f x) = 0) → chkF p l = 0 → chkF p' (l.map f) = 0
  | [], _, _, _, _, _ => rfl
  | x :: r, p, p', hp, hv, h => by
    rw [chkF_cons] at h
    rw [List.map_cons, chkF_cons]
    refine ⟨hv x (by simp) h.1, ?_, chk_map f hs hn r (some x) (some (f x)) (fun m => by simp [okPrev, hs, hn]) (fun y hy => hv y (by simp [hy])) h.2.2⟩
    have : okPrev p' (f x) = okPrev p' x := by cases p' <;> simp [okPrev, hs, hn]
    rw [this, hp]
    exact h.2.1
theorem chk_upd (f : Md → Md) (hs : ∀ x, (f x).server = x.server) (hn : ∀ x, (f x).name = x.name) (u v : List UInt8) : ∀ (l : List Md) (p : Option Md), (∀ x ∈ l, validR x = 0 → validR (f x) = 0) → chkF p l = 0 → chkF p (updL f l u v) = 0
  | [], _, _, _ => rfl
  | x :: r, p, hv, h => by
    rw [chkF_cons] at h
    unfold updL
    split
    · rw [chkF_cons]
      refine ⟨hv x (by simp) h.1, ?_, ?_⟩
      · have : okPrev p (f x) = okPrev p x := by cases p <;> simp [okPrev, hs, hn]
        rw [this]
        exact h.2.1
      · have := chk_map id (fun _ => rfl) (fun _ => rfl) r (some x) (some (f x)) (fun m => by simp [okPrev, hs, hn]) (fun y hy h => h) h.2.2
        simpa using this
    · rw [chkF_cons]
      exact ⟨h.1, h.2.1, chk_upd f hs hn u v r (some x) (fun y hy => hv y (by simp [hy])) h.2.2⟩
theorem ins_cons (x : Md) (r : List Md) (m : Md) : insL (x :: r) m = if bm m x = true then x :: insL r m else m :: x :: r := by
  unfold insL
  rw [List.takeWhile_cons, List.dropWhile_cons]
  split <;> rfl
theorem chk_ins {m : Md} (hm : validR m = 0) : ∀ (l : List Md) (p : Option Md), chkF p l = 0 → okPrev p m = true → findM l m.server m.name = none → chkF p (insL l m) = 0
  | [], p, _, h, _ => by
    show chkF p [m] = 0
    rw [chkF_cons]
    exact ⟨hm, h, rfl⟩
  | x :: r, p, h, hp, hf => by
    rw [chkF_cons] at h
    unfold findM at hf
    split at hf
    · cases hf
    · rename_i hne
      rw [ins_cons]
      split
      · rename_i hb
        rw [chkF_cons]
        exact ⟨h.1, h.2.1, chk_ins hm r (some x) h.2.2 hb hf⟩
      · rename_i hb
        rw [chkF_cons, chkF_cons]
        refine ⟨hm, hp, h.1, ?_, h.2.2⟩
        rcases bef_tri x.server x.name m.server m.name with h1 | h1 | h1
        · exact absurd h1 hb
        · exact absurd h1 hne
        · exact h1
theorem find_ins (m : Md) (u v : List UInt8) : ∀ (l : List Md), (m.server = u ∧ m.name = v → findM l u v = none) → findM (insL l m) u v = if m.server = u ∧ m.name = v then some m else findM l u v
  | [], _ => by
    show findM [m] u v = _
    simp only [findM]
  | x :: r, h => by
    rw [ins_cons]
    split
    · by_cases hx : x.server = u ∧ x.name = v
      · have hm : ¬ (m.server = u ∧ m.name = v) := by
          intro e
          have := h e
          simp [findM, hx] at this
        simp [findM, hx, hm]
      · have h' : m.server = u ∧ m.name = v → findM r u v = none := by
          intro e
          have := h e
          simpa [findM, hx] using this
        have ih := find_ins m u v r h'
        simp only [findM, hx, if_false, ih]
    · by_cases hm : m.server = u ∧ m.name = v
      · simp [findM, hm]
      · simp [findM, hm]
theorem find_upd (f : Md → Md) (hs : ∀ x, (f x).server = x.server) (hn : ∀ x, (f x).name = x.name) (u v s n : List UInt8) : ∀ (l : List Md), findM (updL f l u v) s n = if u = s ∧ v = n then (findM l s n).map f else findM l s n
  | [] => by simp [updL, findM]
  | x :: r => by
    have ih := find_upd f hs hn u v s n r
    by_cases hk : u = s ∧ v = n
    · rw [if_pos hk] at ih ⊢
      obtain ⟨rfl, rfl⟩ := hk
      unfold updL
      by_cases hx : x.server = u ∧ x.name = v
      · simp [findM, hx, hs, hn]
      · simp [findM, hx, ih]
    · rw [if_neg hk] at ih ⊢
      unfold updL
      by_cases hx : x.server = u ∧ x.name = v
      · have hne : ¬ (x.server = s ∧ x.name = n) := by
          rintro ⟨rfl, rfl⟩
          exact hk ⟨hx.1.symm, hx.2.symm⟩
        simp only [hx, and_self, if_true, findM, hs, hn]
        have hne' : ¬ (u = s ∧ v = n) := hk
        simp [hne']
      · simp only [hx, if_false, findM, ih]
theorem find_map (f : Md → Md) (hs : ∀ x, (f x).server = x.server) (hn : ∀ x, (f x).name = x.name) (s n : List UInt8) : ∀ (l : List Md), findM (l.map f) s n = (findM l s n).map f
  | [] => rfl
  | x :: r => by
    have ih := find_map f hs hn s n r
    by_cases hx : x.server = s ∧ x.name = n <;> simp [findM, hs, hn, hx, ih]
theorem find_mem : ∀ (l : List Md) (u v : List UInt8) (m : Md), findM l u v = some m → m ∈ l ∧ m.server = u ∧ m.name = v
  | x :: r, u, v, m, h => by
    unfold findM at h
    split at h
    · rename_i hx
      cases h
      exact ⟨by simp, hx⟩
    · obtain ⟨h1, h2⟩ := find_mem r u v m h
      exact ⟨by simp [h1], h2⟩
theorem len_upd (f : Md → Md) (u v : List UInt8) : ∀ l : List Md, (updL f l u v).length = l.length
  | [] => rfl
  | x :: r => by
    unfold updL
    split
    · rfl
    · simp [len_upd f u v r]
theorem len_ins (m : Md) : ∀ l : List Md, (insL l m).length = l.length + 1
  | [] => rfl
  | x :: r => by
    rw [ins_cons]
    split
    · simp [len_ins m r]
    · rfl
theorem valid_named {m : Md} (h : validR m = 0) : namedB m.server m.name = true := by
  unfold validR at h
  split at h
  · omega
  · rename_i h1
    simpa using h1
theorem valid_of {m : Md} (h1 : namedB m.server m.name = true) (h2 : ¬ (m.size < 0 ∨ 1000000000000 < m.size ∨ m.time < 0 ∨ 1000000000 < m.time ∨ m.st < 0 ∨ 3 < m.st)) : validR m = 0 := by
  unfold validR
  rw [if_neg (by simp [h1]), if_neg h2]
theorem valid_nums {m : Md} (h : validR m = 0) : ¬ (m.size < 0 ∨ 1000000000000 < m.size ∨ m.time < 0 ∨ 1000000000 < m.time ∨ m.st < 0 ∨ 3 < m.st) := by
  unfold validR at h
  split at h
  · omega
  · split at h
    · omega
    · assumption
theorem chk_find {l : List Md} (hc : chkL l = 0) {u v : List UInt8} {m : Md} (h : findM l u v = some m) : validR m = 0 ∧ namedB u v = true := by
  obtain ⟨h1, h2, h3⟩ := find_mem l u v m h
  have hv := chkF_valid l none hc m h1
  exact ⟨hv, by have := valid_named hv; rwa [h2, h3] at this⟩

/-! what the operations keep -/
theorem ex_facts (own : List UInt8) (now age : Int) (x : Md) : (exM own now age x).server = x.server ∧ (exM own now age x).name = x.name ∧ (exM own now age x).size = x.size ∧ (exM own now age x).time = x.time ∧ ((exM own now age x).st = x.st ∨ (exM own now age x).st = 3) := by
  unfold exM
  split <;> simp
theorem ex_valid {own : List UInt8} {now age : Int} {x : Md} (h : validR x = 0) : validR (exM own now age x) = 0 := by
  obtain ⟨h1, h2, h3, h4, h5⟩ := ex_facts own now age x
  have hn := valid_named h
  have hv := valid_nums h
  exact valid_of (by rw [h1, h2]; exact hn) (by rw [h3, h4]; omega)
theorem exp_keep {l : List Md} (own : List UInt8) (now age : Int) (hc : chkL l = 0) : expR l own now age = l.map (exM own now (mx0 age)) ∧ chkL (expR l own now age) = 0 ∧ (expR l own now age).length = l.length ∧ ∀ u v, findM (expR l own now age) u v = (findM l u v).map (exM own now (mx0 age)) := by
  have e : expR l own now age = l.map (exM own now (mx0 age)) := by unfold expR; rw [if_neg (by omega)]
  refine ⟨e, ?_, by rw [e]; simp, ?_⟩
  · rw [e]
    exact chk_map _ (fun x => (ex_facts own now _ x).1) (fun x => (ex_facts own now _ x).2.1) l none none (fun _ => rfl) (fun x _ h => ex_valid h) hc
  · intro u v
    rw [e]
    exact find_map _ (fun x => (ex_facts own now _ x).1) (fun x => (ex_facts own now _ x).2.1) u v l
theorem quar_keep {l : List Md} (u v : List UInt8) (hc : chkL l = 0) : chkL (quarR l u v) = 0 ∧ (quarR l u v).length ≤ l.length + 1 ∧ ((namedB u v = false ∧ quarR l u v = l ∧ findM l u v = none) ∨ (namedB u v = true ∧ ∃ m, findM (quarR l u v) u v = some m ∧ m.st = 2)) := by
  unfold quarR
  cases hn : namedB u v
  · rw [if_pos (by simp)]
    refine ⟨hc, by omega, .inl ⟨rfl, rfl, ?_⟩⟩
    cases hf : findM l u v with
    | none => rfl
    | some m =>
      have := (chk_find hc hf).2
      rw [hn] at this
      cases this
  · rw [if_neg (by simp [hc])]
    cases hf : findM l u v with
    | none =>
      refine ⟨chk_ins (valid_of hn (by simp)) l none hc rfl hf, by rw [len_ins]; omega, .inr ⟨rfl, ⟨u, v, 0, 0, 2⟩, ?_, rfl⟩⟩
      rw [find_ins _ _ _ _ (fun _ => hf)]
      simp
    | some m =>
      refine ⟨chk_upd toQ (fun _ => rfl) (fun _ => rfl) u v l none ?_ hc, by rw [len_upd]; omega, .inr ⟨rfl, toQ m, ?_, rfl⟩⟩
      · intro x _ hv
        have h1 := valid_named hv
        have h2 := valid_nums hv
        exact valid_of h1 (by simp only [toQ]; omega)
      · show findM (updL toQ l u v) u v = _
        rw [find_upd toQ (fun _ => rfl) (fun _ => rfl), if_pos ⟨rfl, rfl⟩, hf]
        rfl
theorem fetch_keep {l : List Md} (own u v : List UInt8) (size now : Int) (hc : chkL l = 0) : (fetchR l own u v size now).2 = 0 → chkL (fetchR l own u v size now).1 = 0 ∧ (fetchR l own u v size now).1.length ≤ l.length + 1 ∧
    (∃ f, findM (fetchR l own u v size now).1 u v = some f ∧ f.st = 1 ∧ f.time = now) ∧ ∀ s n, ¬ (u = s ∧ v = n) → findM (fetchR l own u v size now).1 s n = findM l s n := by
  unfold fetchR
  rw [if_neg (by omega)]
  cases hn : namedB u v
  · intro h
    simp at h
  · rw [if_neg (by simp)]
    by_cases hb : badN size now
    · rw [if_pos hb]
      intro h
      simp at h
    · rw [if_neg hb]
      have hb' := hb
      unfold badN at hb'
      cases hf : findM l u v with
      | none =>
        by_cases ho : u = own
        · simp [ho]
        · simp only [ho, if_false]
          intro _
          refine ⟨chk_ins (valid_of hn (by simp; omega)) l none hc rfl hf, by rw [len_ins]; omega, ⟨⟨u, v, size, now, 1⟩, ?_, rfl, rfl⟩, ?_⟩
          · rw [find_ins _ _ _ _ (fun _ => hf)]
            simp
          · intro s n hne
            rw [find_ins _ _ _ _ (fun h => absurd h hne), if_neg hne]
      | some x =>
        by_cases h2 : x.st = 2
        · simp [h2]
        · simp only [h2, if_false]
          intro _
          refine ⟨chk_upd (toP size now) (fun _ => rfl) (fun _ => rfl) u v l none ?_ hc, by rw [len_upd]; omega, ⟨toP size now x, ?_, rfl, rfl⟩, ?_⟩
          · intro y _ hv
            have h1 := valid_named hv
            have h2 := valid_nums hv
            refine valid_of h1 ?_
            simp only [toP]
            split <;> omega
          · rw [find_upd (toP size now) (fun _ => rfl) (fun _ => rfl), if_pos ⟨rfl, rfl⟩, hf]
            rfl
          · intro s n hne
            rw [find_upd (toP size now) (fun _ => rfl) (fun _ => rfl), if_neg hne]
theorem fetch_gone {l : List Md} {own u v : List UInt8} {size now : Int} {m : Md} (hc : chkL l = 0) (hf : findM l u v = some m) (h2 : m.st = 2) : (fetchR l own u v size now).2 = 27 ∨ (fetchR l own u v size now).2 = 2 := by
  unfold fetchR
  rw [if_neg (by omega), (chk_find hc hf).2, if_neg (by simp)]
  by_cases hb : badN size now
  · rw [if_pos hb]
    exact .inr rfl
  · rw [if_neg hb, hf]
    simp [h2]
theorem get_some {l : List Md} {u v : List UInt8} {m : Md} (h : findM l u v = some m) : getR l u v = (m, true) := by
  unfold getR
  rw [h]
theorem get_none {l : List Md} {u v : List UInt8} (h : findM l u v = none) : getR l u v = (zeroMd, false) := by
  unfold getR
  rw [h]
/-- a step of MediaSafe, where the bad file is there -/
theorem safe_step {a : List Md} {bs bn : List UInt8} {m : Md} (hc : chkL a = 0) (hm : findM a bs bn = some m) (h2 : m.st = 2) (own u v : List UInt8) (size now : Int) :
    ((¬ (fetchR a own u v size now).2 = 0) ∧ (u = bs → v = bn → ((fetchR a own u v size now).2 = 27 ∨ (fetchR a own u v size now).2 = 2)) ∧ chkL (expR a own now size) = 0 ∧ getR (expR a own now size) bs bn = (m, true) ∧ findM (expR a own now size) bs bn = some m ∧ (expR a own now size).length ≤ a.length + 1) ∨
    ((fetchR a own u v size now).2 = 0 ∧ ¬ (u = bs ∧ v = bn) ∧ (fetchR a own u v size now).1.length ≤ a.length + 1 ∧ (∃ f, getR (fetchR a own u v size now).1 u v = (f, true) ∧ f.st = 1 ∧ f.time = now) ∧
      chkL (expR (fetchR a own u v size now).1 own now size) = 0 ∧ getR (expR (fetchR a own u v size now).1 own now size) bs bn = (m, true) ∧ findM (expR (fetchR a own u v size now).1 own now size) bs bn = some m ∧ (expR (fetchR a own u v size now).1 own now size).length ≤ a.length + 1) := by
  have key : ∀ c, chkL c = 0 → findM c bs bn = some m → findM (expR c own now size) bs bn = some m := by
    intro c h1 h3
    rw [(exp_keep own now size h1).2.2.2, h3]
    simp [exM, h2]
  by_cases h0 : (fetchR a own u v size now).2 = 0
  · right
    obtain ⟨k1, k2, ⟨f, k3, k4, k5⟩, k6⟩ := fetch_keep own u v size now hc h0
    have hne : ¬ (u = bs ∧ v = bn) := by
      rintro ⟨rfl, rfl⟩
      rcases fetch_gone (own := own) (size := size) (now := now) hc hm h2 with h | h <;> omega
    have hf := k6 bs bn hne
    rw [hm] at hf
    obtain ⟨_, e2, e3, _⟩ := exp_keep own now size k1
    have e4 := key _ k1 hf
    exact ⟨h0, hne, k2, ⟨f, get_some k3, k4, k5⟩, e2, get_some e4, e4, by omega⟩
  · left
    obtain ⟨_, e2, e3, _⟩ := exp_keep own now size hc
    have e4 := key _ hc hm
    refine ⟨h0, ?_, e2, get_some e4, e4, by omega⟩
    rintro rfl rfl
    exact fetch_gone hc hm h2
/-- a step of MediaSafe, where the bad file has no valid name -/
theorem safe_step0 {a : List Md} (hc : chkL a = 0) (own u v : List UInt8) (size now : Int) :
    ((¬ (fetchR a own u v size now).2 = 0) ∧ chkL (expR a own now size) = 0 ∧ (expR a own now size).length ≤ a.length + 1) ∨
    ((fetchR a own u v size now).2 = 0 ∧ (fetchR a own u v size now).1.length ≤ a.length + 1 ∧ (∃ f, getR (fetchR a own u v size now).1 u v = (f, true) ∧ f.st = 1 ∧ f.time = now) ∧
      chkL (expR (fetchR a own u v size now).1 own now size) = 0 ∧ (expR (fetchR a own u v size now).1 own now size).length ≤ a.length + 1) := by
  by_cases h0 : (fetchR a own u v size now).2 = 0
  · right
    obtain ⟨k1, k2, ⟨f, k3, k4, k5⟩, k6⟩ := fetch_keep own u v size now hc h0
    obtain ⟨_, e2, e3, _⟩ := exp_keep own now size k1
    exact ⟨h0, k2, ⟨f, get_some k3, k4, k5⟩, e2, by omega⟩
  · left
    obtain ⟨_, e2, e3, _⟩ := exp_keep own now size hc
    exact ⟨h0, e2, by omega⟩

/-! sums -/
def sumP : List Md → Int
  | [] => 0
  | m :: r => (if m.st = 1 then m.size else 0) + sumP r
theorem tot_sum : ∀ (l : List Md) (acc : Int), (∀ x ∈ l, validR x = 0) → 0 ≤ acc → acc + 1000000000000 * l.length < 9223372036854775808 → totF acc l = acc + sumP l
  | [], acc, _, _, _ => by simp [totF, sumP]
  | m :: r, acc, hv, h0, h1 => by
    have h := valid_nums (hv m (by simp))
    rw [List.length_cons] at h1
    unfold totF sumP
    split
    · rw [wrap_in (by omega) (by omega), tot_sum r (acc + m.size) (fun x hx => hv x (by simp [hx])) (by omega) (by omega)]
      omega
    · rw [tot_sum r acc (fun x hx => hv x (by simp [hx])) h0 (by omega)]
      omega
theorem sum_ex (own : List UInt8) (now age : Int) : ∀ (l : List Md), (∀ x ∈ l, validR x = 0) → sumP (l.map (exM own now age)) ≤ sumP l
  | [], _ => Int.le_refl _
  | m :: r, hv => by
    have h := valid_nums (hv m (by simp))
    have ih := sum_ex own now age r (fun x hx => hv x (by simp [hx]))
    rw [List.map_cons]
    unfold sumP
    obtain ⟨h1, h2, h3, h4, h5⟩ := ex_facts own now age m
    rw [h3]
    split <;> split <;> omega
theorem tot_ex {l : List Md} (own : List UInt8) (now age : Int) (hc : chkL l = 0) (hl : l.length ≤ 1000) : totR (expR l own now age) ≤ totR l := by
  obtain ⟨e1, e2, e3, _⟩ := exp_keep own now age hc
  have hv := chkF_valid l none hc
  unfold totR
  rw [if_neg (by omega), if_neg (by omega), tot_sum l 0 hv (by omega) (by omega), tot_sum _ 0 (chkF_valid _ none e2) (by omega) (by omega), e1]
  have := sum_ex own now (mx0 age) l hv
  omega
end Go.Proofs.Ytfcjmblhcakhaaa.E
