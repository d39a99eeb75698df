/-
  The engine, part V: reckoning: one law for each step at constructors, and which of its arguments are reckoned first.
-/
import Derived.Test.YtcolebkklojccaaGreatEngU
set_option linter.unusedVariables false
set_option linter.unusedSimpArgs false
namespace Go.Proofs.YtcolebkklojccaaGreat.E
open Go

def nf {α : Sort _} (x : α) : α := x
theorem e_nf {α : Sort _} (x : α) : nf x = x := of_eq_true (eq_self x)

section
variable {P : Program} {K : DV → Prop} {KS : DS → Prop} {KL : List DV → Prop} {Q : AE → DS → Prop}

/-! ### which arguments come first -/
theorem c_wp {ac : AC} {s : DS} {p : Prop} (_ : nf True = p) : dwp P ac s Q = dwp P ac s Q := rfl
theorem c_ops {l : List AOper} {s : DS} {p : Prop} (_ : nf True = p) : dOps P l s KS = dOps P l s KS := rfl
theorem c_op {o : AOper} {s : DS} {p : Prop} (_ : nf True = p) : dOp P o s KS = dOp P o s KS := rfl
theorem c_opS {o : AOper} {s : DS} {p : Prop} (_ : nf True = p) : dOpS P o s KS = dOpS P o s KS := rfl
theorem c_run {op : AOp} {s : DS} {dst : Option Nat} {p : Prop} (_ : nf True = p) : dRun P op s dst KS = dRun P op s dst KS := rfl
theorem c_runS {op : AOp} {s : DS} {dst : Option Nat} {p : Prop} (_ : nf True = p) : dRunS P op s dst KS = dRunS P op s dst KS := rfl
theorem c_dt {t : DT} {s : DS} {p : Prop} (_ : nf True = p) : dDT P t s KS = dDT P t s KS := rfl
theorem c_seq {c : DS → (AE → DS → Prop) → Prop} {e : AE} {s : DS} {p : Prop} (_ : nf True = p) : kSeq c Q e s = kSeq c Q e s := rfl
theorem c_blk {id : Nat} {e : AE} {s : DS} {p : Prop} (_ : nf True = p) : kBlk id Q e s = kBlk id Q e s := rfl
theorem c_loop {J : DS → Prop} {e : AE} {s : DS} {p : Prop} (_ : nf True = p) : kLoop J Q e s = kLoop J Q e s := rfl
theorem c_S {s s' : DS} (h : nf s = s') : kS s KS = kS s' KS := by cases h; rfl
theorem c_put {dst : Option Nat} {s : DS} {v v' : DV} (h : nf v = v') : kPut dst s KS v = kPut dst s KS v' := by cases h; rfl
theorem c_bind {dst : Option Nat} {s : DS} {v : DV} {b b' : Blk} (h : nf b = b') : kBind dst s KS v b = kBind dst s KS v b' := by cases h; rfl
theorem c_mv {x x' : DV} (h : nf x = x') : kMv x K = kMv x' K := by cases h; rfl
theorem c_pick {c c' a a' b b' : DV} (h : nf c = c') (h1 : nf a = a') (h2 : nf b = b') : kPick c a b K = kPick c' a' b' K := by cases h; cases h1; cases h2; rfl
theorem c_nt {x x' : DV} (h : nf x = x') : kNt x K = kNt x' K := by cases h; rfl
theorem c_ng {x x' : DV} (h : nf x = x') : kNg x K = kNg x' K := by cases h; rfl
theorem c_bin {o : BinOp} {x x' y y' : DV} (h : nf x = x') (h' : nf y = y') : kBin o x y K = kBin o x' y' K := by cases h; cases h'; rfl
theorem c_binI {o : BinOp} {k : IntKind} {x x' y y' : Int} (h : nf x = x') (h' : nf y = y') : binI o k x y K = binI o k x' y' K := by cases h; cases h'; rfl
theorem c_binS {o : BinOp} {x x' y y' : List UInt8} (h : nf x = x') (h' : nf y = y') : binS o x y K = binS o x' y' K := by cases h; cases h'; rfl
theorem c_beq {ne : Bool} {x x' y y' : DV} (h : nf x = x') (h' : nf y = y') : kBeq ne x y K = kBeq ne x' y' K := by cases h; cases h'; rfl
theorem c_B {KB : Bool → Prop} {o o' : Option Bool} (h : nf o = o') : kB o KB = kB o' KB := by cases h; rfl
theorem c_eqa {ne : Bool} {ks : List PK} {x x' y y' : DV} (h : nf x = x') (h' : nf y = y') : kEqa ne ks x y K = kEqa ne ks x' y' K := by cases h; cases h'; rfl
theorem c_hd {cs cs' : List DV} (h : nf cs = cs') : hdK cs K = hdK cs' K := by cases h; rfl
theorem c_cells {cs cs' : List DV} (h : nf cs = cs') : kCells cs KL = kCells cs' KL := by cases h; rfl
theorem c_blkK {KB : Blk → Prop} {b b' : Option Blk} (h : nf b = b') : blkK b KB = blkK b' KB := by cases h; rfl
theorem c_box {b b' : Blk} (h : nf b = b') : boxK b KL = boxK b' KL := by cases h; rfl
theorem c_vec {KV : Nat → Nat → List (List DV) → Prop} {b b' : Blk} (h : nf b = b') : vecK b KV = vecK b' KV := by cases h; rfl
theorem c_mp {KM : KK → List (DV × DV) → Prop} {b b' : Blk} (h : nf b = b') : mpK b KM = mpK b' KM := by cases h; rfl
theorem c_nck {x x' : DV} (h : nf x = x') : kNck x K = kNck x' K := by cases h; rfl
theorem c_mks {e sz bytes : Nat} {l l' c c' : DV} {dst : Option Nat} {s : DS} (h : nf l = l') (h' : nf c = c') : kMks e sz bytes l c dst s KS = kMks e sz bytes l' c' dst s KS := by cases h; cases h'; rfl
theorem c_appn {e sz bytes : Nat} {d d' x x' : DV} {dst : Option Nat} {s : DS} (h : nf d = d') (h' : nf x = x') : kAppn e sz bytes d x dst s KS = kAppn e sz bytes d' x' dst s KS := by cases h; cases h'; rfl
theorem c_mkm {kk : KK} {r r' : Option DV} {dst : Option Nat} {s : DS} (h : nf r = r') : kMkm kk r dst s KS = kMkm kk r' dst s KS := by cases h; rfl
theorem c_mput {kk : KK} {m m' k k' v v' : DV} {s : DS} (h : nf m = m') (h1 : nf k = k') (h2 : nf v = v') : kMput kk m k v s KS = kMput kk m' k' v' s KS := by cases h; cases h1; cases h2; rfl
theorem c_mlk {kk : KK} {z m m' k k' : DV} {mem : Mem} (h : nf m = m') (h1 : nf k = k') : kMlk kk z m k mem K = kMlk kk z m' k' mem K := by cases h; cases h1; rfl
theorem c_mrm {kk : KK} {m m' k k' : DV} {s : DS} (h : nf m = m') (h1 : nf k = k') : kMrm kk m k s KS = kMrm kk m' k' s KS := by cases h; cases h1; rfl
theorem c_take {ag : Bool} {n : Nat} {cs cs' : List DV} (h : nf cs = cs') : takeK ag n cs K = takeK ag n cs' K := by cases h; rfl
theorem c_ld {ag : Bool} {n : Nat} {p p' : DV} {mem : Mem} (h : nf p = p') : kLd ag n p mem K = kLd ag n p' mem K := by cases h; rfl
theorem c_ldF {ag : Bool} {n : Nat} {p p' : DV} (h : nf p = p') : kLdF ag n p K = kLdF ag n p' K := by cases h; rfl
theorem c_cellsK {x x' : DV} (h : nf x = x') : cellsK x KL = cellsK x' KL := by cases h; rfl
theorem c_st {n : Nat} {p p' x x' : DV} {s : DS} (h : nf p = p') (h' : nf x = x') : kSt n p x s KS = kSt n p' x' s KS := by cases h; cases h'; rfl
theorem c_fld {off : Nat} {p p' : DV} (h : nf p = p') : kFld off p K = kFld off p' K := by cases h; rfl
theorem c_fldv {ag : Bool} {off n : Nat} {p p' : DV} (h : nf p = p') : kFldv ag off n p K = kFldv ag off n p' K := by cases h; rfl
theorem c_ix {sz : Nat} {x x' i i' : DV} {mem : Mem} (h : nf x = x') (h' : nf i = i') : kIx sz x i mem K = kIx sz x' i' mem K := by cases h; cases h'; rfl
theorem c_ixp {len sz : Nat} {x x' i i' : DV} (h : nf x = x') (h' : nf i = i') : kIxp len sz x i K = kIxp len sz x' i' K := by cases h; cases h'; rfl
theorem c_ixv {ag : Bool} {len sz : Nat} {x x' i i' : DV} (h : nf x = x') (h' : nf i = i') : kIxv ag len sz x i K = kIxv ag len sz x' i' K := by cases h; cases h'; rfl
theorem c_ixs {x x' i i' : DV} (h : nf x = x') (h' : nf i = i') : kIxs x i K = kIxs x' i' K := by cases h; cases h'; rfl
theorem c_sub {sz : Nat} {x x' : DV} {lo lo' hi hi' mx mx' : Option DV} (h : nf x = x') (h1 : nf lo = lo') (h2 : nf hi = hi') (h3 : nf mx = mx') : kSub sz x lo hi mx K = kSub sz x' lo' hi' mx' K := by cases h; cases h1; cases h2; cases h3; rfl
theorem c_subs {x x' : DV} {lo lo' hi hi' : Option DV} (h : nf x = x') (h1 : nf lo = lo') (h2 : nf hi = hi') : kSubs x lo hi K = kSubs x' lo' hi' K := by cases h; cases h1; cases h2; rfl
theorem c_len {x x' : DV} {mem : Mem} (h : nf x = x') : kLen x mem K = kLen x' mem K := by cases h; rfl
theorem c_lens {x x' : DV} (h : nf x = x') : kLens x K = kLens x' K := by cases h; rfl
theorem c_src {KX : List (List DV) → Prop} {sz : Nat} {x x' : DV} {mem : Mem} (h : nf x = x') : srcK sz x mem KX = srcK sz x' mem KX := by cases h; rfl
theorem c_dst {KX : List (List DV) → Prop} {e sz : Nat} {x x' : DV} {mem : Mem} (h : nf x = x') : dstK e sz x mem KX = dstK e sz x' mem KX := by cases h; rfl
theorem c_ow {dst : Option Nat} {s : DS} {b b' : Blk} (h : nf b = b') : kOw dst s KS b = kOw dst s KS b' := by cases h; rfl
theorem c_app {e sz bytes : Nat} {d d' x x' : DV} {dst : Option Nat} {s : DS} (h : nf d = d') (h' : nf x = x') : kApp e sz bytes d x dst s KS = kApp e sz bytes d' x' dst s KS := by cases h; cases h'; rfl
theorem c_ext {x x' : DV} {i : Nat} (h : nf x = x') : kExt x i K = kExt x' i K := by cases h; rfl
theorem c_mm {mx : Bool} {x x' y y' : DV} (h : nf x = x') (h' : nf y = y') : kMm mx x y K = kMm mx x' y' K := by cases h; cases h'; rfl
theorem c_conv {k : IntKind} {x x' : DV} (h : nf x = x') : kConv k x K = kConv k x' K := by cases h; rfl
theorem c_str {x x' : DV} (h : nf x = x') : kStr x K = kStr x' K := by cases h; rfl
theorem c_isn {ne : Bool} {x x' : DV} {mem : Mem} (h : nf x = x') : kIsn ne x mem K = kIsn ne x' mem K := by cases h; rfl
theorem c_fill {env : List DV} {ps : List (Nat × Nat × AX)} {zs : List DV} {p : Prop} (_ : nf True = p) : fillK env ps zs KL = fillK env ps zs KL := rfl
theorem c_rows {KX : List (List DV) → Prop} {env : List DV} {sz : Nat} {ps : List (Nat × AX)} {xs : List (List DV)} {p : Prop} (_ : nf True = p) : rowsK env sz ps xs KX = rowsK env sz ps xs KX := rfl
theorem c_boxo {x x' : DV} {dst : Option Nat} {s : DS} (h : nf x = x') : kBox x dst s KS = kBox x' dst s KS := by cases h; rfl
theorem c_frz {k : Nat} {s : DS} {p : Prop} (_ : nf True = p) : frzK k s KS = frzK k s KS := rfl
theorem c_frzO {o o' : Option Nat} {s : DS} {K0 K1 : DS → Prop} (h : nf o = o') : frzO o s K0 K1 = frzO o' s K0 K1 := by cases h; rfl
theorem c_frzA {xs : List AX} {n : Nat} {s : DS} {p : Prop} (_ : nf True = p) : frzArgs xs n s KS = frzArgs xs n s KS := rfl
theorem c_frzV {n : Nat} {s : DS} {p : Prop} (_ : nf True = p) : frzV n s KL = frzV n s KL := rfl
theorem c_spec {f : Nat} {ds ds' : List DV} {dst : Option Nat} {s : DS} (h : nf ds = ds') : kSpec P f ds dst s KS = kSpec P f ds' dst s KS := by cases h; rfl
theorem c_specO {f : Nat} {ds ds' : List DV} {dst : Option Nat} {s : DS} (h : nf ds = ds') : kSpecO P f ds dst s KS = kSpecO P f ds' dst s KS := by cases h; rfl
theorem c_opsP {l : List AOper} {s : DS} {Z : DV → DS → Prop} {p : Prop} (_ : nf True = p) : dOpsP P l s KS Z = dOpsP P l s KS Z := rfl
theorem c_opP {o : AOper} {s : DS} {Z : DV → DS → Prop} {p : Prop} (_ : nf True = p) : dOpP P o s KS Z = dOpP P o s KS Z := rfl
theorem c_runP {op : AOp} {s : DS} {dst : Option Nat} {Z : DV → DS → Prop} {p : Prop} (_ : nf True = p) : dRunP P op s dst KS Z = dRunP P op s dst KS Z := rfl
theorem c_specP {f : Nat} {ds ds' : List DV} {dst : Option Nat} {s : DS} {Z : DV → DS → Prop} (h : nf ds = ds') : kSpecP P f ds dst s KS Z = kSpecP P f ds' dst s KS Z := by cases h; rfl
theorem c_Z {d : DV} {s : DS} {p : Prop} (_ : nf True = p) : kZ Q d s = kZ Q d s := rfl
theorem c_qretP {d : DV} {e : AE} {s : DS} {p : Prop} (_ : nf True = p) : QretP d e s = QretP d e s := rfl
theorem c_fz {ds ds' : List DV} (h : nf ds = ds') : kFz ds KL = kFz ds' KL := by cases h; rfl
theorem c_fn {KF : Nat → List DV → Prop} {x x' : DV} (h : nf x = x') : kFn x KF = kFn x' KF := by cases h; rfl
theorem c_gv {x x' : DV} {w : Bool} {A B : Prop} (h : nf x = x') : kGv x w A B = kGv x' w A B := by cases h; rfl
theorem c_cond {x x' : DV} {A B : Prop} (h : nf x = x') : kCond x A B = kCond x' A B := by cases h; rfl
theorem c_res1 {r : AR} {s : DS} {p : Prop} (_ : nf True = p) : kRes1 r s K = kRes1 r s K := rfl
theorem c_resL {l : List AR} {s : DS} {p : Prop} (_ : nf True = p) : kResL l s KL = kResL l s KL := rfl
theorem c_ret {l : List AR} {r : RK} {s : DS} {p : Prop} (_ : nf True = p) : kRet l r s = kRet l r s := rfl
theorem c_qret {l : List AR} {r : RK} {e : AE} {s : DS} {p : Prop} (_ : nf True = p) : Qret l r e s = Qret l r e s := rfl

/-! ### the steps -/
theorem e_S (s : DS) : kS s KS = KS s := rfl
theorem e_put0 (s : DS) (v : DV) : kPut none s KS v = KS s := rfl
theorem e_put (d : Nat) (s : DS) (v : DV) : kPut (some d) s KS v = kS ⟨stp s.env d v, s.mem⟩ KS := rfl
theorem e_bind (d : Nat) (s : DS) (v : DV) (b : Blk) : kBind (some d) s KS v b = kS ⟨stp (bindE d s.env) d v, bindM d b s.mem⟩ KS := rfl
theorem e_mv (x : DV) : kMv x K = K x := rfl
theorem e_pickT (a b : DV) : kPick (.bool true) a b K = K a := by simp [kPick]
theorem e_pickF (a b : DV) : kPick (.bool false) a b K = K b := by simp [kPick]
theorem e_pickD (p : Prop) [Decidable p] (a b : DV) : kPick (.bool (decide p)) a b K = ((p → K a) ∧ (¬p → K b)) := by simp [kPick]
theorem e_nt (b : Bool) : kNt (.bool b) K = K (.bool (!b)) := rfl
theorem e_ng (k : IntKind) (n : Int) : kNg (.int k n) K = K (.int k (k.wrap (0 - n))) := rfl
theorem e_badd (k : IntKind) (a b : Int) : kBin .add (.int k a) (.int k b) K = K (.int k (k.wrap (a + b))) := by simp [kBin, binI]
theorem e_bsub (k : IntKind) (a b : Int) : kBin .sub (.int k a) (.int k b) K = K (.int k (k.wrap (a - b))) := by simp [kBin, binI]
theorem e_bmul (k : IntKind) (a b : Int) : kBin .mul (.int k a) (.int k b) K = K (.int k (k.wrap (a * b))) := by simp [kBin, binI]
theorem e_bquo (k : IntKind) (a b : Int) : kBin .quo (.int k a) (.int k b) K = (b ≠ 0 ∧ K (.int k (k.wrap (a.tdiv b)))) := by simp [kBin, binI]
theorem e_brem (k : IntKind) (a b : Int) : kBin .rem (.int k a) (.int k b) K = (b ≠ 0 ∧ K (.int k (a.tmod b))) := by simp [kBin, binI]
theorem e_band (k : IntKind) (a b : Int) : kBin .and (.int k a) (.int k b) K = K (.int k (bits .and k a b)) := by simp [kBin, binI]
theorem e_bor (k : IntKind) (a b : Int) : kBin .or (.int k a) (.int k b) K = K (.int k (bits .or k a b)) := by simp [kBin, binI]
theorem e_bxor (k : IntKind) (a b : Int) : kBin .xor (.int k a) (.int k b) K = K (.int k (bits .xor k a b)) := by simp [kBin, binI]
theorem e_beql (k : IntKind) (a b : Int) : kBin .eql (.int k a) (.int k b) K = K (.bool (decide (a = b))) := by
  have : (a == b) = decide (a = b) := rfl
  simp [kBin, binI, this]
theorem e_bneq (k : IntKind) (a b : Int) : kBin .neq (.int k a) (.int k b) K = K (.bool (!decide (a = b))) := by
  have : (a != b) = !decide (a = b) := rfl
  simp [kBin, binI, this]
theorem e_blss (k : IntKind) (a b : Int) : kBin .lss (.int k a) (.int k b) K = K (.bool (decide (a < b))) := by simp [kBin, binI]
theorem e_bleq (k : IntKind) (a b : Int) : kBin .leq (.int k a) (.int k b) K = K (.bool (decide (a ≤ b))) := by simp [kBin, binI]
theorem e_bgtr (k : IntKind) (a b : Int) : kBin .gtr (.int k a) (.int k b) K = K (.bool (decide (b < a))) := by simp [kBin, binI]
theorem e_bgeq (k : IntKind) (a b : Int) : kBin .geq (.int k a) (.int k b) K = K (.bool (decide (b ≤ a))) := by simp [kBin, binI]
theorem e_sadd (a b : List UInt8) : kBin .add (.str a) (.str b) K = (a.length + b.length ≤ maxLen ∧ K (.str (a ++ b))) := rfl
theorem e_seql (a b : List UInt8) : kBin .eql (.str a) (.str b) K = K (.bool (decide (a = b))) := by
  have : (a == b) = decide (a = b) := by by_cases h : a = b <;> simp [h]
  show K _ = _
  rw [this]
theorem e_sneq (a b : List UInt8) : kBin .neq (.str a) (.str b) K = K (.bool (!decide (a = b))) := by
  have : (a == b) = decide (a = b) := by by_cases h : a = b <;> simp [h]
  show K _ = _
  rw [this]
theorem e_slss (a b : List UInt8) : kBin .lss (.str a) (.str b) K = K (.bool (Op.bytesLess a b)) := rfl
theorem e_sleq (a b : List UInt8) : kBin .leq (.str a) (.str b) K = K (.bool (Op.bytesLess a b || a == b)) := rfl
theorem e_sgtr (a b : List UInt8) : kBin .gtr (.str a) (.str b) K = K (.bool (!(Op.bytesLess a b || a == b))) := rfl
theorem e_sgeq (a b : List UInt8) : kBin .geq (.str a) (.str b) K = K (.bool (!(Op.bytesLess a b))) := rfl
theorem e_shl (k k' : IntKind) (a b : Int) : kBin .shl (.int k a) (.int k' b) K = (0 ≤ b ∧ b ≤ k.bits ∧ K (.int k (k.wrap (a * 2 ^ b.toNat)))) := by
  simp [kBin]
theorem e_beq (ne : Bool) (a b : Bool) : kBeq ne (.bool a) (.bool b) K = K (.bool (if ne then !(a == b) else a == b)) := rfl
theorem e_B (KB : Bool → Prop) (b : Bool) : kB (some b) KB = KB b := rfl
theorem e_eqa (ne : Bool) (ks : List PK) (as bs : List DV) : kEqa ne ks (.agg as) (.agg bs) K = kB (eqPs ks as bs) fun r => K (.bool (if ne then !r else r)) := rfl
theorem e_hd (c : DV) (cs : List DV) : hdK (c :: cs) K = K c := rfl
theorem e_cells (cs : List DV) : kCells cs KL = KL cs := rfl
theorem e_blkK (KB : Blk → Prop) (b : Blk) : blkK (some b) KB = KB b := rfl
theorem e_box (cs : List DV) : boxK (.box cs) KL = KL cs := rfl
theorem e_vec (KV : Nat → Nat → List (List DV) → Prop) (e sz : Nat) (xs : List (List DV)) : vecK (.vec e sz xs) KV = KV e sz xs := rfl
theorem e_mp {KM : KK → List (DV × DV) → Prop} (kk : KK) (es : List (DV × DV)) : mpK (.mp kk es) KM = KM kk es := rfl
theorem e_nck1 (k o : Nat) : kNck (.ml k o) K = K (.ml k o) := rfl
theorem e_nck2 (k sz i o : Nat) : kNck (.ve k sz i o) K = K (.ve k sz i o) := rfl
theorem e_nck3 (cs : List DV) : kNck (.pf cs) K = K (.pf cs) := rfl
theorem e_mks (e sz bytes : Nat) (k k' : IntKind) (c : Int) (d : Nat) (s : DS) : kMks e sz bytes (.int k 0) (.int k' c) (some d) s KS = (0 ≤ c ∧ c ≤ 4294967296 ∧ bytes * c ≤ 281474976710656 ∧ kBind (some d) s KS (.ow d) (.vec e sz [])) := by simp [kMks]
theorem e_appn (e sz bytes : Nat) (x : DV) (dst : Option Nat) (s : DS) : kAppn e sz bytes .e0 x dst s KS = kApp e sz bytes .e0 x dst s KS := rfl
theorem e_mkm0 (kk : KK) (d : Nat) (s : DS) : kMkm kk none (some d) s KS = kBind (some d) s KS (.ow d) (.mp kk []) := by simp [kMkm, okI]
theorem e_mkm1 (kk : KK) (k : IntKind) (n : Int) (d : Nat) (s : DS) : kMkm kk (some (.int k n)) (some d) s KS = kBind (some d) s KS (.ow d) (.mp kk []) := by simp [kMkm, okI]
theorem e_mput (kk : KK) (j : Nat) (k v : DV) (s : DS) : kMput kk (.ow j) k v s KS = blkK (mget s.mem j) fun b => mpK b fun kk' es => kk' = kk ∧ isKey kk k = true ∧ isFz v = true ∧ cellOK v = true ∧ kS ⟨s.env, mset j (.mp kk (mpPut kk es k v)) s.mem⟩ KS := rfl
theorem e_mlk (kk : KK) (z k : DV) (j : Nat) (mem : Mem) : kMlk kk z (.ow j) k mem K = blkK (mget mem j) fun b => mpK b fun kk' es => kk' = kk ∧ isKey kk k = true ∧ K ((mpLk kk es k).getD z) := rfl
theorem e_mrm (kk : KK) (j : Nat) (k : DV) (s : DS) : kMrm kk (.ow j) k s KS = blkK (mget s.mem j) fun b => mpK b fun kk' es => kk' = kk ∧ isKey kk k = true ∧ kS ⟨s.env, mset j (.mp kk (mpRem kk es k)) s.mem⟩ KS := rfl
theorem e_take1 (n : Nat) (cs : List DV) : takeK true n cs K = (n ≤ cs.length ∧ K (mkAgg (cs.take n))) := rfl
theorem e_take0 (n : Nat) (cs : List DV) : takeK false n cs K = hdK cs K := rfl
theorem e_ldp1 (n : Nat) (cs : List DV) (mem : Mem) : kLd true n (.pf cs) mem K = (n ≤ cs.length ∧ K (.agg (cs.take n))) := rfl
theorem e_ldp0 (n : Nat) (cs : List DV) (mem : Mem) : kLd false n (.pf cs) mem K = hdK cs K := rfl
theorem e_ldm (ag : Bool) (n k o : Nat) (mem : Mem) : kLd ag n (.ml k o) mem K = blkK (mget mem k) fun b => boxK b fun cs => takeK ag n (cs.drop o) K := rfl
theorem e_ldv (ag : Bool) (n k sz i o : Nat) (mem : Mem) : kLd ag n (.ve k sz i o) mem K = blkK (mget mem k) fun b => vecK b fun _ s xs => s = sz ∧ i < xs.length ∧ takeK ag n ((xs.getD i []).drop o) K := rfl
theorem e_ldF1 (n : Nat) (cs : List DV) : kLdF true n (.pf cs) K = (n ≤ cs.length ∧ K (.agg (cs.take n))) := rfl
theorem e_ldF0 (n : Nat) (cs : List DV) : kLdF false n (.pf cs) K = hdK cs K := rfl
theorem e_ck1 (cs : List DV) : cellsK (.agg cs) KL = KL cs := rfl
theorem e_ck2 (cs : List DV) : cellsK (.aggm cs) KL = KL cs := rfl
theorem e_ck3 (b : Bool) : cellsK (.bool b) KL = KL [.bool b] := by simp [cellsK, cellOK]
theorem e_ck4 (k : IntKind) (n : Int) : cellsK (.int k n) KL = KL [.int k n] := by simp [cellsK, cellOK]
theorem e_ck5 (s : List UInt8) : cellsK (.str s) KL = KL [.str s] := by simp [cellsK, cellOK]
theorem e_ck6 (sz : Nat) (xs : List (List DV)) : cellsK (.sl sz xs) KL = KL [.sl sz xs] := by simp [cellsK, cellOK]
theorem e_ck7 (cs : List DV) : cellsK (.pf cs) KL = KL [.pf cs] := by simp [cellsK, cellOK]
theorem e_ck8 : cellsK .e0 KL = KL [.e0] := by simp [cellsK, cellOK]
theorem e_ck9 (k : Nat) : cellsK (.ow k) KL = KL [.ow k] := by simp [cellsK, cellOK]
theorem e_ck10 (k o : Nat) : cellsK (.ml k o) KL = KL [.ml k o] := by simp [cellsK, cellOK]
theorem e_ck11 (f : Nat) (cs : List DV) : cellsK (.fn f cs) KL = KL [.fn f cs] := by simp [cellsK, cellOK]
theorem e_ck12 : cellsK .nilp KL = KL [.nilp] := by simp [cellsK, cellOK]
theorem e_ck13 : cellsK .nilfn KL = KL [.nilfn] := by simp [cellsK, cellOK]
theorem e_stm (n k o : Nat) (x : DV) (s : DS) : kSt n (.ml k o) x s KS = blkK (mget s.mem k) fun b => boxK b fun cs => cellsK x fun new => new.length = n ∧ o + n ≤ cs.length ∧ kS ⟨s.env, mset k (.box (seg cs o new)) s.mem⟩ KS := rfl
theorem e_stv (n k sz i o : Nat) (x : DV) (s : DS) : kSt n (.ve k sz i o) x s KS = blkK (mget s.mem k) fun b => vecK b fun e s' xs => cellsK x fun new => new.length = n ∧ s' = sz ∧ i < xs.length ∧ o + n ≤ sz ∧ new.all isFz = true ∧
      kS ⟨s.env, mset k (.vec e s' (xs.set i (seg (xs.getD i []) o new))) s.mem⟩ KS := rfl
theorem e_fldp (off : Nat) (cs : List DV) : kFld off (.pf cs) K = K (.pf (cs.drop off)) := rfl
theorem e_fldm (off k o : Nat) : kFld off (.ml k o) K = K (.ml k (o + off)) := rfl
theorem e_fldve (off k sz i o : Nat) : kFld off (.ve k sz i o) K = K (.ve k sz i (o + off)) := rfl
theorem e_fldv1 (off n : Nat) (cs : List DV) : kFldv true off n (.agg cs) K = (off + n ≤ cs.length ∧ K (.agg ((cs.drop off).take n))) := rfl
theorem e_fldv0 (off n : Nat) (cs : List DV) : kFldv false off n (.agg cs) K = hdK (cs.drop off) K := rfl
theorem e_fldv3 (off n : Nat) (cs : List DV) : kFldv true off n (.aggm cs) K = (off + n ≤ cs.length ∧ K (mkAgg ((cs.drop off).take n))) := rfl
theorem e_fldv2 (off n : Nat) (cs : List DV) : kFldv false off n (.aggm cs) K = hdK (cs.drop off) K := rfl
theorem e_ixs' (sz s : Nat) (xs : List (List DV)) (k : IntKind) (n : Int) (mem : Mem) : kIx sz (.sl s xs) (.int k n) mem K = (s = sz ∧ 0 ≤ n ∧ n < xs.length ∧ K (.pf (xs.getD n.toNat []))) := rfl
theorem e_ixo (sz j : Nat) (k : IntKind) (n : Int) (mem : Mem) : kIx sz (.ow j) (.int k n) mem K = blkK (mget mem j) fun b => vecK b fun _ s xs => s = sz ∧ 0 ≤ n ∧ n < xs.length ∧ K (.ve j sz n.toNat 0) := rfl
theorem e_ixpp (len sz : Nat) (cs : List DV) (k : IntKind) (n : Int) : kIxp len sz (.pf cs) (.int k n) K = (0 ≤ n ∧ n < len ∧ K (.pf (cs.drop (n.toNat * sz)))) := rfl
theorem e_ixpm (len sz j o : Nat) (k : IntKind) (n : Int) : kIxp len sz (.ml j o) (.int k n) K = (0 ≤ n ∧ n < len ∧ K (.ml j (o + n.toNat * sz))) := rfl
theorem e_ixv1 (len sz : Nat) (cs : List DV) (k : IntKind) (n : Int) : kIxv true len sz (.agg cs) (.int k n) K = (0 ≤ n ∧ n < len ∧ n.toNat * sz + sz ≤ cs.length ∧ K (.agg ((cs.drop (n.toNat * sz)).take sz))) := rfl
theorem e_ixv0 (len sz : Nat) (cs : List DV) (k : IntKind) (n : Int) : kIxv false len sz (.agg cs) (.int k n) K = (0 ≤ n ∧ n < len ∧ hdK (cs.drop (n.toNat * sz)) K) := rfl
theorem e_ixs (s : List UInt8) (k : IntKind) (n : Int) : kIxs (.str s) (.int k n) K = (0 ≤ n ∧ n < s.length ∧ K (.int .u8 ((s.getD n.toNat 0).toNat))) := rfl
theorem e_sub (sz s : Nat) (xs : List (List DV)) (lo hi : Option DV) : kSub sz (.sl s xs) lo hi none K = bndK hi xs.length fun h => bndK lo 0 fun l => s = sz ∧ l ≤ h ∧ h ≤ xs.length ∧ K (.sl sz ((xs.take h).drop l)) := rfl
theorem e_subz (sz s : Nat) (xs : List (List DV)) (lo hi : Option DV) (m : DV) : kSub sz (.sl s xs) lo hi (some m) K = subZ m hi lo (K .e0) := rfl
theorem e_sube (sz : Nat) (lo hi : Option DV) : kSub sz .e0 lo hi none K = bndK hi 0 fun h => bndK lo 0 fun l => l ≤ h ∧ h ≤ 0 ∧ K .e0 := rfl
theorem e_subez (sz : Nat) (lo hi : Option DV) (m : DV) : kSub sz .e0 lo hi (some m) K = subZ m hi lo (K .e0) := rfl
theorem e_bnd0 (d : Nat) (KN : Nat → Prop) : bndK none d KN = KN d := rfl
theorem e_bnd1 (k : IntKind) (n : Int) (d : Nat) (KN : Nat → Prop) : bndK (some (.int k n)) d KN = (0 ≤ n ∧ KN n.toNat) := rfl
theorem e_subZ0 (k k' : IntKind) (n h : Int) (p : Prop) : subZ (.int k n) (some (.int k' h)) none p = (n = 0 ∧ h = 0 ∧ p) := rfl
theorem e_subZ1 (k k' k'' : IntKind) (n h l : Int) (p : Prop) : subZ (.int k n) (some (.int k' h)) (some (.int k'' l)) p = (n = 0 ∧ h = 0 ∧ l = 0 ∧ p) := rfl
theorem e_subs (s : List UInt8) (lo hi : Option DV) : kSubs (.str s) lo hi K = bndK hi s.length fun h => bndK lo 0 fun l => l ≤ h ∧ h ≤ s.length ∧ K (.str ((s.take h).drop l)) := rfl
theorem e_len1 (s : Nat) (xs : List (List DV)) (mem : Mem) : kLen (.sl s xs) mem K = (xs.length ≤ maxLen → K (.int .i64 xs.length)) := rfl
theorem e_len2 (mem : Mem) : kLen .e0 mem K = K (.int .i64 0) := rfl
theorem e_len3 (k : Nat) (mem : Mem) : kLen (.ow k) mem K = blkK (mget mem k) fun b => vecK b fun _ _ xs => xs.length ≤ maxLen → K (.int .i64 xs.length) := rfl
theorem e_lens (s : List UInt8) : kLens (.str s) K = (s.length ≤ maxLen → K (.int .i64 s.length)) := rfl
theorem e_src1 (KX : List (List DV) → Prop) (sz s : Nat) (ys : List (List DV)) (mem : Mem) : srcK sz (.sl s ys) mem KX = (s = sz ∧ KX ys) := rfl
theorem e_src2 (KX : List (List DV) → Prop) (sz : Nat) (mem : Mem) : srcK sz .e0 mem KX = KX [] := rfl
theorem e_src3 (KX : List (List DV) → Prop) (sz k : Nat) (mem : Mem) : srcK sz (.ow k) mem KX = blkK (mget mem k) fun b => vecK b fun _ s ys => s = sz ∧ KX ys := rfl
theorem e_dst1 (KX : List (List DV) → Prop) (e sz : Nat) (mem : Mem) : dstK e sz .e0 mem KX = KX [] := rfl
theorem e_dst2 (KX : List (List DV) → Prop) (e sz k : Nat) (mem : Mem) : dstK e sz (.ow k) mem KX = blkK (mget mem k) fun b => vecK b fun e' s ys => e' = e ∧ s = sz ∧ KX ys := rfl
theorem e_drop1 (m : Mem) : dropH .e0 m = m := rfl
theorem e_drop2 (k : Nat) (m : Mem) : dropH (.ow k) m = mdel k m := rfl
theorem e_ow (d : Nat) (s : DS) (b : Blk) : kOw (some d) s KS b = kBind (some d) s KS (.ow d) b := rfl
theorem e_app0 (e sz bytes : Nat) (x : DV) (dst : Option Nat) (s : DS) : kApp e sz bytes .e0 x dst s KS = srcK sz x s.mem fun ys => ys.length ≤ maxLen ∧ ys.length * bytes ≤ 140737488355328 ∧ kOw dst s KS (.vec e sz ys) := by
  simp only [kApp, dstK, dropH, List.length_nil, Nat.zero_add, List.nil_append]
theorem e_app1 (e sz bytes k : Nat) (x : DV) (dst : Option Nat) (s : DS) : kApp e sz bytes (.ow k) x dst s KS = blkK (mget s.mem k) fun b => vecK b fun e' sz' xs => e' = e ∧ sz' = sz ∧ srcK sz x s.mem fun ys =>
    xs.length + ys.length ≤ maxLen ∧ (xs.length + ys.length) * bytes ≤ 140737488355328 ∧ kOw dst ⟨s.env, mdel k s.mem⟩ KS (.vec e sz (xs ++ ys)) := rfl
theorem e_ext (vs : List DV) (i : Nat) : kExt (.tup vs) i K = hdK (vs.drop i) K := rfl
theorem e_mm (mx : Bool) (k : IntKind) (a b : Int) : kMm mx (.int k a) (.int k b) K = K (.int k (if mx then (if b > a then b else a) else (if b < a then b else a))) := by simp [kMm]
theorem e_conv (k k' : IntKind) (n : Int) : kConv k (.int k' n) K = K (.int k (k.wrap n)) := rfl
theorem e_str (s : List UInt8) : kStr (.str s) K = K (.str s) := rfl
theorem e_isn1 (ne : Bool) (s : Nat) (xs : List (List DV)) (mem : Mem) : kIsn ne (.sl s xs) mem K = ((xs = [] → K (.bool !ne)) ∧ K (.bool ne)) := rfl
theorem e_isn2 (ne : Bool) (mem : Mem) : kIsn ne .e0 mem K = (K (.bool !ne) ∧ K (.bool ne)) := rfl
theorem e_isn3 (ne : Bool) (k : Nat) (mem : Mem) : kIsn ne (.ow k) mem K = blkK (mget mem k) fun b => vecK b fun _ _ xs => (xs = [] → K (.bool !ne)) ∧ K (.bool ne) := rfl
theorem e_fill0 (env : List DV) (zs : List DV) : fillK env [] zs KL = KL zs := rfl
theorem e_fill1 (env : List DV) (o n : Nat) (x : AX) (r : List (Nat × Nat × AX)) (zs : List DV) : fillK env ((o, n, x) :: r) zs KL = cellsK (ev env x) fun new => new.length = n ∧ o + n ≤ zs.length ∧ kCells (seg zs o new) fun zs' => fillK env r zs' KL := rfl
theorem e_rows0 (KX : List (List DV) → Prop) (env : List DV) (sz : Nat) (xs : List (List DV)) : rowsK env sz [] xs KX = KX xs := rfl
theorem e_rows1 (KX : List (List DV) → Prop) (env : List DV) (sz i : Nat) (x : AX) (r : List (Nat × AX)) (xs : List (List DV)) : rowsK env sz ((i, x) :: r) xs KX = cellsK (ev env x) fun new => new.length = sz ∧ i < xs.length ∧ new.all isFz = true ∧ rowsK env sz r (xs.set i new) KX := rfl
theorem e_boxo (x : DV) (d : Nat) (s : DS) : kBox x (some d) s KS = cellsK x fun cs => kBind (some d) ⟨s.env, s.mem⟩ KS (.ml d 0) (.box (cs.map (klc d))) := rfl
theorem e_frz (k : Nat) (s : DS) : frzK k s KS = blkK (mget s.mem k) fun blk => blkFz blk = true ∧ kS ⟨s.env.map (fze k blk), mmap (fzb k blk) (mdel k s.mem)⟩ KS := rfl
theorem e_frzO0 (s : DS) (K0 K1 : DS → Prop) : frzO none s K0 K1 = K0 s := rfl
theorem e_frzO1 (k : Nat) (s : DS) (K0 K1 : DS → Prop) : frzO (some k) s K0 K1 = frzK k s K1 := rfl
theorem e_frzA (xs : List AX) (n : Nat) (s : DS) : frzArgs xs (n + 1) s KS = frzO (hdlVs (evs s.env xs)) s KS fun s' => frzArgs xs n s' KS := rfl
theorem e_frzV (n : Nat) (s : DS) : frzV (n + 1) s KL = frzO (hdlVs s.env) s (fun s' => s'.env.all isFz = true ∧ KL s'.env) fun s' => frzV n s' KL := rfl
theorem e_frzVF (s : DS) : frzV fuelF s KL = kS s fun s => frzV 12 s KL := rfl
theorem e_frzAF (xs : List AX) (s : DS) : frzArgs xs fuelF s KS = kS s fun s => frzArgs xs 12 s KS := rfl
theorem e_fz (ds : List DV) : kFz ds KL = (ds.all isFz = true ∧ KL ds) := rfl
theorem e_fn (KF : Nat → List DV → Prop) (f : Nat) (cap : List DV) : kFn (.fn f cap) KF = KF f cap := rfl
theorem e_gTT (A B : Prop) : kGv (.bool true) true A B = A := by simp [kGv]
theorem e_gTF (A B : Prop) : kGv (.bool true) false A B = B := by simp [kGv]
theorem e_gFT (A B : Prop) : kGv (.bool false) true A B = B := by simp [kGv]
theorem e_gFF (A B : Prop) : kGv (.bool false) false A B = A := by simp [kGv]
theorem e_gDT (p : Prop) [Decidable p] (A B : Prop) : kGv (.bool (decide p)) true A B = ((p → A) ∧ (¬p → B)) := by simp [kGv]
theorem e_gDF (p : Prop) [Decidable p] (A B : Prop) : kGv (.bool (decide p)) false A B = ((¬p → A) ∧ (p → B)) := by simp [kGv]
theorem e_gvu (w : Bool) (A B : Prop) : kGv (.tup []) w A B = B := rfl
theorem e_cT (A B : Prop) : kCond (.bool true) A B = A := by simp [kCond]
theorem e_cF (A B : Prop) : kCond (.bool false) A B = B := by simp [kCond]
theorem e_cD (p : Prop) [Decidable p] (A B : Prop) : kCond (.bool (decide p)) A B = ((p → A) ∧ (¬p → B)) := by simp [kCond]
theorem e_nd (p : Prop) [Decidable p] : (!decide p) = decide (¬p) := by by_cases h : p <;> simp [h]
theorem e_seq0 (c : DS → (AE → DS → Prop) → Prop) (s : DS) : kSeq c Q .normal s = c s Q := rfl
theorem e_seq1 (c : DS → (AE → DS → Prop) → Prop) (s : DS) (id : Nat) : kSeq c Q (.exit id) s = Q (.exit id) s := rfl
theorem e_seq2 (c : DS → (AE → DS → Prop) → Prop) (s : DS) : kSeq c Q .ret s = Q .ret s := rfl
theorem e_blk0 (id : Nat) (s : DS) : kBlk id Q .normal s = Q .normal s := rfl
theorem e_blk1 (id id' : Nat) (s : DS) : kBlk id Q (.exit id') s = if id' = id then Q .normal s else Q (.exit id') s := rfl
theorem e_blk2 (id : Nat) (s : DS) : kBlk id Q .ret s = Q .ret s := rfl
theorem e_loop0 (J : DS → Prop) (s : DS) : kLoop J Q .normal s = J s := rfl
theorem e_loop1 (J : DS → Prop) (s : DS) (id : Nat) : kLoop J Q (.exit id) s = Q (.exit id) s := rfl
theorem e_loop2 (J : DS → Prop) (s : DS) : kLoop J Q .ret s = Q .ret s := rfl
theorem e_op0 (dst : Option Nat) (op : AOp) (s : DS) : dOp P ⟨dst, none, op⟩ s KS = dRun P op s dst KS := rfl
theorem e_op1 (dst : Option Nat) (t : Nat) (w : Bool) (op : AOp) (s : DS) : dOp P ⟨dst, some (t, w), op⟩ s KS = kGv (gt s.env t) w (dRun P op s dst KS) (kPut dst s KS (.tup [])) := rfl
theorem e_opS0 (dst : Option Nat) (op : AOp) (s : DS) : dOpS P ⟨dst, none, op⟩ s KS = dRunS P op s dst KS := rfl
theorem e_opS1 (dst : Option Nat) (t : Nat) (w : Bool) (op : AOp) (s : DS) : dOpS P ⟨dst, some (t, w), op⟩ s KS = kGv (gt s.env t) w (dRunS P op s dst KS) (kPut dst s KS (.tup [])) := rfl
theorem e_res1 (t : Nat) (s : DS) : kRes1 (.t t) s K = kMv (gt s.env t) K := rfl
theorem e_res2 (ag : Bool) (n a : Nat) (s : DS) : kRes1 (.c ag n a) s K = kLd ag n (gt s.env a) s.mem (fun d => kMv d K) := rfl
theorem e_retf (l : List AR) (d : DV) (s : DS) : kRet l (.fz d) s = kResL l s fun ds => frzV fuelF ⟨ds, s.mem⟩ fun ds' => subD (retV ds') d := rfl
theorem e_reto (l : List AR) (e sz : Nat) (xs : List (List DV)) (s : DS) : kRet l (.own e sz xs) s = kResL l s (kOwR s.mem e sz xs) := rfl
theorem e_retm (l : List AR) (kk : KK) (es : List (DV × DV)) (s : DS) : kRet l (.ownm kk es) s = kResL l s (kOwM s.mem kk es) := rfl
theorem e_qn (l : List AR) (r : RK) (s : DS) : Qret l r .normal s = kRet l r s := rfl
theorem e_qr (l : List AR) (r : RK) (s : DS) : Qret l r .ret s = kRet l r s := rfl
theorem e_qe (l : List AR) (r : RK) (id : Nat) (s : DS) : Qret l r (.exit id) s = False := rfl

theorem e_opsP0 (s : DS) (Z : DV → DS → Prop) : dOpsP P [] s KS Z = KS s := rfl
theorem e_opsP1 (o : AOper) (l : List AOper) (s : DS) (Z : DV → DS → Prop) : dOpsP P (o :: l) s KS Z = dOpP P o s (fun s' => dOpsP P l s' KS Z) Z := rfl
theorem e_opP0 (dst : Option Nat) (op : AOp) (s : DS) (Z : DV → DS → Prop) : dOpP P ⟨dst, none, op⟩ s KS Z = dRunP P op s dst KS Z := rfl
theorem e_opP1 (dst : Option Nat) (t : Nat) (w : Bool) (op : AOp) (s : DS) (Z : DV → DS → Prop) : dOpP P ⟨dst, some (t, w), op⟩ s KS Z = kGv (gt s.env t) w (dRunP P op s dst KS Z) (kPut dst s KS (.tup [])) := rfl
theorem e_Z (d : DV) (s : DS) : kZ Q d s = Q (.pan d) s := rfl
theorem e_seq3 (c : DS → (AE → DS → Prop) → Prop) (s : DS) (d : DV) : kSeq c Q (.pan d) s = Q (.pan d) s := rfl
theorem e_blk3 (id : Nat) (s : DS) (d : DV) : kBlk id Q (.pan d) s = Q (.pan d) s := rfl
theorem e_loop3 (J : DS → Prop) (s : DS) (d : DV) : kLoop J Q (.pan d) s = Q (.pan d) s := rfl
theorem e_qp (l : List AR) (r : RK) (d : DV) (s : DS) : Qret l r (.pan d) s = False := rfl
theorem e_qpp (d d' : DV) (s : DS) : QretP d (.pan d') s = subD d' d := rfl
theorem e_qpn (d : DV) (s : DS) : QretP d .normal s = False := rfl
theorem e_qpr (d : DV) (s : DS) : QretP d .ret s = False := rfl
theorem e_qpe (d : DV) (id : Nat) (s : DS) : QretP d (.exit id) s = False := rfl
theorem e_drawp (t : DT) (o : AOper) (s : DS) : dwp P (.drawp t o) s Q = dDT P t s fun s' => dOpP P o s' (fun s'' => kS ⟨s''.env, msort s''.mem⟩ (Q .normal)) (kZ Q) := rfl
theorem e_opsp (l : List AOper) (s : DS) : dwp P (.opsp l) s Q = dOpsP P l s (Q .normal) (kZ Q) := rfl
theorem e_skip (s : DS) : dwp P .skip s Q = Q .normal s := rfl
theorem e_ops (l : List AOper) (s : DS) : dwp P (.ops l) s Q = dOps P l s (Q .normal) := rfl
theorem e_draw (t : DT) (s : DS) : dwp P (.draw t) s Q = dDT P t s (Q .normal) := rfl
theorem e_sq (a b : AC) (s : DS) : dwp P (.seq a b) s Q = dwp P a s (kSeq (dwp P b) Q) := rfl
theorem e_cnd (x : AX) (a b : AC) (s : DS) : dwp P (.cond x a b) s Q = kCond (ev s.env x) (dwp P a s Q) (dwp P b s Q) := rfl
theorem e_block (id : Nat) (c : AC) (s : DS) : dwp P (.block id c) s Q = dwp P c s (kBlk id Q) := rfl
theorem e_exit (id : Nat) (s : DS) : dwp P (.exit id) s Q = Q (.exit id) s := rfl
theorem e_rt (s : DS) : dwp P .ret s Q = Q .ret s := rfl
theorem e_fzc (k : Nat) (c : AC) (s : DS) : dwp P (.fz k c) s Q = frzK k s fun s' => dwp P c s' Q := rfl

/-- slots and blocks laid over a state -/
def pE : List (Nat × DV) → List DV → List DV
  | [], e => e
  | (i, d) :: r, e => pE r (stp e i d)
def pM : List (Nat × Blk) → Mem → Mem
  | [], m => m
  | (k, b) :: r, m => pM r (mins k b (mdel k m))
theorem loop_p {X : Type} {c : AC} {E : List DV} {M : Mem} (R : Nat → X → Prop) (pe : X → List (Nat × DV)) (pm : X → List (Nat × Blk)) (ts0 ks : List Nat) (n0 : Nat) (x0 : X) (hR : R n0 x0)
    (h0 : forget ts0 ks ⟨E, M⟩ = ⟨pE (pe x0) (forgetE ts0 E), pM (pm x0) (msort (mdels ks M))⟩)
    (hr : ∀ n x, R n x → dwp P c ⟨pE (pe x) (forgetE ts0 E), pM (pm x) (msort (mdels ks M))⟩
      (kLoop (fun s' => ∃ m ts ks', m < n ∧ ∃ x', R m x' ∧ forget ts ks' s' = ⟨pE (pe x') (forgetE ts0 E), pM (pm x') (msort (mdels ks M))⟩) Q)) : dwp P (.loop c) ⟨E, M⟩ Q := by
  refine ⟨fun n s => ∃ x, R n x ∧ s = ⟨pE (pe x) (forgetE ts0 E), pM (pm x) (msort (mdels ks M))⟩, n0, ts0, ks, ⟨x0, hR, h0⟩, ?_⟩
  rintro n s ⟨x, hx, rfl⟩
  exact hr n x hx

theorem spec_at {f : Nat} {fn : Func} {as : List RK} {ars : List AR} {ac : AC} {r : RK} {n : Nat} (hf : P.funcs[f]? = some fn) (hn : (fn.name == "runtime.NumGoroutine") = false) (hnt : fn.ntmps = n + as.length)
    (hc : fn.body.bind (trCode P) = some (strip ac)) (hr : trRes P fn.results.toList = some ars) (h : dwp P ac ⟨argE 0 as ++ List.replicate n .any, argM 0 as⟩ (Qret ars r)) : Spec P f as r := by
  cases hb : fn.body with
  | none => rw [hb] at hc; cases hc
  | some c => rw [hb] at hc; exact spec_of hf hn hb hnt hc hr h
theorem spec_atF {f : Nat} {fn : Func} {as : List RK} {ars : List AR} {ac : AC} {r : RK} {n : Nat} (fl : List Nat) (hf : P.funcs[f]? = some fn) (hn : (fn.name == "runtime.NumGoroutine") = false) (hnt : fn.ntmps = n + as.length)
    (hc : fn.body.bind (trCodeF P fl) = some (strip ac)) (hr : trRes P fn.results.toList = some ars) (h : dwp P ac ⟨argE 0 as ++ List.replicate n .any, argM 0 as⟩ (Qret ars r)) : Spec P f as r := by
  cases hb : fn.body with
  | none => rw [hb] at hc; cases hc
  | some c => rw [hb] at hc; exact spec_of hf hn hb hnt hc hr h
theorem specP_at {f : Nat} {fn : Func} {ds : List DV} {ac : AC} {d : DV} {n : Nat} (hf : P.funcs[f]? = some fn) (hn : (fn.name == "runtime.NumGoroutine") = false) (hnt : fn.ntmps = n + ds.length)
    (hc : fn.body.bind (trCode P) = some (strip ac)) (h : dwp P ac ⟨argE 0 (ds.map .fz) ++ List.replicate n .any, argM 0 (ds.map .fz)⟩ (QretP d)) : SpecP P f ds d := by
  cases hb : fn.body with
  | none => rw [hb] at hc; cases hc
  | some c => rw [hb] at hc; exact specP_of hf hn hb hnt hc h
/-- the counter of a loop over a slice -/
theorem wrap_len {n m : Nat} (h : n < m) (hm : m ≤ maxLen) : IntKind.i64.wrap ((n : Int) + 1) = ((n + 1 : Nat) : Int) := by
  have : IntKind.i64.wrap ((n : Int) + 1) = (n : Int) + 1 := by
    simp only [maxLen] at hm
    simp only [IntKind.wrap, IntKind.signed, IntKind.bits]
    simp
    omega
  rw [this]
  simp
/-! ### calls by contract -/
theorem call_fz {f : Nat} {ds : List DV} {d : DV} {dst : Option Nat} {s : DS} (h : Spec P f (ds.map .fz) (.fz d)) (hf : ds.all isFz = true) (hK : kPut dst s KS d) : kSpec P f ds dst s KS := ⟨hf, .inl ⟨d, h, hK⟩⟩
theorem call_sub {f : Nat} {ds ds' : List DV} {d : DV} {dst : Option Nat} {s : DS} (h : Spec P f (ds'.map .fz) (.fz d)) (hf : ds.all isFz = true) (hs : subL ds ds') (hK : kPut dst s KS d) : kSpec P f ds dst s KS := ⟨hf, .inl ⟨d, h.weak hs, hK⟩⟩
theorem call_subo {f : Nat} {ds ds' : List DV} {e sz : Nat} {xs : List (List DV)} {t : Nat} {s : DS} (h : Spec P f (ds'.map .fz) (.own e sz xs)) (hf : ds.all isFz = true) (hs : subL ds ds') (hK : kBind (some t) s KS (.ow t) (.vec e sz xs)) : kSpec P f ds (some t) s KS :=
  ⟨hf, .inr (.inl ⟨e, sz, xs, t, rfl, h.weak hs, hK⟩)⟩
theorem call_ow {f : Nat} {ds : List DV} {e sz : Nat} {xs : List (List DV)} {t : Nat} {s : DS} (h : Spec P f (ds.map .fz) (.own e sz xs)) (hf : ds.all isFz = true) (hK : kBind (some t) s KS (.ow t) (.vec e sz xs)) : kSpec P f ds (some t) s KS :=
  ⟨hf, .inr (.inl ⟨e, sz, xs, t, rfl, h, hK⟩)⟩
theorem call_owm {f : Nat} {ds ds' : List DV} {kk : KK} {es : List (DV × DV)} {t : Nat} {s : DS} (h : Spec P f (ds'.map .fz) (.ownm kk es)) (hf : ds.all isFz = true) (hs : subL ds ds') (hK : kBind (some t) s KS (.ow t) (.mp kk es)) : kSpec P f ds (some t) s KS :=
  ⟨hf, .inr (.inr ⟨kk, es, t, rfl, h.weak hs, hK⟩)⟩
end
end Go.Proofs.YtcolebkklojccaaGreat.E
