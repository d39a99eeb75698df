/-
  The engine, part U4: what is asked of the end may be weakened; a walk is cut where its ways meet.
-/
import Derived.Test.YtcolebkklojccaaGreatEngU3
set_option linter.unusedVariables false
set_option linter.unusedSimpArgs false
set_option linter.unusedVariables false
namespace Go.Proofs.YtcolebkklojccaaGreat.E
open Go
section
variable {P : Program} {K K' : DV → Prop} {KS KS' : DS → Prop} {KL KL' : List DV → Prop} {KX KX' : List (List DV) → Prop}

theorem m_put {dst : Option Nat} {s : DS} {v : DV} (h : ∀ s, KS s → KS' s) : kPut dst s KS v → kPut dst s KS' v := by
  unfold kPut kS
  split <;> exact h _
theorem m_bind {dst : Option Nat} {s : DS} {v : DV} {b : Blk} (h : ∀ s, KS s → KS' s) : kBind dst s KS v b → kBind dst s KS' v b := by
  unfold kBind kS
  split
  · exact id
  · exact h _
theorem m_pick {c a b : DV} (h : ∀ v, K v → K' v) : kPick c a b K → kPick c a b K' := by
  unfold kPick
  split
  · exact fun ⟨x, y⟩ => ⟨fun z => h _ (x z), fun z => h _ (y z)⟩
  · exact id
theorem m_nt {x : DV} (h : ∀ v, K v → K' v) : kNt x K → kNt x K' := by
  unfold kNt
  split
  · exact h _
  · exact id
theorem m_ng {x : DV} (h : ∀ v, K v → K' v) : kNg x K → kNg x K' := by
  unfold kNg
  split
  · exact h _
  · exact id
theorem m_binI {o : BinOp} {k : IntKind} {a b : Int} (h : ∀ v, K v → K' v) : binI o k a b K → binI o k a b K' := by
  unfold binI
  cases o <;> simp only <;> first | exact h _ | exact fun ⟨x, y⟩ => ⟨x, h _ y⟩ | exact id
theorem m_binS {o : BinOp} {a b : List UInt8} (h : ∀ v, K v → K' v) : binS o a b K → binS o a b K' := by
  unfold binS
  cases o <;> simp only <;> first | exact h _ | exact fun ⟨x, y⟩ => ⟨x, h _ y⟩ | exact id
theorem m_bin {o : BinOp} {x y : DV} (h : ∀ v, K v → K' v) : kBin o x y K → kBin o x y K' := by
  unfold kBin
  split
  · rintro (⟨h1, h2, h3, h4⟩ | ⟨h1, h2, h3, h4⟩)
    · exact .inl ⟨h1, h2, h3, h _ h4⟩
    · exact .inr ⟨h1, h2, h3, m_binI h h4⟩
  · exact m_binS h
  · exact id
theorem m_beq {ne : Bool} {x y : DV} (h : ∀ v, K v → K' v) : kBeq ne x y K → kBeq ne x y K' := by
  unfold kBeq
  split
  · exact h _
  · exact id
theorem m_B {o : Option Bool} {KB KB' : Bool → Prop} (h : ∀ b, KB b → KB' b) : kB o KB → kB o KB' := by
  unfold kB
  split
  · exact h _
  · exact id
theorem m_eqa {ne : Bool} {ks : List PK} {x y : DV} (h : ∀ v, K v → K' v) : kEqa ne ks x y K → kEqa ne ks x y K' := by
  unfold kEqa
  split
  · exact m_B fun _ => h _
  · exact id
theorem m_hd {cs : List DV} (h : ∀ v, K v → K' v) : hdK cs K → hdK cs K' := by
  unfold hdK
  split
  · exact h _
  · exact id
theorem m_blk {b : Option Blk} {KB KB' : Blk → Prop} (h : ∀ b, KB b → KB' b) : blkK b KB → blkK b KB' := by
  unfold blkK
  split
  · exact h _
  · exact id
theorem m_box {b : Blk} (h : ∀ v, KL v → KL' v) : boxK b KL → boxK b KL' := by
  unfold boxK
  split
  · exact h _
  · exact id
theorem m_vec {b : Blk} {KV KV' : Nat → Nat → List (List DV) → Prop} (h : ∀ a b c, KV a b c → KV' a b c) : vecK b KV → vecK b KV' := by
  unfold vecK
  split
  · exact h _ _ _
  · exact id
theorem m_mp {b : Blk} {KM KM' : KK → List (DV × DV) → Prop} (h : ∀ a b, KM a b → KM' a b) : mpK b KM → mpK b KM' := by
  unfold mpK
  split
  · exact h _ _
  · exact id
theorem m_take {ag : Bool} {n : Nat} {cs : List DV} (h : ∀ v, K v → K' v) : takeK ag n cs K → takeK ag n cs K' := by
  unfold takeK
  split
  · exact fun ⟨x, y⟩ => ⟨x, h _ y⟩
  · exact m_hd h
theorem m_ld {ag : Bool} {n : Nat} {p : DV} {mem : Mem} (h : ∀ v, K v → K' v) : kLd ag n p mem K → kLd ag n p mem K' := by
  unfold kLd
  split
  · split
    · exact fun ⟨x, y⟩ => ⟨x, h _ y⟩
    · exact m_hd h
  · exact m_blk fun _ => m_box fun _ => m_take h
  · exact m_blk fun _ => m_vec fun _ _ _ ⟨x, y, z⟩ => ⟨x, y, m_take h z⟩
  · exact id
theorem m_ldF {ag : Bool} {n : Nat} {p : DV} (h : ∀ v, K v → K' v) : kLdF ag n p K → kLdF ag n p K' := by
  unfold kLdF
  split
  · split
    · exact fun ⟨x, y⟩ => ⟨x, h _ y⟩
    · exact m_hd h
  · exact id
theorem m_cells {x : DV} (h : ∀ v, KL v → KL' v) : cellsK x KL → cellsK x KL' := by
  unfold cellsK
  split
  · exact h _
  · exact h _
  · exact fun ⟨x, y⟩ => ⟨x, h _ y⟩
theorem m_st {n : Nat} {p x : DV} {s : DS} (h : ∀ s, KS s → KS' s) : kSt n p x s KS → kSt n p x s KS' := by
  unfold kSt
  split
  · exact m_blk fun _ => m_box fun _ => m_cells fun _ ⟨a, b, c⟩ => ⟨a, b, h _ c⟩
  · exact m_blk fun _ => m_vec fun _ _ _ => m_cells fun _ ⟨a, b, c, d, e, f⟩ => ⟨a, b, c, d, e, h _ f⟩
  · exact id
theorem m_fld {off : Nat} {p : DV} (h : ∀ v, K v → K' v) : kFld off p K → kFld off p K' := by
  unfold kFld
  split <;> first | exact h _ | exact id
theorem m_fldv {ag : Bool} {off n : Nat} {x : DV} (h : ∀ v, K v → K' v) : kFldv ag off n x K → kFldv ag off n x K' := by
  unfold kFldv
  split
  · split
    · exact fun ⟨x, y⟩ => ⟨x, h _ y⟩
    · exact m_hd h
  · split
    · exact fun ⟨x, y⟩ => ⟨x, h _ y⟩
    · exact m_hd h
  · exact id
theorem m_ix {sz : Nat} {x i : DV} {mem : Mem} (h : ∀ v, K v → K' v) : kIx sz x i mem K → kIx sz x i mem K' := by
  unfold kIx
  split
  · exact fun ⟨a, b, c, d⟩ => ⟨a, b, c, h _ d⟩
  · exact m_blk fun _ => m_vec fun _ _ _ ⟨a, b, c, d⟩ => ⟨a, b, c, h _ d⟩
  · exact id
theorem m_ixp {len sz : Nat} {p i : DV} (h : ∀ v, K v → K' v) : kIxp len sz p i K → kIxp len sz p i K' := by
  unfold kIxp
  split <;> first | exact fun ⟨a, b, c⟩ => ⟨a, b, h _ c⟩ | exact id
theorem m_ixv {ag : Bool} {len sz : Nat} {x i : DV} (h : ∀ v, K v → K' v) : kIxv ag len sz x i K → kIxv ag len sz x i K' := by
  unfold kIxv
  split
  · rintro ⟨a, b, c⟩
    refine ⟨a, b, ?_⟩
    revert c
    split
    · exact fun ⟨x, y⟩ => ⟨x, h _ y⟩
    · exact m_hd h
  · exact id
theorem m_ixs {x i : DV} (h : ∀ v, K v → K' v) : kIxs x i K → kIxs x i K' := by
  unfold kIxs
  split
  · exact fun ⟨a, b, c⟩ => ⟨a, b, h _ c⟩
  · exact id
theorem m_bnd {lo : Option DV} {d : Nat} {KN KN' : Nat → Prop} (h : ∀ n, KN n → KN' n) : bndK lo d KN → bndK lo d KN' := by
  unfold bndK
  split
  · exact h _
  · exact fun ⟨x, y⟩ => ⟨x, h _ y⟩
  · exact id
theorem m_subZ {m : DV} {hi lo : Option DV} {k k' : Prop} (h : k → k') : subZ m hi lo k → subZ m hi lo k' := by
  unfold subZ
  split
  · rintro ⟨a, b⟩
    refine ⟨a, ?_⟩
    revert b
    split
    · rintro ⟨a, b⟩
      refine ⟨a, ?_⟩
      revert b
      split
      · exact h
      · exact fun ⟨x, y⟩ => ⟨x, h y⟩
      · exact id
    · exact id
  · exact id
theorem m_sub {sz : Nat} {x : DV} {lo hi mx : Option DV} (h : ∀ v, K v → K' v) : kSub sz x lo hi mx K → kSub sz x lo hi mx K' := by
  unfold kSub
  split
  · split
    · exact m_bnd fun _ => m_bnd fun _ ⟨a, b, c, d⟩ => ⟨a, b, c, h _ d⟩
    · exact m_subZ (h _)
  · split
    · exact m_bnd fun _ => m_bnd fun _ ⟨a, b, c⟩ => ⟨a, b, h _ c⟩
    · exact m_subZ (h _)
  · exact id
theorem m_subs {x : DV} {lo hi : Option DV} (h : ∀ v, K v → K' v) : kSubs x lo hi K → kSubs x lo hi K' := by
  unfold kSubs
  split
  · exact m_bnd fun _ => m_bnd fun _ ⟨a, b, c⟩ => ⟨a, b, h _ c⟩
  · exact id
theorem m_len {x : DV} {mem : Mem} (h : ∀ v, K v → K' v) : kLen x mem K → kLen x mem K' := by
  unfold kLen
  split
  · exact fun a b => h _ (a b)
  · exact h _
  · exact m_blk fun _ => m_vec fun _ _ _ a b => h _ (a b)
  · exact id
theorem m_lens {x : DV} (h : ∀ v, K v → K' v) : kLens x K → kLens x K' := by
  unfold kLens
  split
  · exact fun a b => h _ (a b)
  · exact id
theorem m_src {sz : Nat} {x : DV} {mem : Mem} (h : ∀ v, KX v → KX' v) : srcK sz x mem KX → srcK sz x mem KX' := by
  unfold srcK
  split
  · exact fun ⟨x, y⟩ => ⟨x, h _ y⟩
  · exact h _
  · exact m_blk fun _ => m_vec fun _ _ _ ⟨a, b⟩ => ⟨a, h _ b⟩
  · exact id
theorem m_dst {e sz : Nat} {x : DV} {mem : Mem} (h : ∀ v, KX v → KX' v) : dstK e sz x mem KX → dstK e sz x mem KX' := by
  unfold dstK
  split
  · exact h _
  · exact m_blk fun _ => m_vec fun _ _ _ ⟨a, b, c⟩ => ⟨a, b, h _ c⟩
  · exact id
theorem m_ow {dst : Option Nat} {s : DS} {b : Blk} (h : ∀ s, KS s → KS' s) : kOw dst s KS b → kOw dst s KS' b := by
  unfold kOw
  split
  · exact m_bind h
  · exact id
theorem m_app {e sz bytes : Nat} {d x : DV} {dst : Option Nat} {s : DS} (h : ∀ s, KS s → KS' s) : kApp e sz bytes d x dst s KS → kApp e sz bytes d x dst s KS' := by
  unfold kApp
  exact m_dst fun _ => m_src fun _ ⟨a, b, c⟩ => ⟨a, b, m_ow h c⟩
theorem m_ext {x : DV} {i : Nat} (h : ∀ v, K v → K' v) : kExt x i K → kExt x i K' := by
  unfold kExt
  split
  · exact m_hd h
  · exact id
theorem m_mm {mx : Bool} {x y : DV} (h : ∀ v, K v → K' v) : kMm mx x y K → kMm mx x y K' := by
  unfold kMm
  split
  · exact fun ⟨x, y⟩ => ⟨x, h _ y⟩
  · exact id
theorem m_conv {k : IntKind} {x : DV} (h : ∀ v, K v → K' v) : kConv k x K → kConv k x K' := by
  unfold kConv
  split
  · exact h _
  · exact id
theorem m_str {x : DV} (h : ∀ v, K v → K' v) : kStr x K → kStr x K' := by
  unfold kStr
  split
  · exact h _
  · exact id
theorem m_isn {ne : Bool} {x : DV} {mem : Mem} (h : ∀ v, K v → K' v) : kIsn ne x mem K → kIsn ne x mem K' := by
  unfold kIsn
  split
  · exact fun ⟨a, b⟩ => ⟨fun c => h _ (a c), h _ b⟩
  · exact fun ⟨a, b⟩ => ⟨h _ a, h _ b⟩
  · exact m_blk fun _ => m_vec fun _ _ _ ⟨a, b⟩ => ⟨fun c => h _ (a c), h _ b⟩
  · exact id
theorem m_fill {env : List DV} (h : ∀ v, KL v → KL' v) : ∀ {ps : List (Nat × Nat × AX)} {zs : List DV}, fillK env ps zs KL → fillK env ps zs KL'
  | [], _ => h _
  | (o, n, x) :: r, zs => by
    unfold fillK
    exact m_cells fun _ ⟨a, b, c⟩ => ⟨a, b, m_fill h c⟩
theorem m_rows {env : List DV} {sz : Nat} (h : ∀ v, KX v → KX' v) : ∀ {ps : List (Nat × AX)} {xs : List (List DV)}, rowsK env sz ps xs KX → rowsK env sz ps xs KX'
  | [], _ => h _
  | (i, x) :: r, xs => by
    unfold rowsK
    exact m_cells fun _ ⟨a, b, c, d⟩ => ⟨a, b, c, m_rows h d⟩
theorem m_boxo {x : DV} {dst : Option Nat} {s : DS} (h : ∀ s, KS s → KS' s) : kBox x dst s KS → kBox x dst s KS' := by
  unfold kBox
  refine m_cells fun _ => ?_
  split
  · exact m_bind h
  · exact id
theorem m_frz {k : Nat} {s : DS} (h : ∀ s, KS s → KS' s) : frzK k s KS → frzK k s KS' := by
  unfold frzK
  exact m_blk fun _ ⟨a, b⟩ => ⟨a, h _ b⟩
theorem m_frzO {o : Option Nat} {s : DS} {K0 K1 K0' K1' : DS → Prop} (h0 : ∀ s, K0 s → K0' s) (h1 : ∀ s, K1 s → K1' s) : frzO o s K0 K1 → frzO o s K0' K1' := by
  unfold frzO
  split
  · exact h0 _
  · exact m_frz h1
theorem m_frzA {xs : List AX} (h : ∀ s, KS s → KS' s) : ∀ {n : Nat} {s : DS}, frzArgs xs n s KS → frzArgs xs n s KS'
  | 0, _ => id
  | n + 1, s => by
    unfold frzArgs
    exact m_frzO h fun _ => m_frzA h
theorem m_spec {f : Nat} {ds : List DV} {dst : Option Nat} {s : DS} (h : ∀ s, KS s → KS' s) : kSpec P f ds dst s KS → kSpec P f ds dst s KS' := by
  rintro ⟨h0, (⟨d, h1, h2⟩ | ⟨e, sz, xs, t, h1, h2, h3⟩ | ⟨kk, es, t, h1, h2, h3⟩)⟩
  · exact ⟨h0, .inl ⟨d, h1, m_put h h2⟩⟩
  · exact ⟨h0, .inr (.inl ⟨e, sz, xs, t, h1, h2, m_bind h h3⟩)⟩
  · exact ⟨h0, .inr (.inr ⟨kk, es, t, h1, h2, m_bind h h3⟩)⟩
theorem m_specO {f : Nat} {ds : List DV} {dst : Option Nat} {s : DS} (h : ∀ s, KS s → KS' s) : kSpecO P f ds dst s KS → kSpecO P f ds dst s KS' := by
  rintro ⟨as, k, h0, (⟨d, h1, h2⟩ | ⟨e, sz, xs, t, h1, h2, h3⟩)⟩
  · exact ⟨as, k, h0, .inl ⟨d, h1, m_put h h2⟩⟩
  · exact ⟨as, k, h0, .inr ⟨e, sz, xs, t, h1, h2, m_bind h h3⟩⟩
theorem m_mkm {kk : KK} {r : Option DV} {dst : Option Nat} {s : DS} (h : ∀ s, KS s → KS' s) : kMkm kk r dst s KS → kMkm kk r dst s KS' := by
  unfold kMkm
  rintro ⟨a, b⟩
  refine ⟨a, ?_⟩
  cases dst with
  | none => exact b
  | some d => exact m_bind (dst := some d) h b
theorem m_mput {kk : KK} {m k v : DV} {s : DS} (h : ∀ s, KS s → KS' s) : kMput kk m k v s KS → kMput kk m k v s KS' := by
  unfold kMput
  split
  · exact m_blk fun _ => m_mp fun _ _ ⟨a, b, c, d, e⟩ => ⟨a, b, c, d, h _ e⟩
  · exact id
theorem m_mlk {kk : KK} {z m k : DV} {mem : Mem} (h : ∀ v, K v → K' v) : kMlk kk z m k mem K → kMlk kk z m k mem K' := by
  unfold kMlk
  split
  · exact m_blk fun _ => m_mp fun _ _ ⟨a, b, c⟩ => ⟨a, b, h _ c⟩
  · exact id
theorem m_mrm {kk : KK} {m k : DV} {s : DS} (h : ∀ s, KS s → KS' s) : kMrm kk m k s KS → kMrm kk m k s KS' := by
  unfold kMrm
  split
  · exact m_blk fun _ => m_mp fun _ _ ⟨a, b, c⟩ => ⟨a, b, h _ c⟩
  · exact id
theorem m_nck {x : DV} (h : ∀ v, K v → K' v) : kNck x K → kNck x K' := by
  unfold kNck
  cases x <;> first | exact id | exact h _
theorem m_mks {e sz bytes : Nat} {l c : DV} {dst : Option Nat} {s : DS} (h : ∀ s, KS s → KS' s) : kMks e sz bytes l c dst s KS → kMks e sz bytes l c dst s KS' := by
  unfold kMks
  cases l <;> try exact id
  cases c <;> try exact id
  rintro ⟨h1, h2, h3, h4, h5⟩
  refine ⟨h1, h2, h3, h4, ?_⟩
  cases dst with
  | none => exact h5
  | some d => exact m_bind h h5
theorem m_appn {e sz bytes : Nat} {d x : DV} {dst : Option Nat} {s : DS} (h : ∀ s, KS s → KS' s) : kAppn e sz bytes d x dst s KS → kAppn e sz bytes d x dst s KS' := by
  unfold kAppn
  cases d <;> first | exact id | exact m_app h
theorem m_fz {ds : List DV} (h : ∀ v, KL v → KL' v) : kFz ds KL → kFz ds KL' := fun ⟨a, b⟩ => ⟨a, h _ b⟩
theorem m_fn {x : DV} {KF KF' : Nat → List DV → Prop} (h : ∀ a b, KF a b → KF' a b) : kFn x KF → kFn x KF' := by
  unfold kFn
  split
  · exact h _ _
  · exact id
theorem m_run {op : AOp} {s : DS} {dst : Option Nat} (h : ∀ s, KS s → KS' s) : dRun P op s dst KS → dRun P op s dst KS' := by
  have hp : ∀ v, kPut dst s KS v → kPut dst s KS' v := fun v => m_put h
  cases op with
  | mv x => exact hp _
  | pick c a b => exact m_pick hp
  | alloc zs =>
    cases dst with
    | none => exact id
    | some d => exact fun x => m_bind (dst := some d) h x
  | box x => exact m_boxo h
  | build zs ps => exact m_fill fun _ => hp _
  | buildSl e sz len zs ps =>
    refine m_frzA fun s' => m_rows fun _ => ?_
    cases dst with
    | none => exact id
    | some d => exact m_bind h
  | ld ag n p => exact m_ld hp
  | sto n p x => exact m_st h
  | bin o x y => exact m_bin hp
  | beq ne x y => exact m_beq hp
  | eqa ne ks x y => exact m_eqa hp
  | nt x => exact m_nt hp
  | ng x => exact m_ng hp
  | fld off p => exact m_fld hp
  | fldv ag off n x => exact m_fldv hp
  | ix sz x i => exact m_ix hp
  | ixp len sz x i => exact m_ixp hp
  | ixv ag len sz x i => exact m_ixv hp
  | ixs x i => exact m_ixs hp
  | sub sz x lo hi mx => exact m_sub hp
  | subs x lo hi => exact m_subs hp
  | len x => exact m_len hp
  | lens x => exact m_lens hp
  | lenc n => exact hp _
  | app e sz bytes d x => exact m_app h
  | mkfn f caps => exact m_frzA fun s' => m_fz fun _ => m_put h
  | call ow f args =>
    cases ow with
    | false => exact m_frzA fun s' => m_spec h
    | true => exact m_specO h
  | callv x args => exact m_fn fun _ _ => m_frzA fun s' => m_spec h
  | ext x i => exact m_ext hp
  | mm mx x y => exact m_mm hp
  | conv k x => exact m_conv hp
  | cstr x => exact m_str hp
  | isn ne x => exact m_isn hp
  | mkm kk r => exact m_mkm h
  | mput kk m k v => exact m_mput h
  | mlk kk z m k => exact m_mlk hp
  | mrm kk m k => exact m_mrm h
  | nck x => exact m_nck hp
  | mks e sz bytes l c => exact m_mks h
  | appn e sz bytes d x => exact m_appn h
  | bs0 e sz zs => exact hp _
theorem m_gv {x : DV} {want : Bool} {A B A' B' : Prop} (h1 : A → A') (h2 : B → B') : kGv x want A B → kGv x want A' B' := by
  unfold kGv
  split
  · exact fun ⟨a, b⟩ => ⟨fun c => h1 (a c), fun c => h2 (b c)⟩
  · exact h2
  · exact id
theorem m_op {o : AOper} {s : DS} (h : ∀ s, KS s → KS' s) : dOp P o s KS → dOp P o s KS' := by
  unfold dOp
  split
  · exact m_run h
  · exact m_gv (m_run h) (m_put h)
theorem m_ops (h : ∀ s, KS s → KS' s) : ∀ {l : List AOper} {s : DS}, dOps P l s KS → dOps P l s KS'
  | [], _ => h _
  | o :: l, s => m_op fun _ => m_ops h
theorem m_runS {op : AOp} {s : DS} {dst : Option Nat} (h : ∀ s, KS s → KS' s) : dRunS P op s dst KS → dRunS P op s dst KS' := by
  unfold dRunS
  split
  · exact m_ldF fun _ => m_put h
  · exact m_run h
theorem m_opS {o : AOper} {s : DS} (h : ∀ s, KS s → KS' s) : dOpS P o s KS → dOpS P o s KS' := by
  unfold dOpS
  split
  · exact m_runS h
  · exact m_gv (m_runS h) (m_put h)
theorem m_dt (h : ∀ s, KS s → KS' s) : ∀ {t : DT} {s : DS}, dDT P t s KS → dDT P t s KS'
  | .nil, _ => h _
  | .op o n, _ => m_op fun _ => m_dt h
  | .q true o n, _ => m_opS fun _ => m_dt h
  | .q false o n, _ => m_op fun _ => m_dt h
  | .alt a b, _ => fun ⟨x, y⟩ => ⟨m_dt h x, m_dt h y⟩
theorem m_specP {f : Nat} {ds : List DV} {dst : Option Nat} {s : DS} {Z Z' : DV → DS → Prop} (h : ∀ s, KS s → KS' s) (hz : ∀ d s, Z d s → Z' d s) : kSpecP P f ds dst s KS Z → kSpecP P f ds dst s KS' Z' := by
  rintro (h1 | ⟨h1, d, h2, h3⟩)
  · exact .inl (m_spec h h1)
  · exact .inr ⟨h1, d, h2, hz _ _ h3⟩
theorem m_runP {op : AOp} {s : DS} {dst : Option Nat} {Z Z' : DV → DS → Prop} (h : ∀ s, KS s → KS' s) (hz : ∀ d s, Z d s → Z' d s) : dRunP P op s dst KS Z → dRunP P op s dst KS' Z' := by
  unfold dRunP
  split
  · exact m_frzA fun s' => m_specP h hz
  · exact m_run h
theorem m_opP {o : AOper} {s : DS} {Z Z' : DV → DS → Prop} (h : ∀ s, KS s → KS' s) (hz : ∀ d s, Z d s → Z' d s) : dOpP P o s KS Z → dOpP P o s KS' Z' := by
  unfold dOpP
  split
  · exact m_runP h hz
  · exact m_gv (m_runP h hz) (m_put h)
theorem m_opsP {Z Z' : DV → DS → Prop} (h : ∀ s, KS s → KS' s) (hz : ∀ d s, Z d s → Z' d s) : ∀ {l : List AOper} {s : DS}, dOpsP P l s KS Z → dOpsP P l s KS' Z'
  | [], _ => h _
  | o :: l, s => m_opP (fun _ => m_opsP h hz) hz
theorem m_wp : ∀ {c : AC} {s : DS} {Q Q' : AE → DS → Prop}, (∀ e s, Q e s → Q' e s) → dwp P c s Q → dwp P c s Q'
  | .skip, s, _, _, h => h _ _
  | .ops l, s, _, _, h => m_ops (h _)
  | .bad, s, _, _, h => id
  | .drawp t o, s, _, _, h => m_dt fun _ => m_opP (fun _ => h _ _) fun d s => h (.pan d) s
  | .opsp l, s, _, _, h => m_opsP (h _) fun d s => h (.pan d) s
  | .draw t, s, _, _, h => m_dt (h _)
  | .seq a b, s, Q, Q', h => by
    unfold dwp
    refine m_wp (c := a) fun e s' => ?_
    cases e with
    | normal => exact m_wp (c := b) h
    | exit id => exact h _ _
    | ret => exact h _ _
    | pan d => exact h _ _
  | .cond x a b, s, Q, Q', h => by
    unfold dwp kCond
    split
    · exact fun ⟨x, y⟩ => ⟨fun z => m_wp h (x z), fun z => m_wp h (y z)⟩
    · exact id
  | .block id c, s, Q, Q', h => by
    unfold dwp
    refine m_wp (c := c) fun e s' => ?_
    unfold kBlk
    cases e with
    | normal => exact h _ _
    | exit id' =>
      simp only
      split
      · exact h _ _
      · exact h _ _
    | ret => exact h _ _
    | pan d => exact h _ _
  | .loop c, s, Q, Q', h => by
    unfold dwp
    rintro ⟨I, n, ts, ks, h1, h2⟩
    refine ⟨I, n, ts, ks, h1, fun n s hs => m_wp (c := c) (fun e s' => ?_) (h2 n s hs)⟩
    cases e with
    | normal => exact id
    | exit id => exact h _ _
    | ret => exact h _ _
    | pan d => exact h _ _
  | .exit id, s, _, _, h => h _ _
  | .ret, s, _, _, h => h _ _
  | .fz k c, s, Q, Q', h => by
    unfold dwp
    exact m_frz fun _ => m_wp (c := c) h
/-- where the ways meet -/
def kCut (I : DS → Prop) (Q : AE → DS → Prop) (e : AE) (s : DS) : Prop :=
  match e with
  | .normal => I s
  | .exit id => Q (.exit id) s
  | .ret => Q .ret s
  | .pan d => Q (.pan d) s
theorem seq_cut {a b : AC} {s : DS} {Q : AE → DS → Prop} (I : DS → Prop) (h1 : dwp P a s (kCut I Q)) (h2 : ∀ s', I s' → dwp P b s' Q) : dwp P (.seq a b) s Q := by
  unfold dwp
  refine m_wp (fun e s' => ?_) h1
  cases e with
  | normal => exact h2 s'
  | exit i => exact fun h => h
  | ret => exact fun h => h
  | pan d => exact fun h => h
/-- a state that is known -/
def kIs (S : DS) (s : DS) : Prop := s = S
theorem seq_is {a b : AC} {s : DS} {Q : AE → DS → Prop} (S : DS) (h1 : dwp P a s (kCut (kIs S) Q)) (h2 : dwp P b S Q) : dwp P (.seq a b) s Q :=
  seq_cut (kIs S) h1 fun s' h => by
    unfold kIs at h
    subst h
    exact h2
theorem i_cut0 {I : DS → Prop} {Q : AE → DS → Prop} (s : DS) : kCut I Q .normal s = I s := rfl
theorem i_cut1 {I : DS → Prop} {Q : AE → DS → Prop} (id : Nat) (s : DS) : kCut I Q (.exit id) s = Q (.exit id) s := rfl
theorem i_cut2 {I : DS → Prop} {Q : AE → DS → Prop} (s : DS) : kCut I Q .ret s = Q .ret s := rfl
theorem c_cut {I : DS → Prop} {Q : AE → DS → Prop} {e : AE} {s : DS} {p : Prop} (_ : nf True = p) : kCut I Q e s = kCut I Q e s := rfl
theorem c_is {S s s' : DS} (h : nf s = s') : kIs S s = kIs S s' := by cases h; rfl
theorem i_cut3 {I : DS → Prop} {Q : AE → DS → Prop} (d : DV) (s : DS) : kCut I Q (.pan d) s = Q (.pan d) s := rfl
theorem is_in (S : DS) : kIs S S := rfl
end
end Go.Proofs.YtcolebkklojccaaGreat.E
