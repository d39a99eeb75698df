/-
  The engine, part E: what the abstract code does, as a predicate on data-level states; each step waits till its own arguments are reckoned.
-/
import Derived.Test.YtcolebkklojccaaGreatEngD
set_option linter.unusedVariables false
set_option linter.unusedSimpArgs false
namespace Go.Proofs.YtcolebkklojccaaGreat.E
open Go

/-! ### contracts -/
inductive RK where
  | fz (d : DV)
  | own (e sz : Nat) (xs : List (List DV))
  | ownm (kk : KK) (es : List (DV × DV))
def ArgOK (F : Frz) (w : World) : RK → Value → Prop
  | .fz d, v => RF F w d v
  | .own e sz xs, v => VecOK F w (fun _ => True) e sz xs v
  | .ownm _ _, _ => False
def ownB (as : List RK) (vs : List Value) (b : Nat) : Prop := ∃ (i : Nat) (e sz : Nat) (xs : List (List DV)) (v : Value), as[i]? = some (.own e sz xs) ∧ vs[i]? = some v ∧ hblk v = some b
def ResOK (F : Frz) (w : World) (N : Nat → Prop) : RK → Value → Prop
  | .fz d, v => RF F w d v
  | .own e sz xs, v => VecOK F w N e sz xs v
  | .ownm kk es, v => MapOK F w N kk es v
/-- called with arguments that read so, the function returns what reads so, and turns nothing but what it was given as its own -/
def callable (P : Program) (f : Nat) : Bool := match P.funcs[f]? with
  | some fn => fn.body.isSome && !(fn.name == "runtime.NumGoroutine")
  | none => false
def Spec (P : Program) (f : Nat) (as : List RK) (r : RK) : Prop :=
  callable P f = true ∧ ∀ (F : Frz) (w : World) (vs : Array Value), (∀ b o, F b o → b < w.heap.size) → All2 (ArgOK F w) as vs.toList →
    (∀ (i j : Nat) e sz xs e' sz' xs' v v' b, as[i]? = some (.own e sz xs) → as[j]? = some (.own e' sz' xs') → vs[i]? = some v → vs[j]? = some v' → hblk v = some b → hblk v' = some b → i = j) →
    Calls P f vs w fun e w' => ∃ v F', e = .returned v ∧ Grow (ownB as vs.toList) F w F' w' ∧ ResOK F' w' (Nw (ownB as vs.toList) w) r v

/-! ### steps -/
def ev (env : List DV) : AX → DV
  | .t n => gt env n
  | .c d => d
def evs (env : List DV) : List AX → List DV
  | [] => []
  | x :: xs => ev env x :: evs env xs
def evO (env : List DV) : Option AX → Option DV
  | none => none
  | some x => some (ev env x)

def kS (s : DS) (K : DS → Prop) : Prop := K s
def kPut (dst : Option Nat) (s : DS) (K : DS → Prop) (v : DV) : Prop :=
  match dst with
  | none => K s
  | some d => kS ⟨stp s.env d v, s.mem⟩ K
def kBind (dst : Option Nat) (s : DS) (K : DS → Prop) (v : DV) (blk : Blk) : Prop :=
  match dst with
  | none => False
  | some d => kS ⟨stp (bindE d s.env) d v, bindM d blk s.mem⟩ K

def kMv (x : DV) (K : DV → Prop) : Prop := K x
def kPick (c a b : DV) (K : DV → Prop) : Prop :=
  match c with
  | .bool c => (c = true → K a) ∧ (c = false → K b)
  | _ => False
def kNt (x : DV) (K : DV → Prop) : Prop :=
  match x with
  | .bool b => K (.bool (!b))
  | _ => False
def kNg (x : DV) (K : DV → Prop) : Prop :=
  match x with
  | .int k n => K (.int k (k.wrap (0 - n)))
  | _ => False
def binI (o : BinOp) (k : IntKind) (a b : Int) (K : DV → Prop) : Prop :=
  match o with
  | .add => K (.int k (k.wrap (a + b)))
  | .sub => K (.int k (k.wrap (a - b)))
  | .mul => K (.int k (k.wrap (a * b)))
  | .quo => b ≠ 0 ∧ K (.int k (k.wrap (a.tdiv b)))
  | .rem => b ≠ 0 ∧ K (.int k (a.tmod b))
  | .and => K (.int k (bits .and k a b))
  | .or => K (.int k (bits .or k a b))
  | .xor => K (.int k (bits .xor k a b))
  | .shl | .shr | .andNot => False
  | .eql => K (.bool (a == b))
  | .neq => K (.bool (a != b))
  | .lss => K (.bool (decide (a < b)))
  | .leq => K (.bool (decide (a ≤ b)))
  | .gtr => K (.bool (decide (b < a)))
  | .geq => K (.bool (decide (b ≤ a)))
def binS (o : BinOp) (a b : List UInt8) (K : DV → Prop) : Prop :=
  match o with
  | .add => a.length + b.length ≤ maxLen ∧ K (.str (a ++ b))
  | .eql => K (.bool (a == b))
  | .neq => K (.bool (!(a == b)))
  | .lss => K (.bool (Op.bytesLess a b))
  | .leq => K (.bool (Op.bytesLess a b || a == b))
  | .gtr => K (.bool (!(Op.bytesLess a b || a == b)))
  | .geq => K (.bool (!(Op.bytesLess a b)))
  | _ => False
def kBin (o : BinOp) (x y : DV) (K : DV → Prop) : Prop :=
  match x, y with
  | .int k a, .int k' b => (o = .shl ∧ 0 ≤ b ∧ b ≤ k.bits ∧ K (.int k (k.wrap (a * 2 ^ b.toNat)))) ∨ (k = k' ∧ o ≠ .shl ∧ o ≠ .shr ∧ binI o k a b K)
  | .str a, .str b => binS o a b K
  | _, _ => False
def kBeq (ne : Bool) (x y : DV) (K : DV → Prop) : Prop :=
  match x, y with
  | .bool a, .bool b => K (.bool (if ne then !(a == b) else a == b))
  | _, _ => False
/-- '==' of plain cells -/
def eqP : PK → DV → DV → Option Bool
  | .i, .int k a, .int k' b => if k = k' then some (a == b) else none
  | .s, .str a, .str b => some (a == b)
  | .b, .bool a, .bool b => some (a == b)
  | _, _, _ => none
def andO : Option Bool → Option Bool → Option Bool
  | some x, some y => some (x && y)
  | _, _ => none
def eqPs : List PK → List DV → List DV → Option Bool
  | [], [], [] => some true
  | k :: ks, a :: as, b :: bs => andO (eqP k a b) (eqPs ks as bs)
  | _, _, _ => none
def kB (o : Option Bool) (K : Bool → Prop) : Prop :=
  match o with
  | some b => K b
  | none => False
def kEqa (ne : Bool) (ks : List PK) (x y : DV) (K : DV → Prop) : Prop :=
  match x, y with
  | .agg as, .agg bs => kB (eqPs ks as bs) fun r => K (.bool (if ne then !r else r))
  | _, _ => False
def hdK (cs : List DV) (K : DV → Prop) : Prop :=
  match cs with
  | c :: _ => K c
  | [] => False
def kCells (cs : List DV) (K : List DV → Prop) : Prop := K cs
def blkK (b : Option Blk) (K : Blk → Prop) : Prop :=
  match b with
  | some b => K b
  | none => False
def boxK (b : Blk) (K : List DV → Prop) : Prop :=
  match b with
  | .box cs => K cs
  | _ => False
def vecK (b : Blk) (K : Nat → Nat → List (List DV) → Prop) : Prop :=
  match b with
  | .vec e sz xs => K e sz xs
  | _ => False
def mpK (b : Blk) (K : KK → List (DV × DV) → Prop) : Prop :=
  match b with
  | .mp kk es => K kk es
  | _ => False
def eqKey : KK → DV → DV → Option Bool
  | .pl k, x, y => eqP k x y
  | .ag ks, .agg as, .agg bs => eqPs ks as bs
  | .ag _, _, _ => none
/-- whether two keys of this kind are one -/
def eqK (kk : KK) (x y : DV) : Bool := (eqKey kk x y).getD false
def mpLk (kk : KK) : List (DV × DV) → DV → Option DV
  | [], _ => none
  | (k, v) :: r, q => if eqK kk q k = true then some v else mpLk kk r q
def mpPut (kk : KK) : List (DV × DV) → DV → DV → List (DV × DV)
  | [], q, v => [(q, v)]
  | (k, u) :: r, q, v => if eqK kk q k = true then (q, v) :: r else (k, u) :: mpPut kk r q v
def mpRem (kk : KK) : List (DV × DV) → DV → List (DV × DV)
  | [], _ => []
  | (k, u) :: r, q => if eqK kk q k = true then r else (k, u) :: mpRem kk r q
/-- n cells out of what is known, as a value -/
def takeK (ag : Bool) (n : Nat) (cs : List DV) (K : DV → Prop) : Prop :=
  match ag with
  | true => n ≤ cs.length ∧ K (mkAgg (cs.take n))
  | false => hdK cs K
def kLd (ag : Bool) (n : Nat) (p : DV) (mem : Mem) (K : DV → Prop) : Prop :=
  match p with
  | .pf cs => match ag with
    | true => n ≤ cs.length ∧ K (.agg (cs.take n))
    | false => hdK cs K
  | .ml k o => blkK (mget mem k) fun b => boxK b fun cs => takeK ag n (cs.drop o) K
  | .ve k sz i o => blkK (mget mem k) fun b => vecK b fun _ s xs => s = sz ∧ i < xs.length ∧ takeK ag n ((xs.getD i []).drop o) K
  | _ => False
/-- what may stand in a cell -/
def cellOK : DV → Bool
  | .any | .agg _ | .tup _ | .aggm _ => false
  | _ => true
def cellsK (x : DV) (K : List DV → Prop) : Prop :=
  match x with
  | .agg cs => K cs
  | .aggm cs => K cs
  | d => cellOK d = true ∧ K [d]
def seg (cs : List DV) (o : Nat) (new : List DV) : List DV := cs.take o ++ new ++ cs.drop (o + new.length)
def kSt (n : Nat) (p x : DV) (s : DS) (K : DS → Prop) : Prop :=
  match p with
  | .ml k o => blkK (mget s.mem k) fun b => boxK b fun cs => cellsK x fun new => new.length = n ∧ o + n ≤ cs.length ∧ kS ⟨s.env, mset k (.box (seg cs o new)) s.mem⟩ K
  | .ve k sz i o => blkK (mget s.mem k) fun b => vecK b fun e s' xs => cellsK x fun new => new.length = n ∧ s' = sz ∧ i < xs.length ∧ o + n ≤ sz ∧ new.all isFz = true ∧
      kS ⟨s.env, mset k (.vec e s' (xs.set i (seg (xs.getD i []) o new))) s.mem⟩ K
  | _ => False
def kFld (off : Nat) (p : DV) (K : DV → Prop) : Prop :=
  match p with
  | .pf cs => K (.pf (cs.drop off))
  | .ml k o => K (.ml k (o + off))
  | .ve k sz i o => K (.ve k sz i (o + off))
  | _ => False
def kFldv (ag : Bool) (off n : Nat) (x : DV) (K : DV → Prop) : Prop :=
  match x with
  | .agg cs => match ag with
    | true => off + n ≤ cs.length ∧ K (.agg ((cs.drop off).take n))
    | false => hdK (cs.drop off) K
  | .aggm cs => match ag with
    | true => off + n ≤ cs.length ∧ K (mkAgg ((cs.drop off).take n))
    | false => hdK (cs.drop off) K
  | _ => False
def kIx (sz : Nat) (x i : DV) (mem : Mem) (K : DV → Prop) : Prop :=
  match x, i with
  | .sl s xs, .int _ n => s = sz ∧ 0 ≤ n ∧ n < xs.length ∧ K (.pf (xs.getD n.toNat []))
  | .ow k, .int _ n => blkK (mget mem k) fun b => vecK b fun _ s xs => s = sz ∧ 0 ≤ n ∧ n < xs.length ∧ K (.ve k sz n.toNat 0)
  | _, _ => False
def kIxp (len sz : Nat) (p i : DV) (K : DV → Prop) : Prop :=
  match p, i with
  | .pf cs, .int _ n => 0 ≤ n ∧ n < len ∧ K (.pf (cs.drop (n.toNat * sz)))
  | .ml k o, .int _ n => 0 ≤ n ∧ n < len ∧ K (.ml k (o + n.toNat * sz))
  | _, _ => False
def kIxv (ag : Bool) (len sz : Nat) (x i : DV) (K : DV → Prop) : Prop :=
  match x, i with
  | .agg cs, .int _ n => 0 ≤ n ∧ n < len ∧ (match ag with
    | true => n.toNat * sz + sz ≤ cs.length ∧ K (.agg ((cs.drop (n.toNat * sz)).take sz))
    | false => hdK (cs.drop (n.toNat * sz)) K)
  | _, _ => False
def kIxs (x i : DV) (K : DV → Prop) : Prop :=
  match x, i with
  | .str s, .int _ n => 0 ≤ n ∧ n < s.length ∧ K (.int .u8 ((s.getD n.toNat 0).toNat))
  | _, _ => False
def bndK (lo : Option DV) (dflt : Nat) (K : Nat → Prop) : Prop :=
  match lo with
  | none => K dflt
  | some (.int _ n) => 0 ≤ n ∧ K n.toNat
  | some _ => False
/-- 's[:0:0]' -/
def subZ (m : DV) (hi lo : Option DV) (k : Prop) : Prop :=
  match m with
  | .int _ n => n = 0 ∧ (match hi with
    | some (.int _ h) => h = 0 ∧ (match lo with
      | none => k
      | some (.int _ l) => l = 0 ∧ k
      | some _ => False)
    | _ => False)
  | _ => False
def kSub (sz : Nat) (x : DV) (lo hi mx : Option DV) (K : DV → Prop) : Prop :=
  match x with
  | .sl s xs => match mx with
    | none => bndK hi xs.length fun h => bndK lo 0 fun l => s = sz ∧ l ≤ h ∧ h ≤ xs.length ∧ K (.sl sz ((xs.take h).drop l))
    | some m => subZ m hi lo (K .e0)
  | .e0 => match mx with
    | none => bndK hi 0 fun h => bndK lo 0 fun l => l ≤ h ∧ h ≤ 0 ∧ K .e0
    | some m => subZ m hi lo (K .e0)
  | _ => False
def kSubs (x : DV) (lo hi : Option DV) (K : DV → Prop) : Prop :=
  match x with
  | .str s => bndK hi s.length fun h => bndK lo 0 fun l => l ≤ h ∧ h ≤ s.length ∧ K (.str ((s.take h).drop l))
  | _ => False
def kLen (x : DV) (mem : Mem) (K : DV → Prop) : Prop :=
  match x with
  | .sl _ xs => xs.length ≤ maxLen → K (.int .i64 xs.length)
  | .e0 => K (.int .i64 0)
  | .ow k => blkK (mget mem k) fun b => vecK b fun _ _ xs => xs.length ≤ maxLen → K (.int .i64 xs.length)
  | _ => False
def kLens (x : DV) (K : DV → Prop) : Prop :=
  match x with
  | .str s => s.length ≤ maxLen → K (.int .i64 s.length)
  | _ => False
/-- the elements that are appended -/
def srcK (sz : Nat) (x : DV) (mem : Mem) (K : List (List DV) → Prop) : Prop :=
  match x with
  | .sl s ys => s = sz ∧ K ys
  | .e0 => K []
  | .ow k => blkK (mget mem k) fun b => vecK b fun _ s ys => s = sz ∧ K ys
  | _ => False
def dstK (e sz : Nat) (x : DV) (mem : Mem) (K : List (List DV) → Prop) : Prop :=
  match x with
  | .e0 => K []
  | .ow k => blkK (mget mem k) fun b => vecK b fun e' s ys => e' = e ∧ s = sz ∧ K ys
  | _ => False
/-- the block that is appended to is let go: its slice is the new one's beginning -/
def dropH (x : DV) (m : Mem) : Mem :=
  match x with
  | .ow k => mdel k m
  | _ => m
def kOw (dst : Option Nat) (s : DS) (K : DS → Prop) (blk : Blk) : Prop :=
  match dst with
  | some d => kBind (some d) s K (.ow d) blk
  | none => False
def kApp (e sz bytes : Nat) (d x : DV) (dst : Option Nat) (s : DS) (K : DS → Prop) : Prop :=
  dstK e sz d s.mem fun xs => srcK sz x s.mem fun ys =>
    xs.length + ys.length ≤ maxLen ∧ (xs.length + ys.length) * bytes ≤ 140737488355328 ∧ kOw dst ⟨s.env, dropH d s.mem⟩ K (.vec e sz (xs ++ ys))
def kAppn (e sz bytes : Nat) (d x : DV) (dst : Option Nat) (s : DS) (K : DS → Prop) : Prop :=
  match d with
  | .e0 => kApp e sz bytes .e0 x dst s K
  | _ => False
def kExt (x : DV) (i : Nat) (K : DV → Prop) : Prop :=
  match x with
  | .tup vs => hdK (vs.drop i) K
  | _ => False
def kMm (mx : Bool) (x y : DV) (K : DV → Prop) : Prop :=
  match x, y with
  | .int k a, .int k' b => k = k' ∧ K (.int k (if mx then (if b > a then b else a) else (if b < a then b else a)))
  | _, _ => False
def kConv (k : IntKind) (x : DV) (K : DV → Prop) : Prop :=
  match x with
  | .int _ n => K (.int k (k.wrap n))
  | _ => False
def kStr (x : DV) (K : DV → Prop) : Prop :=
  match x with
  | .str s => K (.str s)
  | _ => False
/-- whether a slice is nil: an empty one may be or not -/
def kIsn (ne : Bool) (x : DV) (mem : Mem) (K : DV → Prop) : Prop :=
  match x with
  | .sl _ xs => (xs = [] → K (.bool !ne)) ∧ K (.bool ne)
  | .e0 => K (.bool !ne) ∧ K (.bool ne)
  | .ow k => blkK (mget mem k) fun b => vecK b fun _ _ xs => (xs = [] → K (.bool !ne)) ∧ K (.bool ne)
  | _ => False
/-- parts laid over zero cells -/
def fillK (env : List DV) : List (Nat × Nat × AX) → List DV → (List DV → Prop) → Prop
  | [], zs, K => K zs
  | (o, n, x) :: r, zs, K => cellsK (ev env x) fun new => new.length = n ∧ o + n ≤ zs.length ∧ kCells (seg zs o new) fun zs' => fillK env r zs' K
def rowsK (env : List DV) (sz : Nat) : List (Nat × AX) → List (List DV) → (List (List DV) → Prop) → Prop
  | [], xs, K => K xs
  | (i, x) :: r, xs, K => cellsK (ev env x) fun new => new.length = sz ∧ i < xs.length ∧ new.all isFz = true ∧ rowsK env sz r (xs.set i new) K
def kBox (x : DV) (dst : Option Nat) (s : DS) (K : DS → Prop) : Prop :=
  cellsK x fun cs => match dst with
    | some d => kBind dst ⟨s.env, s.mem⟩ K (.ml d 0) (.box (cs.map (klc d)))
    | none => False

/-! ### freezing what is handed on -/
def hdl : DV → Option Nat
  | .ml k _ => some k
  | .ve k _ _ _ => some k
  | .ow k => some k
  | _ => none
def hdls : List DV → Option Nat
  | [] => none
  | d :: ds => match hdl d with
    | some k => some k
    | none => hdls ds
def hdlV : DV → Option Nat
  | .aggm cs => hdls cs
  | d => hdl d
def hdlVs : List DV → Option Nat
  | [] => none
  | d :: ds => match hdlV d with
    | some k => some k
    | none => hdlVs ds
def frzK (k : Nat) (s : DS) (K : DS → Prop) : Prop :=
  blkK (mget s.mem k) fun blk => blkFz blk = true ∧ kS ⟨s.env.map (fze k blk), mmap (fzb k blk) (mdel k s.mem)⟩ K
def frzO (o : Option Nat) (s : DS) (K0 K1 : DS → Prop) : Prop :=
  match o with
  | none => K0 s
  | some k => frzK k s K1
def frzArgs (xs : List AX) : Nat → DS → (DS → Prop) → Prop
  | 0, _, _ => False
  | n + 1, s, K => frzO (hdlVs (evs s.env xs)) s K fun s' => frzArgs xs n s' K

def kSpec (P : Program) (f : Nat) (ds : List DV) (dst : Option Nat) (s : DS) (K : DS → Prop) : Prop :=
  ds.all isFz = true ∧ ((∃ d, Spec P f (ds.map .fz) (.fz d) ∧ kPut dst s K d) ∨
    (∃ e sz xs t, dst = some t ∧ Spec P f (ds.map .fz) (.own e sz xs) ∧ kBind dst s K (.ow t) (.vec e sz xs)) ∨
    (∃ kk es t, dst = some t ∧ Spec P f (ds.map .fz) (.ownm kk es) ∧ kBind dst s K (.ow t) (.mp kk es)))
def mdels : List Nat → Mem → Mem
  | [], m => m
  | k :: ks, m => mdel k (mdels ks m)
/-- arguments, some of them given away -/
inductive KArgs (mem : Mem) : List DV → List RK → List Nat → Prop where
  | nil : KArgs mem [] [] []
  | fz {d : DV} {ds : List DV} {as : List RK} {ks : List Nat} (h : isFz d = true) (r : KArgs mem ds as ks) : KArgs mem (d :: ds) (.fz d :: as) ks
  | own {k e sz : Nat} {xs : List (List DV)} {ds : List DV} {as : List RK} {ks : List Nat} (h : mget mem k = some (.vec e sz xs)) (hn : ks.contains k = false) (r : KArgs mem ds as ks) : KArgs mem (.ow k :: ds) (.own e sz xs :: as) (k :: ks)
def kSpecO (P : Program) (f : Nat) (ds : List DV) (dst : Option Nat) (s : DS) (K : DS → Prop) : Prop :=
  ∃ as k, KArgs s.mem ds as k ∧ ((∃ d, Spec P f as (.fz d) ∧ kPut dst ⟨s.env, mdels k s.mem⟩ K d) ∨
    (∃ e sz xs t, dst = some t ∧ Spec P f as (.own e sz xs) ∧ kBind dst ⟨s.env, mdels k s.mem⟩ K (.ow t) (.vec e sz xs)))
def okI (r : Option DV) : Prop :=
  match r with
  | none => True
  | some (.int _ _) => True
  | _ => False
def kMkm (kk : KK) (r : Option DV) (dst : Option Nat) (s : DS) (K : DS → Prop) : Prop :=
  okI r ∧ match dst with
    | some d => kBind (some d) s K (.ow d) (.mp kk [])
    | none => False
def kMput (kk : KK) (m k v : DV) (s : DS) (K : DS → Prop) : Prop :=
  match m with
  | .ow j => blkK (mget s.mem j) fun b => mpK b fun kk' es => kk' = kk ∧ isKey kk k = true ∧ isFz v = true ∧ cellOK v = true ∧ kS ⟨s.env, mset j (.mp kk (mpPut kk es k v)) s.mem⟩ K
  | _ => False
def kMlk (kk : KK) (z m k : DV) (mem : Mem) (K : DV → Prop) : Prop :=
  match m with
  | .ow j => blkK (mget mem j) fun b => mpK b fun kk' es => kk' = kk ∧ isKey kk k = true ∧ K ((mpLk kk es k).getD z)
  | _ => False
def kMrm (kk : KK) (m k : DV) (s : DS) (K : DS → Prop) : Prop :=
  match m with
  | .ow j => blkK (mget s.mem j) fun b => mpK b fun kk' es => kk' = kk ∧ isKey kk k = true ∧ kS ⟨s.env, mset j (.mp kk (mpRem kk es k)) s.mem⟩ K
  | _ => False
def kNck (x : DV) (K : DV → Prop) : Prop :=
  match x with
  | .ml _ _ => K x
  | .ve _ _ _ _ => K x
  | .pf _ => K x
  | _ => False
def kMks (e sz bytes : Nat) (l c : DV) (dst : Option Nat) (s : DS) (K : DS → Prop) : Prop :=
  match l, c with
  | .int _ l, .int _ c => l = 0 ∧ 0 ≤ c ∧ c ≤ 4294967296 ∧ bytes * c ≤ 281474976710656 ∧ match dst with
    | some d => kBind (some d) s K (.ow d) (.vec e sz [])
    | none => False
  | _, _ => False
def kFz (ds : List DV) (K : List DV → Prop) : Prop := ds.all isFz = true ∧ K ds
def kFn (x : DV) (K : Nat → List DV → Prop) : Prop :=
  match x with
  | .fn f cap => K f cap
  | _ => False

/-- more than one call in a statement hands on no more than so many handles -/
def fuelF : Nat := 12

def sndL : List (Nat × AX) → List AX
  | [] => []
  | (_, x) :: l => x :: sndL l
def dRun (P : Program) (op : AOp) (s : DS) (dst : Option Nat) (K : DS → Prop) : Prop :=
  match op with
  | .mv x => kMv (ev s.env x) (kPut dst s K)
  | .pick c a b => kPick (ev s.env c) (ev s.env a) (ev s.env b) (kPut dst s K)
  | .alloc zs => match dst with
    | some d => kBind dst s K (.ml d 0) (.box zs)
    | none => False
  | .box x => kBox (ev s.env x) dst s K
  | .build zs parts => fillK s.env parts zs fun cs => kPut dst s K (mkAgg cs)
  | .buildSl e sz len zs parts => frzArgs (sndL parts) fuelF s fun s' => rowsK s'.env sz parts (List.replicate len zs) fun xs => match dst with
    | some d => kBind dst s' K (.ow d) (.vec e sz xs)
    | none => False
  | .ld ag n p => kLd ag n (ev s.env p) s.mem (kPut dst s K)
  | .sto n p x => kSt n (ev s.env p) (ev s.env x) s K
  | .bin o x y => kBin o (ev s.env x) (ev s.env y) (kPut dst s K)
  | .beq ne x y => kBeq ne (ev s.env x) (ev s.env y) (kPut dst s K)
  | .eqa ne ks x y => kEqa ne ks (ev s.env x) (ev s.env y) (kPut dst s K)
  | .nt x => kNt (ev s.env x) (kPut dst s K)
  | .ng x => kNg (ev s.env x) (kPut dst s K)
  | .fld off p => kFld off (ev s.env p) (kPut dst s K)
  | .fldv ag off n x => kFldv ag off n (ev s.env x) (kPut dst s K)
  | .ix sz x i => kIx sz (ev s.env x) (ev s.env i) s.mem (kPut dst s K)
  | .ixp len sz x i => kIxp len sz (ev s.env x) (ev s.env i) (kPut dst s K)
  | .ixv ag len sz x i => kIxv ag len sz (ev s.env x) (ev s.env i) (kPut dst s K)
  | .ixs x i => kIxs (ev s.env x) (ev s.env i) (kPut dst s K)
  | .sub sz x lo hi mx => kSub sz (ev s.env x) (evO s.env lo) (evO s.env hi) (evO s.env mx) (kPut dst s K)
  | .subs x lo hi => kSubs (ev s.env x) (evO s.env lo) (evO s.env hi) (kPut dst s K)
  | .len x => kLen (ev s.env x) s.mem (kPut dst s K)
  | .lens x => kLens (ev s.env x) (kPut dst s K)
  | .lenc n => kPut dst s K (.int .i64 n)
  | .app e sz bytes d x => kApp e sz bytes (ev s.env d) (ev s.env x) dst s K
  | .mkfn f caps => frzArgs caps fuelF s fun s' => kFz (evs s'.env caps) fun ds => kPut dst s' K (.fn f ds)
  | .call false f args => frzArgs args fuelF s fun s' => kSpec P f (evs s'.env args) dst s' K
  | .call true f args => kSpecO P f (evs s.env args) dst s K
  | .callv x args => kFn (ev s.env x) fun f cap => frzArgs args fuelF s fun s' => kSpec P f (evs s'.env args ++ cap) dst s' K
  | .ext x i => kExt (ev s.env x) i (kPut dst s K)
  | .mm mx x y => kMm mx (ev s.env x) (ev s.env y) (kPut dst s K)
  | .conv k x => kConv k (ev s.env x) (kPut dst s K)
  | .cstr x => kStr (ev s.env x) (kPut dst s K)
  | .isn ne x => kIsn ne (ev s.env x) s.mem (kPut dst s K)
  | .mkm kk r => kMkm kk (evO s.env r) dst s K
  | .mput kk m k v => kMput kk (ev s.env m) (ev s.env k) (ev s.env v) s K
  | .mlk kk z m k => kMlk kk z (ev s.env m) (ev s.env k) s.mem (kPut dst s K)
  | .mrm kk m k => kMrm kk (ev s.env m) (ev s.env k) s K
  | .nck x => kNck (ev s.env x) (kPut dst s K)
  | .mks e sz bytes l c => kMks e sz bytes (ev s.env l) (ev s.env c) dst s K
  | .appn e sz bytes d x => kAppn e sz bytes (ev s.env d) (ev s.env x) dst s K
  | .bs0 _ _ _ => kPut dst s K .e0

def kGv (x : DV) (want : Bool) (A B : Prop) : Prop :=
  match x with
  | .bool b => (b = want → A) ∧ (b ≠ want → B)
  | .tup [] => B
  | _ => False
def dOp (P : Program) (o : AOper) (s : DS) (K : DS → Prop) : Prop :=
  match o.g with
  | none => dRun P o.op s o.dst K
  | some (t, want) => kGv (gt s.env t) want (dRun P o.op s o.dst K) (kPut o.dst s K (.tup []))
def dOps (P : Program) : List AOper → DS → (DS → Prop) → Prop
  | [], s, K => K s
  | o :: l, s, K => dOp P o s fun s' => dOps P l s' K

/-- a load of what nobody will write any more -/
def kLdF (ag : Bool) (n : Nat) (p : DV) (K : DV → Prop) : Prop :=
  match p with
  | .pf cs => match ag with
    | true => n ≤ cs.length ∧ K (.agg (cs.take n))
    | false => hdK cs K
  | _ => False
def dRunS (P : Program) (op : AOp) (s : DS) (dst : Option Nat) (K : DS → Prop) : Prop :=
  match op with
  | .ld ag n p => kLdF ag n (ev s.env p) (kPut dst s K)
  | op => dRun P op s dst K
def dOpS (P : Program) (o : AOper) (s : DS) (K : DS → Prop) : Prop :=
  match o.g with
  | none => dRunS P o.op s o.dst K
  | some (t, want) => kGv (gt s.env t) want (dRunS P o.op s o.dst K) (kPut o.dst s K (.tup []))
def mins (j : Nat) (b : Blk) : Mem → Mem
  | [] => [(j, b)]
  | (i, c) :: m => if j ≤ i then (j, b) :: (i, c) :: m else (i, c) :: mins j b m
def msort : Mem → Mem
  | [] => []
  | (j, b) :: m => mins j b (msort m)
def dDT (P : Program) : DT → DS → (DS → Prop) → Prop
  | .nil, s, K => kS ⟨s.env, msort s.mem⟩ K
  | .op o n, s, K => dOp P o s fun s' => dDT P n s' K
  | .q true o n, s, K => dOpS P o s fun s' => dDT P n s' K
  | .q false o n, s, K => dOp P o s fun s' => dDT P n s' K
  | .alt a b, s, K => dDT P a s K ∧ dDT P b s K

inductive AE where
  | normal
  | exit (id : Nat)
  | ret
  | pan (d : DV)
def kCond (x : DV) (A B : Prop) : Prop :=
  match x with
  | .bool b => (b = true → A) ∧ (b = false → B)
  | _ => False
def kSeq (c : DS → (AE → DS → Prop) → Prop) (Q : AE → DS → Prop) (e : AE) (s : DS) : Prop :=
  match e with
  | .normal => c s Q
  | .exit id => Q (.exit id) s
  | .ret => Q .ret s
  | .pan d => Q (.pan d) s
def kBlk (id : Nat) (Q : AE → DS → Prop) (e : AE) (s : DS) : Prop :=
  match e with
  | .normal => Q .normal s
  | .exit id' => if id' = id then Q .normal s else Q (.exit id') s
  | .ret => Q .ret s
  | .pan d => Q (.pan d) s
def kLoop (J : DS → Prop) (Q : AE → DS → Prop) (e : AE) (s : DS) : Prop :=
  match e with
  | .normal => J s
  | .exit id => Q (.exit id) s
  | .ret => Q .ret s
  | .pan d => Q (.pan d) s
/-- less is known: slots forgotten, blocks let go -/
def forgetE : List Nat → List DV → List DV
  | [], e => e
  | t :: ts, e => forgetE ts (stp e t .any)
def forget (ts ks : List Nat) (s : DS) : DS := ⟨forgetE ts s.env, msort (mdels ks s.mem)⟩
/-- called with arguments that read so, the function panics with what reads so -/
def SpecP (P : Program) (f : Nat) (ds : List DV) (d : DV) : Prop :=
  callable P f = true ∧ ∀ (F : Frz) (w : World) (vs : Array Value), (∀ b o, F b o → b < w.heap.size) → All2 (RF F w) ds vs.toList →
    Calls P f vs w fun e w' => ∃ v F', e = .panicked [{ v := v, recovered := false }] ∧ Grow (fun _ => False) F w F' w' ∧ RF F' w' d v
/-- a call that returns or panics -/
def kSpecP (P : Program) (f : Nat) (ds : List DV) (dst : Option Nat) (s : DS) (K : DS → Prop) (Z : DV → DS → Prop) : Prop :=
  kSpec P f ds dst s K ∨ (ds.all isFz = true ∧ ∃ d, SpecP P f ds d ∧ Z d s)
def dRunP (P : Program) (op : AOp) (s : DS) (dst : Option Nat) (K : DS → Prop) (Z : DV → DS → Prop) : Prop :=
  match op with
  | .call false f args => frzArgs args fuelF s fun s' => kSpecP P f (evs s'.env args) dst s' K Z
  | op => dRun P op s dst K
def dOpP (P : Program) (o : AOper) (s : DS) (K : DS → Prop) (Z : DV → DS → Prop) : Prop :=
  match o.g with
  | none => dRunP P o.op s o.dst K Z
  | some (t, want) => kGv (gt s.env t) want (dRunP P o.op s o.dst K Z) (kPut o.dst s K (.tup []))
def dOpsP (P : Program) : List AOper → DS → (DS → Prop) → (DV → DS → Prop) → Prop
  | [], s, K, _ => K s
  | o :: l, s, K, Z => dOpP P o s (fun s' => dOpsP P l s' K Z) Z
def kZ (Q : AE → DS → Prop) (d : DV) (s : DS) : Prop := Q (.pan d) s
def dwp (P : Program) : AC → DS → (AE → DS → Prop) → Prop
  | .skip, s, Q => Q .normal s
  | .ops l, s, Q => dOps P l s (Q .normal)
  | .bad, _, _ => False
  | .drawp t o, s, Q => dDT P t s fun s' => dOpP P o s' (fun s'' => kS ⟨s''.env, msort s''.mem⟩ (Q .normal)) (kZ Q)
  | .opsp l, s, Q => dOpsP P l s (Q .normal) (kZ Q)
  | .draw t, s, Q => dDT P t s (Q .normal)
  | .seq a b, s, Q => dwp P a s (kSeq (dwp P b) Q)
  | .cond x a b, s, Q => kCond (ev s.env x) (dwp P a s Q) (dwp P b s Q)
  | .block id c, s, Q => dwp P c s (kBlk id Q)
  | .loop c, s, Q => ∃ (I : Nat → DS → Prop) (n : Nat) (ts ks : List Nat), I n (forget ts ks s) ∧
      ∀ n s, I n s → dwp P c s (kLoop (fun s' => ∃ m ts ks, m < n ∧ I m (forget ts ks s')) Q)
  | .exit id, s, Q => Q (.exit id) s
  | .ret, s, Q => Q .ret s
  | .fz k c, s, Q => frzK k s fun s' => dwp P c s' Q
end Go.Proofs.YtcolebkklojccaaGreat.E
