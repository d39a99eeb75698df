/-
  The engine, part D: the abstract code, how it is read off the program's, and what it does at data level.
-/
import Derived.Test.YtcolebkklojccaaGreatEngC
set_option linter.unusedVariables false
set_option linter.unusedSimpArgs false
namespace Go.Proofs.YtcolebkklojccaaGreat.E
open Go

structure DS where
  env : List DV
  mem : Mem

inductive AX where
  | t (n : Nat)
  | c (d : DV)

inductive AOp where
  | mv (x : AX)
  | pick (c a b : AX)
  | alloc (zs : List DV)
  | box (x : AX)
  | build (zs : List DV) (parts : List (Nat × Nat × AX))
  | buildSl (e sz len : Nat) (zs : List DV) (parts : List (Nat × AX))
  | ld (ag : Bool) (n : Nat) (p : AX)
  | sto (n : Nat) (p x : AX)
  | bin (o : BinOp) (x y : AX)
  | beq (ne : Bool) (x y : AX)
  | eqa (ne : Bool) (ks : List PK) (x y : AX)
  | nt (x : AX)
  | ng (x : AX)
  | fld (off : Nat) (p : AX)
  | fldv (ag : Bool) (off n : Nat) (x : AX)
  | ix (sz : Nat) (x i : AX)
  | ixp (len sz : Nat) (x i : AX)
  | ixv (ag : Bool) (len sz : Nat) (x i : AX)
  | ixs (x i : AX)
  | sub (sz : Nat) (x : AX) (lo hi mx : Option AX)
  | subs (x : AX) (lo hi : Option AX)
  | len (x : AX)
  | lens (x : AX)
  | lenc (n : Nat)
  | app (e sz bytes : Nat) (s x : AX)
  | mkfn (f : Nat) (caps : List AX)
  | call (ow : Bool) (f : Nat) (args : List AX)
  | callv (x : AX) (args : List AX)
  | ext (x : AX) (i : Nat)
  | mm (mx : Bool) (x y : AX)
  | conv (k : IntKind) (x : AX)
  | cstr (x : AX)
  | isn (ne : Bool) (x : AX)
  | mkm (kk : KK) (r : Option AX)
  | mput (kk : KK) (m k v : AX)
  | mlk (kk : KK) (z : DV) (m k : AX)
  | mrm (kk : KK) (m k : AX)
  | nck (x : AX)
  | mks (e sz bytes : Nat) (l c : AX)
  | appn (e sz bytes : Nat) (s x : AX)
  | bs0 (e sz : Nat) (zs : List DV)

structure AOper where
  dst : Option Nat
  g : Option (Nat × Bool)
  op : AOp

/-- the orders of a region that draws its order, as far as they matter -/
inductive DT where
  | nil
  | op (o : AOper) (n : DT)
  | q (st : Bool) (o : AOper) (n : DT)
  | alt (a b : DT)

inductive AC where
  | skip
  | ops (l : List AOper)
  | opsp (l : List AOper)
  | bad
  | drawp (t : DT) (o : AOper)
  | draw (t : DT)
  | seq (a b : AC)
  | cond (x : AX) (a b : AC)
  | block (id : Nat) (c : AC)
  | loop (c : AC)
  | exit (id : Nat)
  | ret
  | fz (k : Nat) (c : AC)

/-! ### read off the program -/
def constS : Value → Option DV
  | .bool b => some (.bool b)
  | .int k n => some (.int k n)
  | .string s => if s.data.toList.length ≤ maxLen then some (.str s.data.toList) else none
  | .pointer none => some .nilp
  | .slice none 0 0 => some .e0
  | .nilFunc => some .nilfn
  | .nilIface => some .nili
  | .map none => some .any
  | _ => none
def constL : List Value → Option (List DV)
  | [] => some []
  | v :: vs => match constS v, constL vs with
    | some d, some ds => some (d :: ds)
    | _, _ => none
def constD : Value → Option DV
  | .agg cs => (constL cs.toList).map .agg
  | .func (.func f) a b => if a = #[] then (if b = #[] then some (.fn f []) else none) else none
  | v => constS v
def trX : Operand → Option AX
  | .tmp t => some (.t t)
  | .const v => (constD v).map .c
  | .func f => some (.c (.fn f []))
  | .global _ => none
def trXs : List Operand → Option (List AX)
  | [] => some []
  | x :: xs => match trX x, trXs xs with
    | some a, some as => some (a :: as)
    | _, _ => none
def trO : Option Operand → Option (Option AX)
  | none => some none
  | some x => (trX x).map some
def isAggD : TypeDesc → Bool
  | .struct _ | .array _ _ => true
  | _ => false
def trFields (fs : List Field) (sz : Nat → Option Nat) : List (Nat × Operand) → Option (List (Nat × Nat × AX))
  | [] => some []
  | (i, x) :: r => match fs[i]?, trX x, trFields fs sz r with
    | some f, some a, some as => match sz f.type with
      | some n => some ((f.offset, n, a) :: as)
      | none => none
    | _, _, _ => none
def trElems (sz : Nat) : List (Nat × Operand) → Option (List (Nat × Nat × AX))
  | [] => some []
  | (i, x) :: r => match trX x, trElems sz r with
    | some a, some as => some ((i * sz, sz, a) :: as)
    | _, _ => none
def trRows : List (Nat × Operand) → Option (List (Nat × AX))
  | [] => some []
  | (i, x) :: r => match trX x, trRows r with
    | some a, some as => some ((i, a) :: as)
    | _, _ => none
def szT (P : Program) (t : TypeId) : Option Nat := (P.info? t).map (·.size)
def zeroT (P : Program) (t : TypeId) : Option (List DV) := match P.info? t with
  | some i => match i.zero with
    | some z => constL z.cells.toList
    | none => none
  | none => none
/-- '==' on values of this type is '==' on their cells: an array or a struct of plain cells -/
def plainEq (P : Program) (t : TypeId) : Option PK := match P.underlying t with
  | some .bool => some .b
  | some (.int _) => some .i
  | some .string => some .s
  | _ => none
def flatFs (P : Program) : Nat → List Field → Option (List PK)
  | _, [] => some []
  | i, f :: fs => match plainEq P f.type, flatFs P (i + 1) fs with
    | some k, some ks => if f.offset == i && f.name != "_" then some (k :: ks) else none
    | _, _ => none
def flatEq (P : Program) (t : TypeId) : Option (List PK) := if P.eqGuardType P.depth t then none else match P.underlying t with
  | some (.array n e) => match plainEq P e, szT P e with
    | some k, some 1 => some (List.replicate n k)
    | _, _ => none
  | some (.struct fs) => if P.stoodInHeld t then none else flatFs P 0 fs.toList
  | _ => none
def trMkfn (fn : Fn) (first captured : Array Operand) : Option AOp := match fn with
  | .func f => if first = #[] then (trXs captured.toList).map (.mkfn f) else none
  | _ => none
def trLen (P : Program) (ts : List TypeId) (args : List Operand) : Option AOp := match ts, args with
  | [t], [x] => match P.underlying t, trX x with
    | some .string, some x => some (.lens x)
    | some (.slice _), some x => some (.len x)
    | some (.array n _), _ => some (.lenc n)
    | _, _ => none
  | _, _ => none
def trApp (P : Program) (ts : List TypeId) (args : List Operand) : Option AOp := match ts, args with
  | [t, t'], [s, x] => match P.underlying t, trX s, trX x with
    | some (.slice e), some s, some x => match P.info? e, zeroT P e with
      | some i, some zs => if t == t' && decide (0 < i.size) && zs.length == i.size then some (.app e i.size i.bytes s x) else none
      | _, _ => none
    | _, _, _ => none
  | _, _ => none
/-- what is known of a map's type: its keys' kind, and the zero value of its elements -/
def zero1 (P : Program) (t : TypeId) : Option DV := match P.info? t with
  | some i => match i.zero with
    | some z => constS z
    | none => none
  | none => none
def keyKK (P : Program) (k : TypeId) : Option KK := match plainEq P k with
  | some pk => some (.pl pk)
  | none => match flatEq P k with
    | some ks => some (.ag ks)
    | none => none
def mapKK (P : Program) (t : TypeId) : Option (KK × DV) := match P.underlying t with
  | some (.map k e) => match keyKK P k, zero1 P e with
    | some kk, some z => some (kk, z)
    | _, _ => none
  | _ => none
def trRm (P : Program) (ts : List TypeId) (args : List Operand) : Option AOp := match ts, args with
  | [t, _], [m, k] => match mapKK P t, trX m, trX k with
    | some (kk, _), some m, some k => some (.mrm kk m k)
    | _, _, _ => none
  | _, _ => none
def trMm (mx : Bool) (args : List Operand) : Option AOp := match args with
  | [x, y] => match trX x, trX y with
    | some x, some y => some (.mm mx x y)
    | _, _ => none
  | _ => none
def trBuiltin (P : Program) (b : Builtin) (ts : List TypeId) (args : List Operand) : Option AOp := match b with
  | .len => trLen P ts args
  | .append => trApp P ts args
  | .max => trMm true args
  | .min => trMm false args
  | .delete => trRm P ts args
  | _ => none
def trFun (x : Operand) (args : List Operand) : Option AOp := match x with
  | .func f => (trXs args).map (.call false f)
  | x => match trX x, trXs args with
    | some x, some as => some (.callv x as)
    | _, _ => none
def trCall (P : Program) (c : Call) : Option AOp := match c.callee with
  | .builtin b => trBuiltin P b c.argTypes.toList c.args.toList
  | .value x => trFun x c.args.toList
  | .invoke _ _ => none
/-- the nil slice, written out -/
def isNilS : Operand → Bool
  | .const (.slice none 0 0) => true
  | _ => false
def trOp (P : Program) (o : Op) : Option AOp :=
  match o with
  | .move x => (trX x).map .mv
  | .assign x => (trX x).map .mv
  | .pick c a b => match trX c, trX a, trX b with
    | some c, some a, some b => some (.pick c a b)
    | _, _, _ => none
  | .alloc t => (zeroT P t).map .alloc
  | .box _ x => (trX x).map .box
  | .build t parts => match P.underlying t, zeroT P t with
    | some (.struct fs), some zs => if fs.toList.all fun f => (szT P f.type).isSome then (trFields fs.toList (szT P) parts.toList).map (.build zs) else none
    | some (.array _ e), some zs => match szT P e with
      | some sz => (trElems sz parts.toList).map (.build zs)
      | none => none
    | _, _ => none
  | .buildSlice t len parts => match P.underlying t with
    | some (.slice e) => match szT P e, zeroT P e, trRows parts.toList with
      | some sz, some zs, some ps => if 0 < sz && zs.length == sz && decide (len * sz ≤ 1024) then some (.buildSl e sz len zs ps) else none
      | _, _, _ => none
    | _ => none
  | .load t p => match P.underlying t, szT P t, trX p with
    | some d, some n, some p => if isAggD d || n == 1 then some (.ld (isAggD d) n p) else none
    | _, _, _ => none
  | .store t p x => match szT P t, trX p, trX x with
    | some n, some p, some x => some (.sto n p x)
    | _, _, _ => none
  | .binOp op t x y _ => match trX x, trX y with
    | some a, some b => match P.underlying t with
      | some .bool => (match op with | .eql => some (.beq false a b) | .neq => some (.beq true a b) | _ => none)
      | some (.int _) => some (.bin op a b)
      | some .string => some (.bin op a b)
      | some (.slice _) => (match op with | .eql => (if isNilS y then some (.isn false a) else none) | .neq => (if isNilS y then some (.isn true a) else none) | _ => none)
      | _ => match flatEq P t with
        | some ks => (match op with | .eql => some (.eqa false ks a b) | .neq => some (.eqa true ks a b) | _ => none)
        | none => none
    | _, _ => none
  | .unOp op _ x => match op with
    | .not => (trX x).map .nt
    | .neg => (trX x).map .ng
    | _ => none
  | .fieldAddr s p f => match P.underlying s, trX p with
    | some (.struct fs), some p => match fs[f]? with
      | some fd => match szT P fd.type with
        | some n => if n == 0 then none else some (.fld fd.offset p)
        | none => none
      | none => none
    | _, _ => none
  | .field s x f => match P.underlying s, trX x with
    | some (.struct fs), some x => match fs[f]? with
      | some fd => match szT P fd.type, P.underlying fd.type with
        | some n, some d => some (.fldv (isAggD d) fd.offset n x)
        | _, _ => none
      | none => none
    | _, _ => none
  | .indexAddr t x i => match P.underlying t, trX x, trX i with
    | some (.slice e), some x, some i => (szT P e).map fun sz => .ix sz x i
    | some (.array n e), some x, some i => (szT P e).map fun sz => .ixp n sz x i
    | _, _, _ => none
  | .index t x i => match P.underlying t, trX x, trX i with
    | some (.array n e), some x, some i => match szT P e, P.underlying e with
      | some sz, some d => some (.ixv (isAggD d) n sz x i)
      | _, _ => none
    | some .string, some x, some i => some (.ixs x i)
    | _, _, _ => none
  | .slice t x lo hi mx => match P.underlying t, trX x, trO lo, trO hi, trO mx with
    | some (.slice e), some x, some lo, some hi, some mx => (szT P e).map fun sz => .sub sz x lo hi mx
    | some .string, some x, some lo, some hi, some none => some (.subs x lo hi)
    | _, _, _, _, _ => none
  | .makeFunc fn first captured => trMkfn fn first captured
  | .extract x i => (trX x).map fun x => .ext x i
  | .convert src dst x => match P.underlying src, P.underlying dst, trX x with
    | some (.int _), some (.int k), some x => some (.conv k x)
    | some .string, some .string, some x => some (.cstr x)
    | _, _, _ => none
  | .call c => trCall P c
  | .makeMap t r => match mapKK P t, trO r with
    | some (kk, _), some r => some (.mkm kk r)
    | _, _ => none
  | .mapUpdate t m k v => match mapKK P t, trX m, trX k, trX v with
    | some (kk, _), some m, some k, some v => some (.mput kk m k v)
    | _, _, _, _ => none
  | .nilCheck x => (trX x).map .nck
  | .makeSlice t l c => match P.underlying t, trX l, trX c with
    | some (.slice e), some l, some c => match P.info? e, zeroT P e with
      | some i, some zs => if zs.length == i.size then some (.mks e i.size i.bytes l c) else none
      | _, _ => none
    | _, _, _ => none
  | .lookup t x i false => match mapKK P t, trX x, trX i with
    | some (kk, z), some m, some k => some (.mlk kk z m k)
    | _, _, _ => none
  | _ => none
def trG (ops : Array Oper) (g : Option (Nat × Bool)) : Option (Option (Nat × Bool)) := match g with
  | none => some none
  | some (j, want) => match (ops[j]?).bind (·.dst) with
    | some t => some (some (t, want))
    | none => none
def dstOK (op : AOp) (dst : Option Nat) : Bool := match op with
  | .sto _ _ _ => dst.isNone
  | .mput _ _ _ _ => dst.isNone
  | .mrm _ _ _ => dst.isNone
  | _ => true
def trOper (P : Program) (ops : Array Oper) (o : Oper) : Option AOper := match trOp P o.op, trG ops o.guard with
  | some op, some g => if dstOK op o.dst then some ⟨o.dst, g, op⟩ else none
  | _, _ => none
/-- what is only the proof's own choice: which call gives a slice away -/
def stripOp : AOp → AOp
  | .call _ f as => .call false f as
  | .appn e sz bytes s x => .app e sz bytes s x
  | .bs0 e sz zs => .buildSl e sz 0 zs []
  | op => op
def stripO (o : AOper) : AOper := ⟨o.dst, o.g, stripOp o.op⟩
def stripL : List AOper → List AOper
  | [] => []
  | o :: l => stripO o :: stripL l
/-- calls that give a slice away: a choice of the proof's own -/
def flagO (fl : List Nat) (o : AOper) : AOper := match o.op, o.dst with
  | .call _ f as, some d => if fl.contains d then ⟨o.dst, o.g, .call true f as⟩ else o
  | .app e sz b s x, some d => if fl.contains d then ⟨o.dst, o.g, .appn e sz b s x⟩ else o
  | .buildSl e sz 0 zs [], some d => if fl.contains d then ⟨o.dst, o.g, .bs0 e sz zs⟩ else o
  | _, _ => o
def flagL (fl : List Nat) : List AOper → List AOper
  | [] => []
  | o :: l => flagO fl o :: flagL fl l
def strip : AC → AC
  | .skip => .skip
  | .ops l => .ops (stripL l)
  | .opsp l => .ops (stripL l)
  | .bad => .bad
  | .drawp t o => .drawp t o
  | .draw t => .draw t
  | .seq a b => .seq (strip a) (strip b)
  | .cond x a b => .cond x (strip a) (strip b)
  | .block id c => .block id (strip c)
  | .loop c => .loop (strip c)
  | .exit id => .exit id
  | .ret => .ret
  | .fz _ c => strip c
def trOpers (P : Program) (ops : Array Oper) : List Oper → Option (List AOper)
  | [] => some []
  | o :: l => match trOper P ops o, trOpers P ops l with
    | some a, some as => some (a :: as)
    | _, _ => none
end Go.Proofs.YtcolebkklojccaaGreat.E
