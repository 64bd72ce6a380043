/- This text proves parts of an evaluator's soundness: what the evaluator answers, the model's run does; no condition. -/
import Derived.OrdersIn
import Derived.RangeFuncIn
import GoSem.Decode
import Derived.Laws.AppendOwn
import Derived.Laws.CopyRow
import Derived.Laws.Entries
import Derived.Laws.StructEq
set_option linter.unusedVariables false
set_option linter.unusedSimpArgs false
set_option linter.unusedSectionVars false
namespace Go.Eng
inductive Cl where
  | bool (b : Bool)
  | int (k : IntKind) (n : Int)
  | str (s : ByteArray)
  | ptr (id g i k : Nat)
  | rptr (row : List Cl) (k : Nat)
  | nilptr
  | slice (id g esz off len : Nat) (cap : Option Nat)
  | rslice (rows : List (List Cl))
  | nilslice
  | fn (f : FuncId) (first captured : List Cl)
  | nilfn
  | iface (t : TypeId) (agg : Bool) (cs : List Cl)
  | niliface
  | yld (id : Nat) (f : FuncId) (sh : List (Nat × Bool × Nat))
  | nilmap
  | map (id : Nat) (g : Bool)
  | mit (id : Nat)
  | bsl (id g i k es len cap : Nat)
  deriving Inhabited
inductive WV where
  | c (x : Cl)
  | a (cs : List Cl)
  deriving Inhabited
inductive AV where
  | w (x : WV)
  | t (xs : List WV)
  | u
  deriving Inhabited
structure Blk where
  box : Bool
  esz : Nat
  rows : List (List Cl)
  gen : Nat
  fz : Bool
  ver : Nat
  deriving Inhabited
abbrev Mem := List (Option Blk)
inductive Opd where
  | s (n : Nat)
  | k (v : WV)
  deriving Inhabited
structure CMode where
  fa : Bool
  deriving Inhabited
inductive P1 where
  | mkif (t : TypeId)
  | tass (ok : Bool) (t : TypeId) (z : WV)
  deriving Inhabited
inductive P2 where
  | str (op : BinOp)
  | sidx
  deriving Inhabited
inductive MK where
  | get (ok g : Bool) (z : WV)
  | set (g : Bool)
  | del
  | len
  | next
  | entry
  | copy (es : Nat)
  | tostr
  | mark
  | peq
  deriving Inhabited
inductive PK where
  | sslice (lo hi : Bool)
  | aslice (n es : Nat) (lo hi : Bool)
  | isnilf (neg : Bool)
  | isnili (neg : Bool)
  deriving Inhabited
inductive ML where
  | mk (g : Bool)
  | range
  | litf
  | litz (n : Int)
  deriving Inhabited
inductive CO where
  | mv (x : Opd)
  | pick (c a b : Opd)
  | newsl (q esz : Nat)
  | box (q : Nat) (n : Nat) (x : Opd)
  | build (zero : List Cl) (parts : List (Nat × Nat × Opd))
  | lit (q esz : Nat) (zero : List (List Cl)) (parts : List (Nat × Opd))
  | load (agg : Bool) (n : Nat) (p : Opd)
  | store (n : Nat) (p v : Opd)
  | nilck (x : Opd)
  | bin (op : BinOp) (x y : Opd)
  | eqb (neg : Bool) (x y : Opd)
  | isnil (neg : Bool) (x : Opd)
  | eqa (neg : Bool) (sh : List Bool) (x y : Opd)
  | un (op : UnOp) (x : Opd)
  | conv (k : IntKind) (x : Opd)
  | mkfn (f : FuncId) (fi ca : List Opd)
  | mkslice (q esz bytes : Nat) (zero : List Cl) (len cap : Opd)
  | slice (es : Nat) (x : Opd) (lo hi mx : Option Opd)
  | faddr (off : Nat) (p : Opd)
  | field (agg : Bool) (off n : Nat) (x : Opd)
  | iaddr (esz : Nat) (x i : Opd)
  | aaddr (len esz : Nat) (x i : Opd)
  | aidx (agg : Bool) (len esz : Nat) (x i : Opd)
  | extract (t i : Nat)
  | len (x : Opd)
  | slen (x : Opd)
  | minmax (mx : Bool) (xs : List Opd)
  | append (esz bytes : Nat) (s x : Opd)
  | clear (zero : List Cl) (x : Opd)
  | call (m : CMode) (f : Opd) (args : List Opd)
  | p1 (k : P1) (x : Opd)
  | p2 (k : P2) (x y : Opd)
  | pop (k : PK) (xs : List Opd)
  | mop (k : MK) (xs : List Opd)
  | mlay (k : ML) (q : Nat) (xs : List Opd)
  | bad
  deriving Inhabited
structure COper where
  ix : Nat
  dst : Option Nat
  guard : Option (Nat × Bool)
  op : CO
  deriving Inhabited
inductive CC where
  | skip
  | region (nA : Nat) (ops : List COper) (prs : List (Nat × Nat)) (keep : Option (List Nat))
  | seq (a b : CC)
  | cond (c : Opd) (a b : CC)
  | block (id : Nat) (b : CC)
  | loop (live : Option (List Nat)) (b : CC)
  | exit (id : Nat)
  | ret
  | rng (f : Opd) (vf : FuncId) (caps : List Nat)
  deriving Inhabited
inductive RC where
  | slot (n : Nat)
  | cell (n : Nat) (agg : Bool) (size : Nat)
  deriving Inhabited
structure CFn where
  frz : Bool
  rnd : Option (List Nat × CC)
  nargs : Nat
  ntmps : Nat
  code : CC
  res : List RC
  deriving Inhabited
abbrev Env := List (Nat × AV)
def Env.get : Env → Nat → Option AV
  | [], _ => none
  | (m, v) :: e, n => if m = n then some v else Env.get e n
def Env.keep (e : Env) : List Nat → Env
  | [] => []
  | n :: ns => match e.get n with
    | some v => (n, v) :: e.keep ns
    | none => e.keep ns
def Opd.ev (E : Nat → Option AV) : Opd → Option WV
  | .s n => match E n with
    | some (.w x) => some x
    | _ => none
  | .k v => some v
def Opd.av (E : Nat → Option AV) : Opd → Option AV
  | .s n => E n
  | .k v => some (.w v)
def evs (E : Nat → Option AV) : List Opd → Option (List WV)
  | [] => some []
  | o :: os => match o.ev E, evs E os with
    | some v, some vs => some (v :: vs)
    | _, _ => none
def WV.cells : WV → List Cl
  | .c x => [x]
  | .a cs => cs
def ofCells (agg : Bool) (cs : List Cl) : Option WV :=
  if agg then some (.a cs) else match cs with
    | [x] => some (.c x)
    | _ => none
def look (M : Mem) (id g : Nat) : Option Blk :=
  match M[id]? with
  | some (some b) => if g = b.gen then some b else none
  | _ => none
def cut (row : List Cl) (k n : Nat) : Option (List Cl) :=
  if k + n ≤ row.length then some ((row.drop k).take n) else none
def splice (row : List Cl) (k : Nat) (cs : List Cl) : Option (List Cl) :=
  if k + cs.length ≤ row.length then some (row.take k ++ cs ++ row.drop (k + cs.length)) else none
inductive FP where
  | no
  | bad
  | ld (id k n : Nat)
  | wr (l : List (Nat × Nat × Nat))
  | mk (l : List Nat)
  deriving Inhabited
def whole : Nat := 1000000
def FP.apartOne (id k n : Nat) (w : Nat × Nat × Nat) : Bool := id != w.1 || (w.2.2 < whole && (k + n ≤ w.2.1 || w.2.1 + w.2.2 ≤ k))
def FP.apart : FP → FP → Bool
  | .bad, _ => false
  | _, .bad => false
  | .ld id k n, .wr l => l.all (FP.apartOne id k n)
  | .wr l, .ld id k n => l.all (FP.apartOne id k n)
  | .ld id _ _, .mk l => !l.contains id
  | .mk _, _ => false
  | _, .mk _ => false
  | _, _ => true
def FP.old (base : Nat) : FP → Bool
  | .ld id _ _ => id < base
  | _ => true
def noIds : Cl → Bool
  | .ptr .. | .slice .. | .yld .. | .map .. | .mit .. | .bsl .. => false
  | .fn _ fi ca => fi.isEmpty && ca.isEmpty
  | .iface .. => false
  | _ => true
def frzC (M : Mem) : Cl → Option Cl
  | .slice id g _ off len cap => match look M id g with
    | some b => if b.box then none else if off + len ≤ b.rows.length then some (.rslice ((b.rows.drop off).take len)) else none
    | none => none
  | .nilslice => some (.rslice [])
  | x => some x
def frzs (M : Mem) : List Cl → Option (List Cl)
  | [] => some []
  | x :: xs => match frzC M x, frzs M xs with
    | some y, some ys => some (y :: ys)
    | _, _ => none
def frzW (M : Mem) : WV → Option WV
  | .c x => (frzC M x).map .c
  | .a cs => (frzs M cs).map .a
def frzWs (M : Mem) : List WV → Option (List WV)
  | [] => some []
  | x :: xs => match frzW M x, frzWs M xs with
    | some y, some ys => some (y :: ys)
    | _, _ => none
def frzA (M : Mem) : AV → Option AV
  | .w x => (frzW M x).map .w
  | .t xs => (frzWs M xs).map .t
  | .u => some .u
def slC : Cl → List Nat
  | .slice id _ _ _ _ _ => [id]
  | _ => []
def WV.sls (x : WV) : List Nat := x.cells.flatMap slC
def AV.sls : AV → List Nat
  | .w x => x.sls
  | .t xs => xs.flatMap WV.sls
  | .u => []
def markOne (M : Mem) (id : Nat) : Mem :=
  match M[id]? with
  | some (some b) => if b.fz then M else M.set id (some { b with fz := true, ver := b.ver + 1 })
  | _ => M
def markAll (M : Mem) (ids : List Nat) : Mem := ids.foldl markOne M
def ids1 : Cl → List Nat
  | .ptr id _ _ _ => [id]
  | .slice id _ _ _ _ _ => [id]
  | .yld id _ _ => [id]
  | .map id _ => [id]
  | .mit id => [id]
  | .bsl id .. => [id]
  | _ => []
def idsC : Cl → List Nat
  | .fn _ fi ca => fi.flatMap ids1 ++ ca.flatMap ids1
  | .iface _ _ cs => cs.flatMap ids1
  | x => ids1 x
def WV.ids (x : WV) : List Nat := x.cells.flatMap idsC
def AV.ids : AV → List Nat
  | .w x => x.ids
  | .t xs => xs.flatMap WV.ids
  | .u => []
def Blk.ids (b : Blk) : List Nat := if b.box then b.rows.flatMap (fun r => r.flatMap idsC) else []
def idsAt (M : Mem) (id : Nat) : List Nat :=
  match M[id]? with
  | some (some b) => b.ids
  | _ => []
def collect (M : Mem) : Nat → List Nat → List Nat → List Nat
  | 0, _, seen => seen
  | _ + 1, [], seen => seen
  | f + 1, id :: todo, seen => if seen.contains id then collect M f todo seen else collect M f (idsAt M id ++ todo) (seen ++ [id])
def ren1 (ρ : Nat → Option Nat) : Cl → Option Cl
  | .ptr id g i k => (ρ id).map (.ptr · g i k)
  | .slice id g es off len cap => (ρ id).map (.slice · g es off len cap)
  | .yld id f sh => (ρ id).map (.yld · f sh)
  | .map id g => (ρ id).map (.map · g)
  | .mit id => (ρ id).map .mit
  | .bsl id g i k es len cap => (ρ id).map (.bsl · g i k es len cap)
  | .fn f [] [] => some (.fn f [] [])
  | .fn .. => none
  | .iface .. => none
  | x => some x
def ren1s (ρ : Nat → Option Nat) : List Cl → Option (List Cl)
  | [] => some []
  | x :: xs => match ren1 ρ x, ren1s ρ xs with
    | some y, some ys => some (y :: ys)
    | _, _ => none
def renC (ρ : Nat → Option Nat) : Cl → Option Cl
  | .fn f fi ca => match ren1s ρ fi, ren1s ρ ca with
    | some fi, some ca => some (.fn f fi ca)
    | _, _ => none
  | .iface t a cs => (ren1s ρ cs).map (.iface t a)
  | x => ren1 ρ x
def renCs (ρ : Nat → Option Nat) : List Cl → Option (List Cl)
  | [] => some []
  | x :: xs => match renC ρ x, renCs ρ xs with
    | some y, some ys => some (y :: ys)
    | _, _ => none
def renRows (ρ : Nat → Option Nat) : List (List Cl) → Option (List (List Cl))
  | [] => some []
  | x :: xs => match renCs ρ x, renRows ρ xs with
    | some y, some ys => some (y :: ys)
    | _, _ => none
def renW (ρ : Nat → Option Nat) : WV → Option WV
  | .c x => (renC ρ x).map .c
  | .a cs => (renCs ρ cs).map .a
def renWs (ρ : Nat → Option Nat) : List WV → Option (List WV)
  | [] => some []
  | x :: xs => match renW ρ x, renWs ρ xs with
    | some y, some ys => some (y :: ys)
    | _, _ => none
def renA (ρ : Nat → Option Nat) : AV → Option AV
  | .w x => (renW ρ x).map .w
  | .t xs => (renWs ρ xs).map .t
  | .u => some .u
def renB (ρ : Nat → Option Nat) (b : Blk) : Option Blk :=
  if b.box then (renRows ρ b.rows).map fun r => { b with rows := r } else some b
def idxIn : List Nat → Nat → Option Nat
  | [], _ => none
  | x :: xs, n => if x = n then some 0 else (idxIn xs n).map (· + 1)
def nodupB : List Nat → Bool
  | [] => true
  | x :: xs => !xs.contains x && nodupB xs
def takeBlks (M : Mem) (ρ : Nat → Option Nat) : List Nat → Option Mem
  | [] => some []
  | id :: ids => match M[id]?, takeBlks M ρ ids with
    | some (some b), some bs => (renB ρ b).map fun b => some b :: bs
    | _, _ => none
def top1 : Cl → Nat
  | .ptr id _ _ _ => id + 1
  | .slice id _ _ _ _ _ => id + 1
  | .yld id _ _ => id + 1
  | .map id _ => id + 1
  | .mit id => id + 1
  | .bsl id .. => id + 1
  | _ => 0
def topC : Cl → Nat
  | .fn _ fi ca => (fi ++ ca).foldl (fun n x => max n (top1 x)) 0
  | .iface _ _ cs => cs.foldl (fun n x => max n (top1 x)) 0
  | x => top1 x
def fnFlat1 : Cl → Bool
  | .fn _ [] [] => true
  | .fn .. => false
  | .iface .. => false
  | _ => true
def below (n : Nat) : Cl → Bool
  | .fn _ fi ca => fi.all (fun x => fnFlat1 x && top1 x ≤ n) && ca.all (fun x => fnFlat1 x && top1 x ≤ n)
  | .iface _ _ cs => cs.all (fun x => fnFlat1 x && top1 x ≤ n)
  | x => top1 x ≤ n
def WV.below (n : Nat) (v : WV) : Bool := v.cells.all (Eng.below n)
def AV.below (n : Nat) : AV → Bool
  | .w x => x.below n
  | .t xs => xs.all (WV.below n)
  | .u => true
def Blk.below (n : Nat) (b : Blk) : Bool := if b.box then b.rows.all (fun r => r.all (Eng.below n)) else true
def memBelow (n : Nat) (M : Mem) : Bool := M.all fun | some b => b.below n | none => true
def collectFuel : Nat := 4096
def finish (k : Nat) (res : AV) (M : Mem) : Option (AV × Mem) :=
  if M.length = k then some (res, M) else
  if res.below k && memBelow k (M.take k) then some (res, M.take k) else
  let pinned := List.range k
  let new := collect M collectFuel (res.ids ++ pinned.flatMap (idsAt M)) pinned
  if nodupB new && new.take k == pinned then
    let ρ := idxIn new
    match renA ρ res, takeBlks M ρ new with
    | some r, some M' => some (r, M')
    | _, _ => none
  else none
def back (ρ : Nat → Option Nat) : List Nat → Mem → Mem → Option (Mem × List Nat)
  | [], _, M => some (M, [])
  | id :: ids, some b :: Ms, M => match M[id]? with
    | some (some b0) =>
      if b.ver = b0.ver then back ρ ids Ms M
      else match renB ρ b, back ρ ids Ms M with
        | some b', some (M', ch) => some (M'.set id (some b'), id :: ch)
        | _, _ => none
    | _ => none
  | _, _, _ => none
def renNew (ρ : Nat → Option Nat) : Mem → Option Mem
  | [] => some []
  | some b :: bs => match renB ρ b, renNew ρ bs with
    | some b', some bs' => some (some b' :: bs')
    | _, _ => none
  | none :: _ => none
abbrev CallF := FuncId → List WV → Mem → Option (AV × Mem)
def landed (ids : List Nat) (M : Mem) (res : AV) (Ms : Mem) : Option (AV × Mem × FP) :=
  let ρ : Nat → Option Nat := fun j => match ids[j]? with
    | some id => some id
    | none => some (M.length + (j - ids.length))
  match back ρ ids Ms M, renNew ρ (Ms.drop ids.length), renA ρ res with
  | some (M', ch), some new, some r => some (r, M' ++ new, if ch.isEmpty then .no else .wr (ch.map fun id => (id, 0, whole)))
  | _, _, _ => none
def callOn (cf : CallF) (f : FuncId) (args : List WV) (M : Mem) : Option (AV × Mem × FP) :=
  let ids := collect M collectFuel (args.flatMap WV.ids) []
  if nodupB ids then
    match renWs (idxIn ids) args, takeBlks M (idxIn ids) ids with
    | some as, some Ms =>
      match cf f as Ms with
      | none => none
      | some (r, Ms') => landed ids M r Ms'
    | _, _ => none
  else none
def plainC : Cl → Bool
  | .bool _ | .int .. | .str _ | .nilptr | .nilslice | .nilfn | .niliface | .nilmap => true
  | _ => false
def WV.plain (v : WV) : Bool := v.cells.all plainC
def AV.plain : AV → Bool
  | .w x => x.plain
  | .t xs => xs.all WV.plain
  | .u => true
def FP.isNo : FP → Bool
  | .no => true
  | _ => false
def callee : WV → Option (FuncId × List WV × List WV × Bool)
  | .c (.fn f fi ca) => some (f, fi.map .c, ca.map .c, false)
  | .c (.yld id f sh) => some (f, [.c (.yld id f sh)], [], true)
  | _ => none
def headOK (f : FuncId) : List WV → Bool
  | .c (.yld _ g _) :: _ => g != f
  | _ => true
def callOp (cf : CallF) (m : CMode) (fv : WV) (args : List WV) (M : Mem) : Option (AV × Mem × FP) :=
  match callee fv with
  | some (f, fi, ca, y) =>
    if m.fa then
      match frzWs M args with
      | none => none
      | some as =>
        if y || headOK f (fi ++ as ++ ca) then
        let sl := args.flatMap WV.sls
        if sl.isEmpty then callOn cf f (fi ++ as ++ ca) M else
        match callOn cf f (fi ++ as ++ ca) (markAll M sl) with
        | none => none
        | some (r, M2, fp) =>
          if fp.isNo && M2.length == M.length && r.plain then some (r, M, .no)
          else some (r, M2, match fp with | .wr l => .wr (sl.map (fun id => (id, 0, whole)) ++ l) | _ => .wr (sl.map fun id => (id, 0, whole)))
        else none
    else if y || headOK f (fi ++ args ++ ca) then callOn cf f (fi ++ args ++ ca) M else none
  | none => none
def binI (op : BinOp) (k : IntKind) (a b : Int) : Option Cl :=
  match op with
  | .add => some (.int k (k.wrap (a + b)))
  | .sub => some (.int k (k.wrap (a - b)))
  | .mul => some (.int k (k.wrap (a * b)))
  | .quo => if b = 0 then none else some (.int k (k.wrap (a.tdiv b)))
  | .rem => if b = 0 then none else some (.int k (a.tmod b))
  | .eql => some (.bool (a == b))
  | .neq => some (.bool (a != b))
  | .lss => some (.bool (a < b))
  | .leq => some (.bool (a ≤ b))
  | .gtr => some (.bool (a > b))
  | .geq => some (.bool (a ≥ b))
  | .and => some (.int k (k.wrap (BitVec.ofInt k.bits a &&& BitVec.ofInt k.bits b).toNat))
  | .or => some (.int k (k.wrap (BitVec.ofInt k.bits a ||| BitVec.ofInt k.bits b).toNat))
  | .xor => some (.int k (k.wrap (BitVec.ofInt k.bits a ^^^ BitVec.ofInt k.bits b).toNat))
  | .andNot => some (.int k (k.wrap (BitVec.ofInt k.bits a &&& ~~~BitVec.ofInt k.bits b).toNat))
  | _ => none
def binC (op : BinOp) (x y : Cl) : Option Cl :=
  match x, y with
  | .int k a, .int k' b => match op with
    | .shl => if b < 0 then none else some (.int k (k.wrap (a * 2 ^ min b.toNat k.bits)))
    | .shr => if b < 0 then none else some (.int k (a.fdiv (2 ^ min b.toNat k.bits)))
    | op => if k = k' then binI op k a b else none
  | _, _ => none
def p1F : P1 → WV → Option AV
  | .mkif t, .c x => some (.w (.c (.iface t false [x])))
  | .mkif t, .a cs => some (.w (.c (.iface t true cs)))
  | .tass ok t z, .c (.iface t' agg cs) => if t' = t then match ofCells agg cs with
      | some v => some (if ok then .t [v, .c (.bool true)] else .w v)
      | none => none
    else if ok then some (.t [z, .c (.bool false)]) else none
  | .tass ok _ z, .c .niliface => if ok then some (.t [z, .c (.bool false)]) else none
  | _, _ => none
def strOp (op : BinOp) (a b : ByteArray) : Option Cl :=
  match op with
  | .add => if ((a.size + b.size : Nat) : Int) > IntKind.i64.max then none else some (.str (a ++ b))
  | .eql => some (.bool (a.toList == b.toList))
  | .neq => some (.bool (!(a.toList == b.toList)))
  | .lss => some (.bool (Op.bytesLess a.toList b.toList))
  | .leq => some (.bool (Op.bytesLess a.toList b.toList || a.toList == b.toList))
  | .gtr => some (.bool (!(Op.bytesLess a.toList b.toList || a.toList == b.toList)))
  | .geq => some (.bool (!Op.bytesLess a.toList b.toList))
  | _ => none
def p2F : P2 → WV → WV → Option AV
  | .str op, .c (.str a), .c (.str b) => (strOp op a b).map fun c => .w (.c c)
  | .sidx, .c (.str s), .c (.int _ n) => if 0 ≤ n then (s[n.toNat]?).map fun b => .w (.c (.int .u8 b.toNat)) else none
  | _, _, _ => none
def eqbC (neg : Bool) (x y : Cl) : Option Cl :=
  match x, y with
  | .bool a, .bool b => some (.bool (if neg then !(a == b) else (a == b)))
  | _, _ => none
def nilC (neg : Bool) (x : Cl) : Option Cl :=
  match x with
  | .nilptr => some (.bool (!neg))
  | .ptr .. | .rptr .. => some (.bool neg)
  | _ => none
def eqC1 : Bool → Cl → Cl → Option Bool
  | false, .int k a, .int k' b => if k = k' then some (a == b) else none
  | true, .bool a, .bool b => some (a == b)
  | _, _, _ => none
def eqCells : List Bool → List Cl → List Cl → Option Bool
  | [], [], [] => some true
  | s :: ss, x :: xs, y :: ys => match eqC1 s x y with
    | some true => eqCells ss xs ys
    | r => r
  | _, _, _ => none
def unC (op : UnOp) (x : Cl) : Option Cl :=
  match op, x with
  | .neg, .int k n => some (.int k (k.wrap (0 - n)))
  | .not, .bool b => some (.bool (!b))
  | _, _ => none
def maxI (mx : Bool) (a b : Int) : Int := if mx then (if b > a then b else a) else (if b < a then b else a)
def foldMM (mx : Bool) : Int → IntKind → List WV → Option Cl
  | a, k, [] => some (.int k a)
  | a, k, .c (.int k' b) :: r => if k = k' then foldMM mx (maxI mx a b) k r else none
  | _, _, _ => none
def fillOne (cells : List Cl) (off size : Nat) (v : WV) : Option (List Cl) :=
  if v.cells.length = size then splice cells off v.cells else none
def fillParts (E : Nat → Option AV) : List Cl → List (Nat × Nat × Opd) → Option (List Cl)
  | cells, [] => some cells
  | cells, (off, size, o) :: r => match o.ev E with
    | some v => match fillOne cells off size v with
      | some cells' => fillParts E cells' r
      | none => none
    | none => none
def fillRows (E : Nat → Option AV) (M : Mem) (esz : Nat) : List (List Cl) → List (Nat × Opd) → Option (List (List Cl))
  | rows, [] => some rows
  | rows, (i, o) :: r => match o.ev E with
    | some v => match frzs M v.cells with
      | some cs => if cs.all noIds && cs.length = esz && i < rows.length then fillRows E M esz (rows.set i cs) r else none
      | none => none
    | none => none
def partsSls (E : Nat → Option AV) (parts : List (Nat × Opd)) : List Nat :=
  parts.flatMap fun p => match p.2.ev E with
    | some v => v.sls
    | none => []
def asIdx (n : Int) (len : Nat) : Option Nat := if 0 ≤ n ∧ n < len then some n.toNat else none
def asBound (n : Int) (top : Nat) : Option Nat := if 0 ≤ n ∧ n ≤ top then some n.toNat else none
def boundOf (E : Nat → Option AV) (o : Option Opd) (dflt top : Nat) : Option Nat :=
  match o with
  | none => some dflt
  | some x => match x.ev E with
    | some (.c (.int _ n)) => asBound n top
    | _ => none
def topOf (len : Nat) : Option Nat → Nat
  | some c => c
  | none => len
def sliceB (E : Nat → Option AV) (len : Nat) (cap : Option Nat) (lo hi mx : Option Opd) : Option (Nat × Nat × Option Nat) :=
  match mx with
  | none =>
    match boundOf E hi len (topOf len cap) with
    | some h => match boundOf E lo 0 h with
      | some l => some (l, h - l, cap.map (· - l))
      | none => none
    | none => none
  | some _ =>
    match boundOf E mx len (topOf len cap) with
    | some m => match boundOf E hi len m with
      | some h => match boundOf E lo 0 h with
        | some l => if hi.isSome then some (l, h - l, some (m - l)) else none
        | none => none
      | none => none
    | none => none
def faddrC (off : Nat) : Cl → Option Cl
  | .ptr id g i k => some (.ptr id g i (k + off))
  | .rptr r k => some (.rptr r (k + off))
  | _ => none
def iaddrC (es : Nat) : Cl → Cl → Option Cl
  | .slice id g es' off len _, .int _ n => match asIdx n len with
    | some k => if es' = es then some (.ptr id g (off + k) 0) else none
    | none => none
  | .rslice rows, .int _ n => match asIdx n rows.length with
    | some k => match rows[k]? with
      | some row => if row.length = es then some (.rptr row 0) else none
      | none => none
    | none => none
  | .bsl id g i k es' len _, .int _ n => match asIdx n len with
    | some q => if es' = es then some (.ptr id g i (k + q * es)) else none
    | none => none
  | _, _ => none
def aaddrC (len es : Nat) : Cl → Cl → Option Cl
  | .ptr id g r k, .int _ n => match asIdx n len with
    | some q => some (.ptr id g r (k + q * es))
    | none => none
  | .rptr r k, .int _ n => match asIdx n len with
    | some q => some (.rptr r (k + q * es))
    | none => none
  | _, _ => none
def sliceC (E : Nat → Option AV) (es : Nat) (x : Cl) (lo hi mx : Option Opd) : Option Cl :=
  match x with
  | .slice id g es' off len cap => if es' = es then
      match sliceB E len cap lo hi mx with
      | some (l, n, c) => some (.slice id g es (off + l) n c)
      | none => none
    else none
  | .rslice rows => match sliceB E rows.length none lo hi mx with
    | some (l, n, _) => if l + n ≤ rows.length ∧ rows.all (fun r => r.length == es) = true then some (.rslice ((rows.drop l).take n)) else none
    | none => none
  | .nilslice => match sliceB E 0 (some 0) lo hi mx with
    | some _ => some .nilslice
    | none => none
  | .bsl id g i k es' len cap => if es' = es then
      match sliceB E len (some cap) lo hi mx with
      | some (l, n, some c) => some (.bsl id g i (k + l * es) es n c)
      | _ => none
    else none
  | _ => none
def elemsOf (M : Mem) (esz : Nat) : Cl → Option (List (List Cl))
  | .nilslice => some []
  | .rslice rows => if rows.all (fun r => r.length == esz) then some rows else none
  | .slice id g _ off len _ => match look M id g with
    | some b => if !b.box && b.esz = esz && off + len ≤ b.rows.length then some ((b.rows.drop off).take len) else none
    | none => none
  | _ => none
def roomy (n bytes : Nat) : Bool := n * bytes ≤ 140737488355328
def appendOp (M : Mem) (esz bytes : Nat) (s x : Cl) : Option (AV × Mem × FP) :=
  match elemsOf M esz x with
  | none => none
  | some ys =>
    let fresh : Option (AV × Mem × FP) :=
      if roomy ys.length bytes && 0 < esz then
        some (.w (.c (.slice M.length ys.length esz 0 ys.length none)), M ++ [some { box := false, esz, rows := ys, gen := ys.length, fz := false, ver := ys.length }], .no)
      else none
    match s with
    | .nilslice => if ys.isEmpty then some (.w (.c .nilslice), M, .no) else fresh
    | .rslice rows => if ys.isEmpty then some (.w (.c (.rslice rows)), M, .no) else none
    | .slice id g es off len cap => match look M id g with
      | some b =>
        if !b.box && b.esz = esz && 0 < esz && off + len ≤ b.rows.length && (!b.fz || off + len = b.rows.length) && roomy (len + ys.length) bytes then
          if ys.isEmpty then some (.w (.c (.slice id g es off len cap)), M, .wr [(id, 0, whole)]) else
          some (.w (.c (.slice id (g + ys.length) esz 0 (len + ys.length) none)),
            M.set id (some { b with rows := (b.rows.drop off).take len ++ ys, gen := g + ys.length, ver := b.ver + ys.length }), .wr [(id, 0, whole)])
        else none
      | none => none
    | _ => none
def storeAt (M : Mem) (id g i k : Nat) (cs : List Cl) : Option Mem :=
  match look M id g with
  | some b =>
    if b.fz then none else
    match b.rows[i]? with
    | some row => match splice row k cs with
      | some row' => some (M.set id (some { b with rows := b.rows.set i row', ver := b.ver + 1 }))
      | none => none
    | none => none
  | none => none
def isBox (M : Mem) (id g : Nat) : Bool := match look M id g with
  | some b => b.box
  | none => false
def storeOp (M : Mem) (n : Nat) (p : Cl) (v : WV) : Option (AV × Mem × FP) :=
  match p with
  | .ptr id g i k =>
    if v.cells.length = n then
      if isBox M id g then
        (storeAt M id g i k v.cells).map fun M' => (.u, M', .wr [(id, k, n)])
      else match frzs M v.cells with
        | some cs => if cs.all noIds then
            (storeAt (markAll M v.sls) id g i k cs).map fun M' => (.u, M', .wr ((id, k, n) :: v.sls.map fun x => (x, 0, whole)))
          else none
        | none => none
    else none
  | _ => none
def loadOp (M : Mem) (agg : Bool) (n : Nat) (p : Cl) : Option (AV × Mem × FP) :=
  match p with
  | .ptr id g i k => match look M id g with
    | some b => match b.rows[i]? with
      | some row => match cut row k n with
        | some cs => (ofCells agg cs).map fun v => (.w v, M, .ld id k n)
        | none => none
      | none => none
    | none => none
  | .rptr row k => match cut row k n with
    | some cs => (ofCells agg cs).map fun v => (.w v, M, .no)
    | none => none
  | _ => none
def clearOp (M : Mem) (zero : List Cl) (x : Cl) : Option (AV × Mem × FP) :=
  match x with
  | .nilslice => some (.t [], M, .no)
  | .slice id g _ off len _ =>
    if len = 0 then some (.t [], M, .no) else
    match look M id g with
    | some b =>
      if !b.box && !b.fz && off + len ≤ b.rows.length && zero.length = b.esz && zero.all noIds then
        some (.t [], M.set id (some { b with rows := b.rows.take off ++ List.replicate len zero ++ b.rows.drop (off + len), ver := b.ver + 1 }), .wr [(id, 0, whole)])
      else none
    | none => none
  | _ => none
def pureW (x : Option Cl) (M : Mem) : Option (AV × Mem × FP) := x.map fun v => (.w (.c v), M, .no)
def newAt (M : Mem) (id : Nat) (b : Blk) : Option Mem :=
  match M[id]? with
  | some none => some (M.set id (some b))
  | _ => none
def bnds (len top : Nat) : Bool → Bool → List WV → Option (Nat × Nat)
  | false, false, [] => some (0, len)
  | true, false, [.c (.int _ n)] => (asBound n len).map (·, len)
  | false, true, [.c (.int _ n)] => (asBound n top).map (0, ·)
  | true, true, [.c (.int _ n), .c (.int _ m)] => match asBound m top with
    | some h => (asBound n h).map (·, h)
    | none => none
  | _, _, _ => none
def popF : PK → List WV → Option AV
  | .sslice lo hi, .c (.str s) :: xs => match bnds s.size s.size lo hi xs with
    | some (l, h) => some (.w (.c (.str (s.extract l h))))
    | none => none
  | .aslice n es lo hi, .c (.ptr id g i k) :: xs => match bnds n n lo hi xs with
    | some (l, h) => some (.w (.c (.bsl id g i (k + l * es) es (h - l) (n - l))))
    | none => none
  | .isnilf neg, [.c .nilfn] => some (.w (.c (.bool (!neg))))
  | .isnilf neg, [.c (.fn ..)] => some (.w (.c (.bool neg)))
  | .isnili neg, [.c .niliface] => some (.w (.c (.bool (!neg))))
  | .isnili neg, [.c (.iface ..)] => some (.w (.c (.bool neg)))
  | _, _ => none
def bytesC : List Cl → Option (List UInt8)
  | [] => some []
  | .int .u8 n :: r => (bytesC r).map (UInt8.ofNat n.toNat :: ·)
  | _ => none
def bslCells (M : Mem) (id g i k n : Nat) : Option (List Cl) := match look M id g with
  | some b => match b.rows[i]? with
    | some row => cut row k n
    | none => none
  | none => none
def findM (k : IntKind) (n : Int) : List (List Cl) → Nat → Option (Option (Nat × List Cl))
  | [], _ => some none
  | (_ :: .int k' m :: vs) :: r, i => if k' = k then (if n = m then some (some (i, vs)) else findM k n r (i + 1)) else none
  | _ :: _, _ => none
def mapAt (M : Mem) (id : Nat) : Option (Blk × Int × List (List Cl)) := match look M id 0 with
  | some b => match b.rows with
    | [.int .i64 c] :: r => some (b, c, r)
    | _ => none
  | none => none
def okW (g : Bool) : WV → Bool
  | .a _ => g
  | .c _ => !g
def mapSet (M : Mem) (id : Nat) (b : Blk) (rows : List (List Cl)) : Mem := M.set id (some { b with rows, ver := b.ver + 1 })
def intsOf : List Cl → Option (List Int)
  | [] => some []
  | .int .i64 n :: r => (intsOf r).map (n :: ·)
  | _ => none
def copyOp (M : Mem) (es : Nat) : List WV → Option (AV × Mem × FP)
  | [.c (.bsl id g i k es' len _), .c src] => if es' = es then match src with
    | .nilslice => some (.w (.c (.int .i64 0)), M, .no)
    | .bsl id2 g2 i2 k2 es2 len2 _ => if es2 = es then match bslCells M id2 g2 i2 k2 (min len2 len * es) with
      | some cs => if isBox M id g then (storeAt M id g i k cs).map fun M' => (.w (.c (.int .i64 ((min len2 len : Nat) : Int))), M', .wr [(id, 0, whole), (id2, 0, whole)]) else none
      | none => none
      else none
    | _ => none
    else none
  | _ => none
def tostrOp (M : Mem) : List WV → Option (AV × Mem × FP)
  | [.c (.bsl id g i k es len _)] => if es = 1 then match bslCells M id g i k len with
    | some cs => match bytesC cs with
      | some bs => some (.w (.c (.str ⟨bs.toArray⟩)), M, .no)
      | none => none
    | none => none
    else none
  | [.c x] => match elemsOf M 1 x with
    | some ys => match bytesC (ys.map fun r => r.headD .nilptr) with
      | some bs => some (.w (.c (.str ⟨bs.toArray⟩)), M, .no)
      | none => none
    | none => none
  | _ => none
def mapGet (M : Mem) (ok g : Bool) (z : WV) : List WV → Option (AV × Mem × FP)
  | [.c m, .c (.int k n)] => match m with
    | .nilmap => some (if ok then .t [z, .c (.bool false)] else .w z, M, .no)
    | .map id g' => if g' = g then match mapAt M id with
      | some (_, _, r) => match findM k n r 0 with
        | some (some (_, vs)) => match ofCells g vs with
          | some v => some (if ok then .t [v, .c (.bool true)] else .w v, M, .no)
          | none => none
        | some none => some (if ok then .t [z, .c (.bool false)] else .w z, M, .no)
        | none => none
      | none => none else none
    | _ => none
  | _ => none
def mapPut (M : Mem) (g : Bool) : List WV → Option (AV × Mem × FP)
  | [.c (.map id g'), .c (.int k n), v] => if g' = g ∧ okW g v = true then match mapAt M id with
      | some (b, c, r) => match findM k n r 0 with
        | some (some (i, _)) => some (.u, mapSet M id b ([.int .i64 c] :: r.modify i fun row => row.take 1 ++ .int k n :: v.cells), .wr [(id, 0, whole)])
        | some none => some (.u, mapSet M id b ([.int .i64 (c + 1)] :: (r ++ [.int .i64 c :: .int k n :: v.cells])), .wr [(id, 0, whole)])
        | none => none
      | none => none else none
  | _ => none
def mapPutZ (M : Mem) (g : Bool) : List WV → Option (AV × Mem × FP)
  | [m, k, v] => match frzW M v with
    | some v' => match mapPut (markAll M v.sls) g [m, k, v'] with
      | some (a, M', .wr l) => some (a, M', .wr (v.sls.map (fun x => (x, 0, whole)) ++ l))
      | _ => none
    | none => none
  | _ => none
def mapDel (M : Mem)  : List WV → Option (AV × Mem × FP)
  | [.c m, .c (.int k n)] => match m with
    | .nilmap => some (.t [], M, .no)
    | .map id _ => match mapAt M id with
      | some (b, c, r) => match findM k n r 0 with
        | some (some (i, _)) => some (.t [], mapSet M id b ([.int .i64 c] :: r.eraseIdx i), .wr [(id, 0, whole)])
        | some none => some (.t [], M, .no)
        | none => none
      | none => none
    | _ => none
  | _ => none
def mapLen (M : Mem)  : List WV → Option (AV × Mem × FP)
  | [.c m] => match m with
    | .nilmap => some (.w (.c (.int .i64 0)), M, .no)
    | .map id _ => match mapAt M id with
      | some (_, _, r) => some (.w (.c (.int .i64 r.length)), M, .no)
      | none => none
    | _ => none
  | _ => none
def mapNext (M : Mem)  : List WV → Option (AV × Mem × FP)
  | [.c (.mit it)] => match look M it 0 with
    | some b => match b.rows with
      | [[.nilmap]] => some (.t [.c (.bool false)], M, .no)
      | [.map id g :: .int .i64 since :: seen] => match mapAt M id, intsOf seen with
        | some (_, c, r), some seen => match seen, r with
          | [], [] => some (.t [.c (.bool false)], M, .no)
          | [], [.int .i64 born :: k :: vs] => if born < since then match ofCells g vs with
            | some v => some (.t [.c (.bool true), .c k, v], M.set it (some { b with rows := [[.map id g, .int .i64 since, .int .i64 born, .int .i64 c]], ver := b.ver + 1 }), .wr [(it, 0, whole)])
            | none => none
            else none
          | [_, _], [] => some (.t [.c (.bool false)], M, .no)
          | [s, last], [.int .i64 born :: _] => if born = s ∧ born < last then some (.t [.c (.bool false)], M, .no) else none
          | _, _ => none
        | _, _ => none
      | _ => none
    | none => none
  | _ => none
def mapEntry (M : Mem)  : List WV → Option (AV × Mem × FP)
  | [.c (.mit it)] => match look M it 0 with
    | some b => match b.rows with
      | [[.map id g, .int .i64 _, .int .i64 s, .int .i64 last]] => match mapAt M id with
        | some (_, c, [.int .i64 born :: k :: vs]) => if born = s ∧ c = last then match ofCells g vs with
          | some v => some (.t [.c k, v], M, .no)
          | none => none
          else none
        | _ => none
      | _ => none
    | none => none
  | _ => none
def markSOp (M : Mem) : List WV → Option (AV × Mem × FP)
  | [.c (.slice id g es off len cap)] => match look M id g with
    | some b => if b.box = false ∧ 0 < len then some (.w (.c (.slice id g es off len cap)), M.set id (some { b with fz := true, ver := b.ver + 1 }), .wr [(id, 0, whole)]) else none
    | none => none
  | _ => none
def peqOp (M : Mem) : List WV → Option (AV × Mem × FP)
  | [.c (.ptr id g i k), .c (.ptr id' g' i' k')] => match look M id g, look M id' g' with
    | some b, some b' => if id ≠ id' ∧ b.fz = false ∧ b'.fz = false then some (.w (.c (.bool false)), M, .no) else none
    | _, _ => none
  | _ => none
def mopF (M : Mem) : MK → List WV → Option (AV × Mem × FP)
  | .copy es, xs => copyOp M es xs
  | .tostr, xs => tostrOp M xs
  | .mark, xs => markSOp M xs
  | .peq, xs => peqOp M xs
  | .get ok g z, xs => mapGet M ok g z xs
  | .set g, xs => mapPutZ M g xs
  | .del, xs => mapDel M xs
  | .len, xs => mapLen M xs
  | .next, xs => mapNext M xs
  | .entry, xs => mapEntry M xs
def mlayF (M : Mem) (id : Nat) : ML → List WV → Option (AV × Mem × FP)
  | .mk g, [] => (newAt M id { box := true, esz := 1, rows := [[.int .i64 0]], gen := 0, fz := false, ver := 0 }).map fun M' => (.w (.c (.map id g)), M', .no)
  | .range, [.c .nilmap] => (newAt M id { box := true, esz := 1, rows := [[.nilmap]], gen := 0, fz := false, ver := 0 }).map fun M' => (.w (.c (.mit id)), M', .bad)
  | .range, [.c (.map m g)] => match mapAt M m with
    | some (_, c, _) => (newAt M id { box := true, esz := 1, rows := [[.map m g, .int .i64 c]], gen := 0, fz := false, ver := 0 }).map fun M' => (.w (.c (.mit id)), M', .bad)
    | none => none
  | .litf, xs => if xs.all (okW false) = true ∧ 0 < xs.length then
      (newAt M id { box := true, esz := 1, rows := xs.map WV.cells, gen := xs.length, fz := false, ver := xs.length }).map fun M' => (.w (.c (.slice id xs.length 1 0 xs.length none)), M', .no)
    else none
  | .litz n, [] => (newAt M id { box := false, esz := 1, rows := [[.int .i64 n]], gen := 1, fz := true, ver := 2 }).map fun M' => (.w (.c (.rslice [[.int .i64 n]])), M', .no)
  | _, _ => none
def opF (cf : CallF) (n0 : Nat) (E : Nat → Option AV) (M : Mem) : CO → Option (AV × Mem × FP)
  | .mv x => match x.av E with
    | some v => some (v, M, .no)
    | none => none
  | .pick c a b => match c.ev E with
    | some (.c (.bool t)) => match (if t then a else b).ev E with
      | some v => some (.w v, M, .no)
      | none => none
    | _ => none
  | .newsl q esz => (newAt M (n0 + q) { box := false, esz, rows := [], gen := 0, fz := false, ver := 0 }).map fun M' => (.w (.c (.slice (n0 + q) 0 esz 0 0 none)), M', .no)
  | .box q n x => match x.ev E with
    | some v => if v.cells.length = n && 0 < n then
        (newAt M (n0 + q) { box := true, esz := n, rows := [v.cells], gen := 0, fz := false, ver := 0 }).map fun M' => (.w (.c (.ptr (n0 + q) 0 0 0)), M', .no)
      else none
    | none => none
  | .build zero parts => (fillParts E zero parts).map fun cs => (.w (.a cs), M, .no)
  | .lit q esz zero parts => match fillRows E M esz zero parts with
    | some rows => if 0 < esz then
        (newAt (markAll M (partsSls E parts)) (n0 + q) { box := false, esz, rows, gen := rows.length, fz := false, ver := rows.length }).map fun M' =>
          (.w (.c (.slice (n0 + q) rows.length esz 0 rows.length none)), M', if (partsSls E parts).isEmpty then .no else .mk (partsSls E parts))
      else none
    | none => none
  | .load agg n p => match p.ev E with
    | some (.c x) => loadOp M agg n x
    | _ => none
  | .store n p v => match p.ev E, v.ev E with
    | some (.c x), some v => storeOp M n x v
    | _, _ => none
  | .nilck x => match x.ev E with
    | some (.c (.ptr id g i k)) => some (.w (.c (.ptr id g i k)), M, .no)
    | some (.c (.rptr r k)) => some (.w (.c (.rptr r k)), M, .no)
    | some (.c (.fn f fi ca)) => some (.w (.c (.fn f fi ca)), M, .no)
    | _ => none
  | .bin op x y => match x.ev E, y.ev E with
    | some (.c a), some (.c b) => pureW (binC op a b) M
    | _, _ => none
  | .eqb neg x y => match x.ev E, y.ev E with
    | some (.c a), some (.c b) => pureW (eqbC neg a b) M
    | _, _ => none
  | .isnil neg x => match x.ev E with
    | some (.c a) => pureW (nilC neg a) M
    | _ => none
  | .bad => none
  | .eqa neg sh x y => match x.ev E, y.ev E with
    | some (.a as), some (.a bs) => if as.length = sh.length ∧ bs.length = sh.length then pureW ((eqCells sh as bs).map fun r => .bool (if neg then !r else r)) M else none
    | _, _ => none
  | .un op x => match x.ev E with
    | some (.c a) => pureW (unC op a) M
    | _ => none
  | .conv k x => match x.ev E with
    | some (.c (.int _ n)) => some (.w (.c (.int k (k.wrap n))), M, .no)
    | _ => none
  | .mkfn f fi ca => match evs E fi, evs E ca with
    | some a, some b =>
      if a.all (fun | .c _ => true | .a _ => false) && b.all (fun | .c _ => true | .a _ => false) then
        some (.w (.c (.fn f (a.flatMap WV.cells) (b.flatMap WV.cells))), M, .no)
      else none
    | _, _ => none
  | .mkslice q esz bytes zero l c => match l.ev E, c.ev E with
    | some (.c (.int _ l)), some (.c (.int _ c)) =>
      if 0 ≤ l ∧ l = c ∧ roomy l.toNat bytes = true ∧ zero.length = esz ∧ 0 < esz ∧ zero.all noIds = true then
        (newAt M (n0 + q) { box := false, esz, rows := List.replicate l.toNat zero, gen := l.toNat, fz := false, ver := l.toNat }).map fun M' =>
          (.w (.c (.slice (n0 + q) l.toNat esz 0 l.toNat none)), M', .no)
      else none
    | _, _ => none
  | .slice es x lo hi mx => match x.ev E with
    | some (.c c) => pureW (sliceC E es c lo hi mx) M
    | _ => none
  | .faddr off p => match p.ev E with
    | some (.c c) => pureW (faddrC off c) M
    | _ => none
  | .field agg off n x => match x.ev E with
    | some (.a cs) => match cut cs off n with
      | some cs' => (ofCells agg cs').map fun v => (.w v, M, .no)
      | none => none
    | _ => none
  | .iaddr esz x i => match x.ev E, i.ev E with
    | some (.c a), some (.c b) => pureW (iaddrC esz a b) M
    | _, _ => none
  | .aaddr len esz x i => match x.ev E, i.ev E with
    | some (.c a), some (.c b) => pureW (aaddrC len esz a b) M
    | _, _ => none
  | .aidx agg len esz x i => match x.ev E, i.ev E with
    | some (.a cs), some (.c (.int _ n)) => match asIdx n len with
      | some j => match cut cs (j * esz) esz with
        | some cs' => (ofCells agg cs').map fun v => (.w v, M, .no)
        | none => none
      | none => none
    | _, _ => none
  | .extract t i => match E t with
    | some (.t xs) => match xs[i]? with
      | some v => some (.w v, M, .no)
      | none => none
    | _ => none
  | .len x => match x.ev E with
    | some (.c (.slice _ _ _ _ len _)) => some (.w (.c (.int .i64 len)), M, .no)
    | some (.c (.rslice rows)) => some (.w (.c (.int .i64 rows.length)), M, .no)
    | some (.c .nilslice) => some (.w (.c (.int .i64 0)), M, .no)
    | some (.c (.bsl _ _ _ _ _ len _)) => some (.w (.c (.int .i64 len)), M, .no)
    | _ => none
  | .slen x => match x.ev E with
    | some (.c (.str s)) => some (.w (.c (.int .i64 s.size)), M, .no)
    | _ => none
  | .minmax mx xs => match evs E xs with
    | some (.c (.int k a) :: r) => pureW (foldMM mx a k r) M
    | _ => none
  | .append esz bytes s x => match s.ev E, x.ev E with
    | some (.c a), some (.c b) => appendOp M esz bytes a b
    | _, _ => none
  | .clear zero x => match x.ev E with
    | some (.c a) => clearOp M zero a
    | _ => none
  | .call m f args => match f.ev E, evs E args with
    | some fv, some as => callOp cf m fv as M
    | _, _ => none
  | .p1 k x => match x.ev E with
    | some v => match p1F k v with
      | some r => some (r, M, .no)
      | none => none
    | none => none
  | .p2 k x y => match x.ev E, y.ev E with
    | some v, some u => match p2F k v u with
      | some r => some (r, M, .no)
      | none => none
    | _, _ => none
  | .pop k xs => match evs E xs with
    | some vs => match popF k vs with
      | some r => some (r, M, .no)
      | none => none
    | none => none
  | .mop k xs => match evs E xs with
    | some vs => mopF M k vs
    | none => none
  | .mlay k q xs => match evs E xs with
    | some vs => mlayF M (n0 + q) k vs
    | none => none
def wantedF (E : Nat → Option AV) (g : Nat × Bool) : Option Bool :=
  match E g.1 with
  | some (.w (.c (.bool b))) => some (b == g.2)
  | some .u => some false
  | _ => none
def stepF (cf : CallF) (n0 : Nat) (o : COper) (E : Nat → Option AV) (M : Mem) : Option (AV × Mem × FP) :=
  match o.guard with
  | none => opF cf n0 E M o.op
  | some g => match wantedF E g with
    | some true => opF cf n0 E M o.op
    | some false => some (.u, M, .no)
    | none => none
def Env.put (E : Env) (dst : Option Nat) (v : AV) : Env := match dst with
  | some d => (d, v) :: E
  | none => E
def opsF (cf : CallF) (n0 : Nat) : List COper → Env → Mem → Option (Env × Mem × List FP)
  | [], E, M => some (E, M, [])
  | o :: os, E, M => match stepF cf n0 o E.get M with
    | some (v, M', fp) => match opsF cf n0 os (E.put o.dst v) M' with
      | some (E2, M2, fs) => some (E2, M2, fp :: fs)
      | none => none
    | none => none
def prOk (base : Nat) (fs : List FP) (p : Nat × Nat) : Bool := match fs[p.1]?, fs[p.2]? with
  | some a, some b => a.apart b && b.old base
  | _, _ => false
inductive EX where
  | normal
  | exit (id : Nat)
  | ret
  deriving Inhabited, DecidableEq
def holes (n : Nat) : Mem := List.replicate n none
def Env.kept (E : Env) : Option (List Nat) → Env
  | none => E
  | some l => E.keep l
def drop0 (n : Nat) (E : Env) (M : Mem) : Mem :=
  if M.length ≤ n then M else
  if E.all (fun x => x.2.below n) && memBelow n (M.take n) then M.take n else M
def canon (n : Nat) (live : Option (List Nat)) (E : Env) (M : Mem) : Env × Mem :=
  match live with
  | none => (E, M)
  | some l => let E' := E.keep l; (E', drop0 n E' M)
def iter (body : Env → Mem → Option (EX × Env × Mem)) (live : Option (List Nat)) (n0 : Nat) : Nat → Env → Mem → Option (EX × Env × Mem)
  | 0, _, _ => none
  | n + 1, E, M => match body E M with
    | some (.normal, E', M') => let s := canon n0 live E' M'; iter body live n0 n s.1 s.2
    | r => r
def capOf (E : Env) : List Nat → List (Nat × Bool × Nat) × List Cl
  | [] => ([], [])
  | n :: ns => match E.get n with
    | some (.w (.c x)) => ((n, false, 1) :: (capOf E ns).1, x :: (capOf E ns).2)
    | some (.w (.a cs)) => ((n, true, cs.length) :: (capOf E ns).1, cs ++ (capOf E ns).2)
    | _ => capOf E ns
def unshape : List (Nat × Bool × Nat) → List Cl → Option Env
  | [], _ => some []
  | (n, g, k) :: sh, cs => match ofCells g (cs.take k), unshape sh (cs.drop k) with
    | some v, some E => some ((n, .w v) :: E)
    | _, _ => none
def jumpOf (s : Int) : Option EX := if s = 0 then some .normal else if s = 2 then some .ret else if 3 ≤ s then some (.exit (s - 3).toNat) else none
def stOf : EX → Int
  | .normal => 0
  | .ret => 2
  | .exit id => 3 + id
def ghost (cells : List Cl) : Blk := { box := true, esz := 1 + cells.length, rows := [.int .i64 0 :: cells], gen := 0, fz := false, ver := 0 }
def setSt (M : Mem) (id : Nat) (s s' : Int) : Option Mem := match look M id 0 with
  | some b => match b.rows with
    | [.int .i64 t :: cells] => if t = s then some (M.set id (some { b with rows := [.int .i64 s' :: cells], ver := b.ver + 1 })) else none
    | _ => none
  | none => none
def stAt (M : Mem) (id : Nat) : Option Int := match look M id 0 with
  | some b => match b.rows with
    | [.int .i64 t :: _] => some t
    | _ => none
  | none => none
def capsAt (M : Mem) (id : Nat) : Option (List Cl) := match look M id 0 with
  | some b => match b.rows with
    | [.int .i64 _ :: cells] => some cells
    | _ => none
  | none => none
def execC (cf : CallF) (n : Nat) : CC → Env → Mem → Option (EX × Env × Mem)
  | .skip, E, M => some (.normal, E, M)
  | .region nA ops prs keep, E, M => match opsF cf M.length ops E (M ++ holes nA) with
    | some (E', M', fs) => if prs.all (prOk (M.length + nA) fs) then some (.normal, E'.kept keep, M') else none
    | none => none
  | .seq a b, E, M => match execC cf n a E M with
    | some (.normal, E', M') => execC cf n b E' M'
    | r => r
  | .cond c a b, E, M => match c.ev E.get with
    | some (.c (.bool t)) => if t then execC cf n a E M else execC cf n b E M
    | _ => none
  | .block id b, E, M => match execC cf n b E M with
    | some (.exit id', E', M') => if id' = id then some (.normal, E', M') else some (.exit id', E', M')
    | r => r
  | .loop live b, E, M => let s := canon M.length live E M; iter (execC cf n b) live M.length n s.1 s.2
  | .exit id, E, M => some (.exit id, E, M)
  | .ret, E, M => some (.ret, E, M)
  | .rng f vf caps, E, M => match f.ev E.get with
    | some (.c (.fn g fi ca)) => match callOp cf ⟨true⟩ (.c (.fn g fi ca)) [.c (.yld M.length vf (capOf E caps).1)] (M ++ [some (ghost (capOf E caps).2)]) with
      | some (_, M', _) => match stAt M' M.length with
        | some s => match jumpOf s, setSt M' M.length s (-1) with
          | some ex, some M2 => some (ex, E, M2)
          | _, _ => none
        | none => none
      | none => none
    | _ => none
def resOne (E : Env) (M : Mem) : RC → Option WV
  | .slot n => match E.get n with
    | some (.w v) => some v
    | _ => none
  | .cell n agg size => match E.get n with
    | some (.w (.c p)) => match loadOp M agg size p with
      | some (.w v, _, _) => some v
      | _ => none
    | _ => none
def resAll (E : Env) (M : Mem) : List RC → Option (List WV)
  | [] => some []
  | r :: rs => match resOne E M r, resAll E M rs with
    | some v, some vs => some (v :: vs)
    | _, _ => none
def resOf (E : Env) (M : Mem) (l : List RC) : Option AV :=
  match resAll E M l with
  | some [v] => some (.w v)
  | some vs => some (.t vs)
  | none => none
def args0 : Nat → List WV → Env
  | _, [] => []
  | i, v :: vs => (i, .w v) :: args0 (i + 1) vs
def leave (frz : Bool) (k : Nat) (r : AV) (M : Mem) : Option (AV × Mem) :=
  if frz then match frzA M r with
    | some r' => finish k r' (markAll M r.sls)
    | none => none
  else finish k r M
def zipE : List Nat → List WV → Env
  | p :: ps, v :: vs => (p, .w v) :: zipE ps vs
  | _, _ => []
def roundF (cf : CallF) (n : Nat) (f : FuncId) (ps : List Nat) (pre code : CC) (args : List WV) (M : Mem) : Option (AV × Mem) :=
  match args with
  | .c (.yld id g sh) :: as =>
    if g = f ∧ as.length = ps.length ∧ stAt M id = some 0 then
      match capsAt M id with
      | some cells => match unshape sh cells with
        | some E0 => match execC cf n pre (zipE ps as ++ E0) M with
          | some (.normal, E1, M1) => match setSt M1 id 0 1 with
            | some M2 => match execC cf n code E1 M2 with
              | some (ex, _, M3) => match setSt M3 id 1 (stOf ex) with
                | some M4 => finish M.length (.w (.c (.bool (ex == .normal)))) M4
                | none => none
              | none => none
            | none => none
          | _ => none
        | none => none
      | none => none
    else none
  | _ => none
def callF (T : FuncId → Option CFn) (X : CallF) : Nat → CallF
  | 0, _, _, _ => none
  | n + 1, f, args, M => match T f with
    | none => X f args M
    | some fn =>
      match fn.rnd with
      | some (ps, pre) => roundF (callF T X n) n f ps pre fn.code args M
      | none =>
      if args.length = fn.nargs then
        match execC (callF T X n) n fn.code (args0 0 args) M with
        | some (.normal, E, M') | some (.ret, E, M') => match resOf E M' fn.res with
          | some r => leave fn.frz M.length r M'
          | none => none
        | _ => none
      else none
end Go.Eng
namespace Go.Eng
open Go
def clOf : Value → Option Cl
  | .bool b => some (.bool b)
  | .int k n => some (.int k n)
  | .string s => some (.str s)
  | .pointer none => some .nilptr
  | .slice none 0 0 => some .nilslice
  | .nilFunc => some .nilfn
  | .nilIface => some .niliface
  | .map none => some .nilmap
  | _ => none
def clsOf : List Value → Option (List Cl)
  | [] => some []
  | v :: vs => match clOf v, clsOf vs with
    | some c, some cs => some (c :: cs)
    | _, _ => none
def wvOf : Value → Option WV
  | .agg cs => (clsOf cs.toList).map .a
  | v => (clOf v).map .c
class GlobP where
  row : Nat → Option (List Cl)
variable [GlobP]
def opdOf : Operand → Option Opd
  | .tmp t => some (.s t)
  | .const v => (wvOf v).map .k
  | .global g => (GlobP.row g).map fun r => .k (.c (.rptr r 0))
  | .func f => some (.k (.c (.fn f [] [])))
def opdsOf : List Operand → Option (List Opd)
  | [] => some []
  | v :: vs => match opdOf v, opdsOf vs with
    | some c, some cs => some (c :: cs)
    | _, _ => none
def opdOpt : Option Operand → Option (Option Opd)
  | none => some none
  | some x => (opdOf x).map some
def isAggT (P : Program) (t : TypeId) : Option Bool :=
  match P.underlying t with
  | some (.struct _) | some (.array _ _) => some true
  | some _ => some false
  | none => none
def sizeT (P : Program) (t : TypeId) : Option Nat := (P.info? t).map (·.size)
def bytesT (P : Program) (t : TypeId) : Option Nat := (P.info? t).map (·.bytes)
def zeroT (P : Program) (t : TypeId) : Option (List Cl) :=
  match P.info? t with
  | some i => match i.zero with
    | some z => clsOf z.cells.toList
    | none => none
  | none => none
def zeroW (P : Program) (t : TypeId) : Option WV :=
  match P.info? t with
  | some i => match i.zero with
    | some z => wvOf z
    | none => none
  | none => none
def placesT (P : Program) : List Field → Option (List (Nat × Nat))
  | [] => some []
  | f :: fs => match sizeT P f.type, placesT P fs with
    | some n, some l => some ((f.offset, n) :: l)
    | _, _ => none
def partsAt (place : Nat → Option (Nat × Nat)) : List (Nat × Operand) → Option (List (Nat × Nat × Opd))
  | [] => some []
  | (i, o) :: r => match place i, opdOf o, partsAt place r with
    | some p, some x, some l => some ((p.1, p.2, x) :: l)
    | _, _, _ => none
def sliceParts : List (Nat × Operand) → Option (List (Nat × Opd))
  | [] => some []
  | (i, o) :: r => match opdOf o, sliceParts r with
    | some x, some l => some ((i, x) :: l)
    | _, _ => none
def flatFs (flat : TypeId → Option (List Bool)) : List Field → Nat → Option (List Bool)
  | [], _ => some []
  | f :: fs, off => match flat f.type with
    | some sh => if f.name != "_" && f.offset = off then (flatFs flat fs (off + sh.length)).map (sh ++ ·) else none
    | none => none
def flatT (P : Program) : Nat → TypeId → Option (List Bool)
  | 0, _ => none
  | d + 1, t => match P.underlying t with
    | some (.int _) => some [false]
    | some .bool => some [true]
    | some (.struct fs) => if P.stoodInHeld t then none else
      match flatFs (flatT P d) fs.toList 0 with
      | some sh => if sizeT P t = some sh.length ∧ 0 < sh.length then some sh else none
      | none => none
    | _ => none
def isNilConst : Operand → Bool
  | .const (.pointer none) => true
  | _ => false
def isNilIf : Operand → Bool
  | .const .nilIface => true
  | _ => false
def isNilSl : Operand → Bool
  | .const (.slice none 0 0) => true
  | _ => false
def mapT (P : Program) (t : TypeId) : Option Bool := match P.underlying t with
  | some (.map kt e) => match P.underlying kt with
    | some (.int _) => isAggT P e
    | _ => none
  | _ => none
def mapZ (P : Program) (t : TypeId) : Option WV := match P.underlying t with
  | some (.map _ e) => zeroW P e
  | _ => none
def isByteSl (P : Program) (t : TypeId) : Bool := match P.underlying t with
  | some (.slice e) => (match P.underlying e with
    | some (.int .u8) => true
    | _ => false)
  | _ => false
def isRefT (P : Program) (t : TypeId) : Bool := match P.underlying t with
  | some (.func ..) => true
  | some (.pointer _) => true
  | _ => false
def isNilFn : Operand → Bool
  | .const .nilFunc => true
  | _ => false
def cSl (P : Program) (q : Nat) (t : TypeId) (len : Nat) (parts : Array (Nat × Operand)) : Option CO :=
  match P.underlying t with
    | some (.slice e) => if isRefT P e = true then (if parts.toList.map (·.1) = List.range len ∧ sizeT P e = some 1 ∧ len ≤ 1000 ∧ (zeroT P e).isSome = true then (opdsOf (parts.toList.map (·.2))).map (.mlay .litf q) else none) else
      match sizeT P e, zeroT P e, sliceParts parts.toList with
      | some n, some z, some ps => if len * n ≤ 16777216 ∧ z.length = n ∧ z.all noIds then some (.lit q n (List.replicate len z) ps) else none
      | _, _, _ => none
    | _ => none
def litZ (m : CMode) (r : Option CO) : Option CO := match m.fa, r with
  | false, some (.lit q 1 [[_]] [(0, .k (.c (.int .i64 n)))]) => some (.mlay (.litz n) q [])
  | _, r => r
def compileOp (P : Program) (q : Nat) (m : CMode) (o : Oper) : Option CO :=
  match o.op with
  | .move x | .assign x => if isNilSl x then match P.underlying o.type with
      | some (.slice e) => (sizeT P e).map (.newsl q)
      | _ => (opdOf x).map .mv
    else (opdOf x).map .mv
  | .pick c a b => match opdOf c, opdOf a, opdOf b with
    | some c, some a, some b => some (.pick c a b)
    | _, _, _ => none
  | .alloc t => match zeroT P t with
    | some zs => some (.box q zs.length (.k (.a zs)))
    | none => none
  | .box t x => match opdOf x, sizeT P t with
    | some x, some n => some (.box q n x)
    | _, _ => none
  | .build t parts => match P.underlying t, zeroT P t with
    | some (.struct fs), some z => match placesT P fs.toList with
      | some ps => (partsAt (ps[·]?) parts.toList).map (.build z)
      | none => none
    | some (.array _ e), some z => match sizeT P e with
      | some n => (partsAt (fun i => some (i * n, n)) parts.toList).map (.build z)
      | none => none
    | _, _ => none
  | .buildSlice t len parts => litZ m (cSl P q t len parts)
  | .load t a => match opdOf a, isAggT P t, sizeT P t with
    | some a, some g, some n => some (.load g (if g then n else 1) a)
    | _, _, _ => none
  | .store t a v => match opdOf a, opdOf v, sizeT P t with
    | some a, some v, some n => some (.store n a v)
    | _, _, _ => none
  | .nilCheck x => (opdOf x).map .nilck
  | .binOp op t x y _ => match opdOf x, opdOf y with
    | some x', some y' => match P.underlying t with
      | some (.int _) => some (.bin op x' y')
      | some .bool => (match op with
        | .eql => some (.eqb false x' y')
        | .neq => some (.eqb true x' y')
        | _ => none)
      | some .string => some (.p2 (.str op) x' y')
      | some (.pointer e) => if isNilConst y then (match op with
        | .eql => some (.isnil false x')
        | .neq => some (.isnil true x')
        | _ => none) else (match op, sizeT P e with
        | .eql, some (_ + 1) => some (.mop .peq [x', y'])
        | _, _ => none)
      | some (.struct _) => match flatT P 10000 t with
        | some sh => if P.eqGuardType P.depth t then none else (match op with
          | .eql => some (.eqa false sh x' y')
          | .neq => some (.eqa true sh x' y')
          | _ => none)
        | none => none
      | some (.interface _) => if isNilIf y then (match op with
        | .eql => some (.pop (.isnili false) [x'])
        | .neq => some (.pop (.isnili true) [x'])
        | _ => none) else none
      | some (.func ..) => if isNilFn y then (match op with
        | .eql => some (.pop (.isnilf false) [x'])
        | .neq => some (.pop (.isnilf true) [x'])
        | _ => none) else none
      | _ => none
    | _, _ => none
  | .unOp op _ x => (opdOf x).map (.un op)
  | .makeInterface t x => match P.underlying t, opdOf x with
    | some (.interface _), _ => none
    | some _, some x => some (.p1 (.mkif t) x)
    | _, _ => none
  | .typeAssert x _ t ok => match P.underlying t, zeroW P t, opdOf x with
    | some (.interface _), _, _ => none
    | some _, some z, some x => some (.p1 (.tass ok t z) x)
    | _, _, _ => none
  | .convert s d x => match P.underlying s, P.underlying d, opdOf x with
    | some (.int _), some (.int k), some x => some (.conv k x)
    | some (.slice _), some .string, some x => if isByteSl P s then some (.mop .tostr [x]) else none
    | some (.slice _), some (.slice _), some x => if (s == d && isByteSl P d) = true then some (.mop .mark [x]) else none
    | _, _, _ => none
  | .makeFunc (.func f) fi ca => match opdsOf fi.toList, opdsOf ca.toList with
    | some a, some b => some (.mkfn f a b)
    | _, _ => none
  | .makeSlice t l c => match P.underlying t with
    | some (.slice e) => match sizeT P e, bytesT P e, zeroT P e, opdOf l, opdOf c with
      | some n, some b, some z, some l, some c => if 0 < b then some (.mkslice q n b z l c) else none
      | _, _, _, _, _ => none
    | _ => none
  | .slice t x lo hi mx => match P.underlying t with
    | some (.slice e) => match sizeT P e, opdOf x, opdOpt lo, opdOpt hi, opdOpt mx with
      | some n, some x, some lo, some hi, some mx => some (.slice n x lo hi mx)
      | _, _, _, _, _ => none
    | some .string => match mx, opdsOf (x :: (lo.toList ++ hi.toList)) with
      | none, some xs => some (.pop (.sslice lo.isSome hi.isSome) xs)
      | _, _ => none
    | some (.array n e) => match mx, opdsOf (x :: (lo.toList ++ hi.toList)) with
      | none, some xs => (sizeT P e).map fun es => .pop (.aslice n es lo.isSome hi.isSome) xs
      | _, _ => none
    | _ => none
  | .fieldAddr t x f => match P.underlying t, opdOf x with
    | some (.struct fs), some x => match fs[f]? with
      | some fd => match sizeT P fd.type with
        | some n => if n = 0 then none else some (.faddr fd.offset x)
        | none => none
      | none => none
    | _, _ => none
  | .field t x f => match P.underlying t, opdOf x with
    | some (.struct fs), some x => match fs[f]? with
      | some fd => match sizeT P fd.type, isAggT P fd.type with
        | some n, some g => some (.field g fd.offset (if g then n else 1) x)
        | _, _ => none
      | none => none
    | _, _ => none
  | .indexAddr t x i => match P.underlying t, opdOf x, opdOf i with
    | some (.slice e), some x, some i => match sizeT P e with
      | some n => some (.iaddr n x i)
      | none => none
    | some (.array len e), some x, some i => match sizeT P e with
      | some n => some (.aaddr len n x i)
      | none => none
    | _, _, _ => none
  | .index t x i => match P.underlying t, opdOf x, opdOf i with
    | some (.array len e), some x, some i => match sizeT P e, isAggT P e with
      | some n, some g => if g || n = 1 then some (.aidx g len n x i) else none
      | _, _ => none
    | some .string, some x, some i => some (.p2 .sidx x i)
    | _, _, _ => none
  | .extract t i => match t with
    | .tmp t => some (.extract t i)
    | _ => none
  | .call c => match c.callee with
    | .value f => match opdOf f, opdsOf c.args.toList with
      | some f, some as => some (.call m f as)
      | _, _ => none
    | .builtin .len => match c.argTypes.toList, c.args.toList with
      | [t], [x] => match P.underlying t, opdOf x with
        | some (.slice _), some x => some (.len x)
        | some .string, some x => some (.slen x)
        | some (.map ..), some x => some (.mop .len [x])
        | _, _ => none
      | _, _ => none
    | .builtin .delete => match c.argTypes.toList, opdsOf c.args.toList with
      | [t, _], some [m, k] => (mapT P t).map fun _ => .mop .del [m, k]
      | _, _ => none
    | .builtin .copy => match c.argTypes.toList, opdsOf c.args.toList with
      | [t, u], some [d, s] => match P.underlying t, P.underlying u with
        | some (.slice e), some (.slice _) => (sizeT P e).map fun n => .mop (.copy n) [d, s]
        | _, _ => none
      | _, _ => none
    | .builtin .max => (opdsOf c.args.toList).map (.minmax true)
    | .builtin .min => (opdsOf c.args.toList).map (.minmax false)
    | .builtin .append => match c.argTypes.toList, c.args.toList with
      | [t, u], [s, x] => match P.underlying t, P.underlying u with
        | some (.slice e), some (.slice _) => match sizeT P e, bytesT P e, zeroT P e, opdOf s, opdOf x with
          | some n, some b, some z, some s, some x => if 0 < b ∧ z.length = n then some (.append n b s x) else none
          | _, _, _, _, _ => none
        | _, _ => none
      | _, _ => none
    | .builtin .clear => match c.argTypes.toList, c.args.toList with
      | [t], [x] => match P.underlying t with
        | some (.slice e) => match zeroT P e, opdOf x with
          | some z, some x => some (.clear z x)
          | _, _ => none
        | _ => none
      | _, _ => none
    | _ => none
  | .makeMap t none => (mapT P t).map fun g => .mlay (.mk g) q []
  | .lookup t x i ok => match mapT P t, mapZ P t, opdsOf [x, i] with
    | some g, some z, some xs => if okW g z then some (.mop (.get ok g z) xs) else none
    | _, _, _ => none
  | .mapUpdate t m k v | .insert t m k v => match mapT P t, opdsOf [m, k, v] with
    | some g, some xs => some (.mop (.set g) xs)
    | _, _ => none
  | .range t x => match mapT P t, opdsOf [x] with
    | some _, some xs => some (.mlay .range q xs)
    | _, _ => none
  | .next it false => (opdsOf [it]).map (.mop .next)
  | .entry it => (opdsOf [it]).map (.mop .entry)
  | _ => none
inductive Cls where
  | pure | alloc | load | heavy
  deriving DecidableEq, Inhabited
def CO.cls : CO → Cls
  | .box .. | .lit .. | .mkslice .. | .newsl .. | .mlay .. => .alloc
  | .load .. => .load
  | .store .. | .append .. | .clear .. | .call .. | .mop .. | .bad => .heavy
  | _ => .pure
def Opd.slots : Opd → List Nat
  | .s n => [n]
  | .k _ => []
def CO.slots : CO → List Nat
  | .bad | .newsl _ _ => []
  | .mv x | .box _ _ x | .load _ _ x | .isnil _ x | .nilck x | .un _ x | .conv _ x | .faddr _ x | .field _ _ _ x | .len x | .slen x | .clear _ x => x.slots
  | .pick c a b => c.slots ++ a.slots ++ b.slots
  | .build _ ps => ps.flatMap fun p => p.2.2.slots
  | .lit _ _ _ ps => ps.flatMap fun p => p.2.slots
  | .store _ a b | .bin _ a b | .eqb _ a b | .eqa _ _ a b | .mkslice _ _ _ _ a b | .iaddr _ a b | .aaddr _ _ a b | .aidx _ _ _ a b | .append _ _ a b => a.slots ++ b.slots
  | .mkfn _ a b => a.flatMap Opd.slots ++ b.flatMap Opd.slots
  | .slice _ x l h m => x.slots ++ (l.toList ++ h.toList ++ m.toList).flatMap Opd.slots
  | .extract t _ => [t]
  | .minmax _ xs => xs.flatMap Opd.slots
  | .call _ f as => f.slots ++ as.flatMap Opd.slots
  | .p1 _ x => x.slots
  | .p2 _ x y => x.slots ++ y.slots
  | .pop _ xs | .mop _ xs | .mlay _ _ xs => xs.flatMap Opd.slots
def COper.slots (o : COper) : List Nat := (match o.guard with | some g => [g.1] | none => []) ++ o.op.slots
def COper.cls (o : COper) : Cls := o.op.cls
def isAllocOp : Op → Bool
  | .alloc _ | .box .. | .buildSlice .. | .makeSlice .. | .makeMap .. | .range .. => true
  | .move x | .assign x => isNilSl x
  | _ => false
def allocsBefore (ops : List Oper) (i : Nat) : Nat := ((ops.take i).filter fun o => isAllocOp o.op).length
def guardOf (ops : List Oper) : Option (Nat × Bool) → Option (Option (Nat × Bool))
  | none => some none
  | some (j, b) => match ops[j]? with
    | some o => o.dst.map fun d => some (d, b)
    | none => none
def compileOper (P : Program) (ops : List Oper) (m : Oper → CMode) (ntmps i : Nat) : Option COper :=
  match ops[i]? with
  | some o => match some ((compileOp P (allocsBefore ops i) (m o) o).getD .bad), guardOf ops o.guard with
    | some c, some g => match o.dst with
      | some d => if d < ntmps then some { ix := i, dst := some d, guard := g, op := c } else none
      | none => some { ix := i, dst := none, guard := g, op := c }
    | _, _ => none
  | none => none
def compileOpers (P : Program) (ops : List Oper) (m : Oper → CMode) (ntmps : Nat) : List Nat → Option (List COper)
  | [] => some []
  | i :: is => match compileOper P ops m ntmps i, compileOpers P ops m ntmps is with
    | some c, some cs => some (c :: cs)
    | _, _ => none
def depsOf (o : Oper) : List Nat := (o.after.toList.filter (Region.binds .any)).map (·.on)
def befores : List Oper → List Nat → List Nat
  | [], acc => acc
  | o :: os, acc => befores os (acc ++ [(depsOf o).foldl (fun s j => s ||| 2 ^ j ||| acc.getD j 0) 0])
def mayCross (a b : COper) : Bool :=
  (match a.dst with | some d => !(b.slots).contains d && b.dst != some d | none => true) &&
  (match b.dst with | some d => !(a.slots).contains d | none => true) &&
  match a.cls, b.cls with
  | .pure, _ | _, .pure => true
  | .load, .load => true
  | .load, .alloc | .heavy, .alloc | .alloc, .alloc => true
  | .load, .heavy | .heavy, .load => true
  | .alloc, .load | .alloc, .heavy => false
  | .heavy, .heavy => false
def crossOk (bef : List Nat) : List COper → Bool
  | [] => true
  | a :: r => r.all (fun b => (bef.getD b.ix 0).testBit a.ix || mayCross a b) && crossOk bef r
def prsFrom (bef : List Nat) (a : COper) (i : Nat) : Nat → List COper → List (Nat × Nat)
  | _, [] => []
  | j, b :: r =>
    let rest := prsFrom bef a i (j + 1) r
    if (bef.getD b.ix 0).testBit a.ix then rest
    else match a.cls, b.cls with
      | .pure, _ | _, .pure | .load, .load => rest
      | _, _ => (i, j) :: rest
def prsOf (bef : List Nat) : Nat → List COper → List (Nat × Nat)
  | _, [] => []
  | i, a :: r => prsFrom bef a i (i + 1) r ++ prsOf bef (i + 1) r
def topoOk (ops : List Oper) : List Nat → List Nat → Bool
  | [], _ => true
  | i :: is, done => (match ops[i]? with | some o => (depsOf o).all (done.contains ·) | none => false) && topoOk ops is (i :: done)
def opRank : Op → Nat
  | .alloc _ | .box .. | .buildSlice .. | .makeSlice .. | .makeMap .. | .range .. => 3
  | .move x | .assign x => if isNilSl x then 3 else 0
  | .load .. => 1
  | .store .. | .call _ | .mapUpdate .. | .insert .. => 2
  | .lookup .. => 1
  | _ => 0
def schedule (ops : List Oper) : Nat → List Nat → List Nat
  | 0, done => done.reverse
  | n + 1, done =>
    let ready := (List.range ops.length).filter fun i => !done.contains i && (match ops[i]? with | some o => (depsOf o).all (done.contains ·) | none => false)
    let rank := fun r => ready.find? fun i => match ops[i]? with | some o => opRank o.op == r | none => false
    match rank 0 <|> rank 1 <|> rank 2 <|> rank 3 with
    | some i => schedule ops n (i :: done)
    | none => done.reverse
structure Ann where
  mode : Oper → CMode
  frz : FuncId → Bool
def compileRegion (P : Program) (an : Ann) (ntmps id : Nat) (ops : List Oper) (draw : Bool) : Option (Nat × List COper × List (Nat × Nat)) :=
  let nA := allocsBefore ops ops.length
  if draw then
    let ord := schedule ops ops.length []
    let bef := befores ops []
    match compileOpers P ops an.mode ntmps ord with
    | some cs =>
      if ord.length = ops.length && nodupB ord && topoOk ops ord [] && crossOk bef cs then some (nA, cs, prsOf bef 0 cs) else none
    | none => none
  else match compileOpers P ops an.mode ntmps (List.range ops.length) with
    | some cs => some (nA, cs, [])
    | none => none
def addTo (l : List Nat) (x : Nat) : List Nat := if l.contains x then l else x :: l
def union (a b : List Nat) : List Nat := b.foldl addTo a
def lvOps : List COper → List Nat → List Nat
  | [], l => l
  | o :: os, l =>
    let l' := lvOps os l
    union (match o.dst with | some d => l'.filter (· != d) | none => l') o.slots
def lvC : CC → List Nat → List (Nat × List Nat) → List Nat → List Nat
  | .skip, l, _, _ => l
  | .region _ ops _ _, l, _, _ => lvOps ops l
  | .seq a b, l, ex, rt => lvC a (lvC b l ex rt) ex rt
  | .cond c a b, l, ex, rt => union (union (lvC a l ex rt) (lvC b l ex rt)) c.slots
  | .block id b, l, ex, rt => lvC b l ((id, l) :: ex) rt
  | .loop _ b, _, ex, rt =>
    let l1 := lvC b [] ex rt
    let l2 := lvC b l1 ex rt
    lvC b l2 ex rt
  | .exit id, _, ex, _ => (ex.lookup id).getD []
  | .ret, _, _, rt => rt
  | .rng f _ caps, l, ex, rt => union (union (union l caps) f.slots) (union rt (ex.flatMap (·.2)))
def annot : CC → List Nat → List (Nat × List Nat) → List Nat → CC
  | .skip, _, _, _ => .skip
  | .region nA ops prs _, l, _, _ => .region nA ops prs (some l)
  | .seq a b, l, ex, rt => .seq (annot a (lvC b l ex rt) ex rt) (annot b l ex rt)
  | .cond c a b, l, ex, rt => .cond c (annot a l ex rt) (annot b l ex rt)
  | .block id b, l, ex, rt => .block id (annot b l ((id, l) :: ex) rt)
  | .loop _ b, l, ex, rt =>
    let l3 := lvC (.loop none b) l ex rt
    .loop (some l3) (annot b l3 ex rt)
  | .exit id, _, _, _ => .exit id
  | .ret, _, _, _ => .ret
  | .rng f v caps, _, _, _ => .rng f v caps
def countR : Code → Nat
  | .seq a b | .cond _ a b => countR a + countR b
  | .block _ b | .loop b | .scope b => countR b
  | .rangeFunc .. => 1
  | _ => 0
def rfs : Code → List (Array Tmp × Code × Code)
  | .seq a b | .cond _ a b => rfs a ++ rfs b
  | .block _ b | .loop b | .scope b => rfs b
  | .rangeFunc _ ps a b => [(ps, a, b)]
  | _ => []
def compileC (P : Program) (an : Ann) (ntmps : Nat) : Option FuncId → Code → Option CC
  | _, .skip => some .skip
  | _, .region id ops draw => match compileRegion P an ntmps id ops.toList draw with
    | some (nA, cs, prs) => some (.region nA cs prs none)
    | none => none
  | vf, .seq a b => match compileC P an ntmps vf a, compileC P an ntmps (vf.map (· + countR a)) b with
    | some a, some b => some (.seq a b)
    | _, _ => none
  | vf, .cond c a b => match opdOf c, compileC P an ntmps vf a, compileC P an ntmps (vf.map (· + countR a)) b with
    | some c, some a, some b => some (.cond c a b)
    | _, _, _ => none
  | vf, .block id b => (compileC P an ntmps vf b).map (.block id)
  | vf, .loop b => (compileC P an ntmps vf b).map (.loop none)
  | vf, .scope b => (compileC P an ntmps vf b).map fun b' => .seq b' .skip
  | _, .exit id => some (.exit id)
  | _, .ret => some .ret
  | _, .label _ => some .skip
  | vf, .rangeFunc g ps a b => match vf, opdOf g, compileC P an ntmps none a, compileC P an ntmps none b with
    | some v, some f, some a', some b' => some (.rng f v ((lvC (.seq a' b') [] [] []).filter (!ps.contains ·)))
    | _, _, _, _ => none
  | _, _ => none
def resC (P : Program) : ResultVar → Option RC
  | .tmp t => some (.slot t)
  | .cell a t => match isAggT P t, sizeT P t with
    | some g, some n => some (.cell a g (if g then n else 1))
    | _, _ => none
def resCs (P : Program) : List ResultVar → Option (List RC)
  | [] => some []
  | r :: rs => match resC P r, resCs P rs with
    | some x, some xs => some (x :: xs)
    | _, _ => none
def RC.slots : RC → Nat
  | .slot n => n
  | .cell n _ _ => n
def compileFn (P : Program) (an : Ann) (ann : Bool) (f : FuncId) : Option CFn :=
  match P.funcs[f]? with
  | some fn => match fn.body, resCs P fn.results.toList with
    | some c, some rs =>
      if fn.name == "runtime.NumGoroutine" then none else
      match compileC P an fn.ntmps (some (P.funcs.size + 16 * f)) c with
      | some cc =>
        if fn.params.size + fn.nfree ≤ fn.ntmps ∧ countR c ≤ 16 then
          let rt := rs.map RC.slots
          some { frz := an.frz f, rnd := none, nargs := fn.params.size + fn.nfree, ntmps := fn.ntmps, code := if ann then annot cc rt [] rt else cc, res := rs }
        else none
      | none => none
    | _, _ => none
  | none => none
def anOfZ (nofa nofrz : List Nat) : Ann := { mode := fun o => match o.op with | .call c => (match c.callee with | .value (.func f) => ⟨!nofa.contains f⟩ | _ => ⟨true⟩) | .buildSlice _ 1 _ => ⟨false⟩ | _ => ⟨true⟩, frz := fun f => !nofrz.contains f }
def compileVirt (P : Program) (an : Ann) (ann : Bool) (v : FuncId) : Option CFn :=
  match P.funcs[(v - P.funcs.size) / 16]? with
  | some fn => match fn.body with
    | some c => match (rfs c)[(v - P.funcs.size) % 16]? with
      | some (ps, a, b) => match compileC P an fn.ntmps none a, compileC P an fn.ntmps none b with
        | some a', some b' =>
          if nodupB ps.toList && ps.toList.all (· < fn.ntmps) then
            some { frz := false, rnd := some (ps.toList, if ann then annot a' (lvC b' [] [] []) [] [] else a'), nargs := ps.size + 1, ntmps := fn.ntmps, code := if ann then annot b' [] [] [] else b', res := [] }
          else none
        | _, _ => none
      | none => none
    | none => none
  | none => none
def compileAny (P : Program) (an : Ann) (ann : Bool) (f : FuncId) : Option CFn := if f < P.funcs.size then compileFn P an ann f else compileVirt P an ann f
end Go.Eng
namespace Go.Eng
open Go
structure Loc where
  blk : Nat
  off : Nat
  esz : Nat
  tot : Nat
inductive Pl where
  | loc (L : Loc)
  | empty
  | rnd (l : Nat) (r : Loop) (f : FuncId) (sh : List (Nat × Bool × Nat))
  | mp (l : Nat) (g : Bool)
  | mi (l : Nat)
def Pl.at : Pl → Option Nat
  | .loc L => some L.blk
  | .rnd l _ _ _ => some l
  | .mp l _ => some l
  | .mi l => some l
  | .empty => none
class RecP extends GlobP where
  base : Nat
  okc : FuncId → Array Tmp → Code → Code → Nat → Prop
  le : ∀ f ps a b n, okc f ps a b n → base ≤ f
  asc : Prop
def RecP.ok [RecP] (f : FuncId) (r : Loop) : Prop := RecP.okc f r.params r.assign r.body r.tmps.size
def Pl.OK [RecP] (g : Nat) : Pl → Prop
  | .rnd _ r f _ => RecP.ok f r
  | .loc L => g = 0 → L.off = 0
  | _ => True
abbrev Inj := Nat → Nat → Option Pl
abbrev Stab := Nat → Nat → Option Value
def noInj : Inj := fun _ _ => none
def Inj.atk (j : Inj) (id g : Nat) : Option Nat := (j id g).bind Pl.at
theorem Inj.atk_loc {j : Inj} {id g : Nat} {L : Loc} (h : j id g = some (.loc L)) : j.atk id g = some L.blk := by simp [Inj.atk, h, Pl.at]
theorem Inj.atk_rnd {j : Inj} {id g l : Nat} {r : Loop} {f : FuncId} {sh : List (Nat × Bool × Nat)} (h : j id g = some (.rnd l r f sh)) : j.atk id g = some l := by simp [Inj.atk, h, Pl.at]
theorem Inj.atk_of {j : Inj} {id g k : Nat} {pl : Pl} (h : j id g = some pl) (hk : pl.at = some k) : j.atk id g = some k := by grind [Inj.atk]
theorem Inj.atk_some {j : Inj} {id g k : Nat} (h : j.atk id g = some k) : ∃ pl, j id g = some pl ∧ pl.at = some k := by grind [Inj.atk, Option.bind_eq_some_iff]
inductive VC (σ : Stab) : Inj → Cl → Value → Prop where
  | bool (j : Inj) (b : Bool) : VC σ j (.bool b) (.bool b)
  | int (j : Inj) (k : IntKind) (n : Int) : VC σ j (.int k n) (.int k n)
  | str (j : Inj) (s : ByteArray) : VC σ j (.str s) (.string s)
  | ptr (j : Inj) (id g i k : Nat) (L : Loc) (h : j id g = some (.loc L)) : VC σ j (.ptr id g i k) (.pointer (some ⟨L.blk, L.off + i * L.esz + k, none⟩))
  | rptr (j : Inj) (row : List Cl) (k b o : Nat) (val : Nat → Value) (h1 : ∀ (n : Nat) (c : Cl), row[n]? = some c → σ b (o + n) = some (val n))
      (h2 : ∀ (n : Nat) (c : Cl), row[n]? = some c → VC σ noInj c (val n)) : VC σ j (.rptr row k) (.pointer (some ⟨b, o + k, none⟩))
  | nilptr (j : Inj) : VC σ j .nilptr (.pointer none)
  | slice (j : Inj) (id g es off len : Nat) (cap : Option Nat) (pl : Pl) (a : Option Addr) (c : Nat) (h : j id g = some pl) (hl : len ≤ c) (hc : ∀ c', cap = some c' → c = c')
      (ha : c ≠ 0 → ∃ L, pl = .loc L ∧ L.esz = es ∧ a = some ⟨L.blk, L.off + off * L.esz, none⟩ ∧ L.off + (off + c) * L.esz ≤ L.tot) : VC σ j (.slice id g es off len cap) (.slice a len c)
  | rslice (j : Inj) (esz : Nat) (rows : List (List Cl)) (a : Option Addr) (c b o : Nat) (val : Nat → Nat → Value)
      (hl : rows.length ≤ c) (ha : rows = [] ∨ a = some ⟨b, o, none⟩) (hr : ∀ row ∈ rows, row.length = esz)
      (h1 : ∀ (i : Nat) (row : List Cl) (n : Nat) (cl : Cl), rows[i]? = some row → row[n]? = some cl → σ b (o + i * esz + n) = some (val i n))
      (h2 : ∀ (i : Nat) (row : List Cl) (n : Nat) (cl : Cl), rows[i]? = some row → row[n]? = some cl → VC σ noInj cl (val i n)) : VC σ j (.rslice rows) (.slice a rows.length c)
  | nilslice (j : Inj) : VC σ j .nilslice (.slice none 0 0)
  | fn (j : Inj) (f : FuncId) (fi ca : List Cl) (fi' ca' : Array Value) (l1 : fi.length = fi'.toList.length) (l2 : ca.length = ca'.toList.length)
      (h1 : ∀ (n : Nat) (c : Cl) (v : Value), fi[n]? = some c → fi'.toList[n]? = some v → VC σ j c v) (h2 : ∀ (n : Nat) (c : Cl) (v : Value), ca[n]? = some c → ca'.toList[n]? = some v → VC σ j c v) :
      VC σ j (.fn f fi ca) (.func (.func f) fi' ca')
  | nilfn (j : Inj) : VC σ j .nilfn .nilFunc
  | iface0 (j : Inj) (t : TypeId) (c : Cl) (v : Value) (h : VC σ j c v) : VC σ j (.iface t false [c]) (.iface t v)
  | iface1 (j : Inj) (t : TypeId) (cs : List Cl) (vs : Array Value) (l : cs.length = vs.toList.length) (h : ∀ (n : Nat) (c : Cl) (v : Value), cs[n]? = some c → vs.toList[n]? = some v → VC σ j c v) :
      VC σ j (.iface t true cs) (.iface t (.agg vs))
  | niliface (j : Inj) : VC σ j .niliface .nilIface
  | yld (j : Inj) (id : Nat) (f : FuncId) (sh : List (Nat × Bool × Nat)) (l : Nat) (r : Loop) (h : j id 0 = some (.rnd l r f sh)) : VC σ j (.yld id f sh) (.func (.yield l) #[] #[])
  | nilmap (j : Inj) : VC σ j .nilmap (.map none)
  | map (j : Inj) (id : Nat) (g : Bool) (l : Nat) (h : j id 0 = some (.mp l g)) : VC σ j (.map id g) (.map (some l))
  | mit (j : Inj) (id l : Nat) (h : j id 0 = some (.mi l)) : VC σ j (.mit id) (.pointer (some ⟨l, 0, none⟩))
  | bsl (j : Inj) (id g i k es len cap : Nat) (L : Loc) (a : Addr) (h : j id g = some (.loc L)) (hl : len ≤ cap) (ha : cap ≠ 0 → a = ⟨L.blk, L.off + i * L.esz + k, none⟩) :
      VC σ j (.bsl id g i k es len cap) (.slice (some a) len cap)
def Stab.le (σ σ' : Stab) : Prop := ∀ b o v, σ b o = some v → σ' b o = some v
def Inj.le (j j' : Inj) : Prop := ∀ id g pl, j id g = some pl → j' id g = some pl
theorem Stab.le_refl (σ : Stab) : σ.le σ := fun _ _ _ h => h
theorem Inj.le_refl (j : Inj) : j.le j := fun _ _ _ h => h
theorem Stab.le_trans {a b c : Stab} (h : a.le b) (h' : b.le c) : a.le c := fun _ _ _ x => h' _ _ _ (h _ _ _ x)
theorem Inj.le_trans {a b c : Inj} (h : a.le b) (h' : b.le c) : a.le c := fun _ _ _ x => h' _ _ _ (h _ _ _ x)
theorem noInj_le (j : Inj) : noInj.le j := fun _ _ _ h => by grind [noInj]
theorem VC.mono {σ σ' : Stab} {j : Inj} {c : Cl} {v : Value} (hσ : σ.le σ') (h : VC σ j c v) : ∀ {j' : Inj}, j.le j' → VC σ' j' c v := by
  induction h with
  | bool => grind [bool]
  | int => intro j' _; exact .int _ _ _
  | str => intro j' _; exact .str _ _
  | ptr j id g i k L h => intro j' hj; exact .ptr _ _ _ _ _ _ (hj _ _ _ h)
  | rptr j row k b o val h1 h2 ih => intro j' _; exact .rptr _ _ _ _ _ val (fun n c hn => hσ _ _ _ (h1 n c hn)) (fun n c hn => ih n c hn (Inj.le_refl _))
  | nilptr => intro j' _; exact .nilptr _
  | slice j id g es off len cap pl a c h hl hc ha => intro j' hj; exact .slice _ _ _ _ _ _ _ pl _ _ (hj _ _ _ h) hl hc ha
  | rslice j esz rows a c b o val hl ha hr h1 h2 ih =>
    intro j' _; exact .rslice _ esz _ _ _ b o val hl ha hr (fun i row n cl hi hn => hσ _ _ _ (h1 i row n cl hi hn)) (fun i row n cl hi hn => ih i row n cl hi hn (Inj.le_refl _))
  | nilslice => intro j' _; exact .nilslice _
  | fn j f fi ca fi' ca' l1 l2 h1 h2 ih1 ih2 => intro j' hj; exact .fn _ _ _ _ _ _ l1 l2 (fun n c v hc hv => ih1 n c v hc hv hj) (fun n c v hc hv => ih2 n c v hc hv hj)
  | nilfn => intro j' _; exact .nilfn _
  | iface0 j t c v h ih => intro j' hj; exact .iface0 _ _ _ _ (ih hj)
  | iface1 j t cs vs l h ih => intro j' hj; exact .iface1 _ _ _ _ l (fun n c v hc hv => ih n c v hc hv hj)
  | niliface => intro j' _; exact .niliface _
  | yld j id f sh l r h => intro j' hj; exact .yld _ _ _ _ l r (hj _ _ _ h)
  | nilmap => intro j' _; exact .nilmap _
  | map j id g l h => intro j' hj; exact .map _ _ _ l (hj _ _ _ h)
  | mit j id l h => intro j' hj; exact .mit _ _ l (hj _ _ _ h)
  | bsl j id g i k es len cap L a h hl ha => intro j' hj; exact .bsl _ _ _ _ _ _ _ _ L a (hj _ _ _ h) hl ha
theorem VC.of_noInj {σ : Stab} {j : Inj} {c : Cl} {v : Value} (h : VC σ noInj c v) : VC σ j c v := h.mono (Stab.le_refl _) (noInj_le _)
theorem VC.to_noInj {σ : Stab} {j : Inj} {c : Cl} {v : Value} (hn : noIds c = true) (h : VC σ j c v) : VC σ noInj c v := by
  cases h with
  | bool => grind [bool]
  | int => exact .int _ _ _
  | str => exact .str _ _
  | ptr => grind [noIds]
  | rptr _ row k b o val h1 h2 => exact .rptr _ _ _ _ _ val h1 h2
  | nilptr => exact .nilptr _
  | slice => grind [noIds]
  | rslice _ esz rows a c b o val hl ha hr h1 h2 => exact .rslice _ esz _ _ _ b o val hl ha hr h1 h2
  | nilslice => exact .nilslice _
  | fn _ f fi ca fi' ca' l1 l2 h1 h2 =>
    simp [noIds] at hn
    exact .fn _ _ _ _ _ _ l1 l2 (fun n c v hc _ => by grind) (fun n c v hc _ => by grind)
  | nilfn => exact .nilfn _
  | iface0 => grind [noIds]
  | iface1 => grind [noIds]
  | niliface => exact .niliface _
  | yld => grind [noIds]
  | nilmap => exact .nilmap _
  | map => grind [noIds]
  | mit => grind [noIds]
  | bsl => grind [noIds]
theorem VC.plain {σ σ' : Stab} {j j' : Inj} {c : Cl} {v : Value} (hn : plainC c = true) (h : VC σ j c v) : VC σ' j' c v := by
  cases h <;> first | (simp [plainC] at hn; done) | constructor
theorem VC.one {σ : Stab} {j : Inj} {c : Cl} {v : Value} (h : VC σ j c v) : v.cells = #[v] := by
  cases h <;> rfl
def VCs (σ : Stab) (j : Inj) (cs : List Cl) (vs : List Value) : Prop := cs.length = vs.length ∧ ∀ (n : Nat) (c : Cl) (v : Value), cs[n]? = some c → vs[n]? = some v → VC σ j c v
theorem VCs.nil {σ : Stab} {j : Inj} : VCs σ j [] [] := ⟨rfl, fun n c v h => by grind⟩
theorem VCs.cons {σ : Stab} {j : Inj} {c : Cl} {cs : List Cl} {v : Value} {vs : List Value} (h : VC σ j c v) (hs : VCs σ j cs vs) : VCs σ j (c :: cs) (v :: vs) := by
  refine ⟨by simp [hs.1], fun n c' v' hc hv => ?_⟩
  cases n with
  | zero => grind
  | succ n => exact hs.2 n c' v' hc hv
theorem VCs.uncons {σ : Stab} {j : Inj} {c : Cl} {cs : List Cl} {vs : List Value} (h : VCs σ j (c :: cs) vs) : ∃ v vs', vs = v :: vs' ∧ VC σ j c v ∧ VCs σ j cs vs' := by
  obtain ⟨hl, hh⟩ := h
  cases vs with
  | nil => grind
  | cons v vs' => exact ⟨v, vs', rfl, hh 0 c v rfl rfl, by grind, fun n c' v' hc hv => hh (n + 1) c' v' (by grind) (by grind)⟩
theorem VCs.unnil {σ : Stab} {j : Inj} {vs : List Value} (h : VCs σ j [] vs) : vs = [] := by
  have := h.1; grind
theorem VCs.mono {σ σ' : Stab} {j j' : Inj} {cs : List Cl} {vs : List Value} (hσ : σ.le σ') (hj : j.le j') (h : VCs σ j cs vs) : VCs σ' j' cs vs :=
  ⟨h.1, fun n c v hc hv => (h.2 n c v hc hv).mono hσ hj⟩
theorem VCs.get {σ : Stab} {j : Inj} {cs : List Cl} {vs : List Value} (h : VCs σ j cs vs) {n : Nat} {c : Cl} (hc : cs[n]? = some c) : ∃ v, vs[n]? = some v ∧ VC σ j c v := by
  have hn' : n < vs.length := by rw [← h.1]; grind
  exact ⟨vs[n], List.getElem?_eq_getElem hn', h.2 n c _ hc (List.getElem?_eq_getElem hn')⟩
theorem VCs.of_get {σ : Stab} {j : Inj} {cs : List Cl} {vs : List Value} (hl : cs.length = vs.length) (h : ∀ (n : Nat) (c : Cl), cs[n]? = some c → ∃ v, vs[n]? = some v ∧ VC σ j c v) : VCs σ j cs vs :=
  ⟨hl, fun n c v hc hv => by grind⟩
theorem VCs.append {σ : Stab} {j : Inj} {cs ds : List Cl} {vs us : List Value} (h : VCs σ j cs vs) (h' : VCs σ j ds us) : VCs σ j (cs ++ ds) (vs ++ us) := by
  induction cs generalizing vs with
  | nil => have := h.unnil; grind
  | cons c cs ih =>
    obtain ⟨v, vs', rfl, hv, hs⟩ := h.uncons
    grind [VCs.cons]
theorem VCs.drop {σ : Stab} {j : Inj} {cs : List Cl} {vs : List Value} (h : VCs σ j cs vs) (k : Nat) : VCs σ j (cs.drop k) (vs.drop k) :=
  ⟨by simp [h.1], fun n c v hc hv => h.2 (k + n) c v (by grind) (by grind)⟩
theorem VCs.take {σ : Stab} {j : Inj} {cs : List Cl} {vs : List Value} (h : VCs σ j cs vs) (k : Nat) : VCs σ j (cs.take k) (vs.take k) := by
  refine ⟨by simp [h.1], fun n c v hc hv => ?_⟩
  rw [List.getElem?_take] at hc hv
  split at hc
  · rename_i hn; rw [if_pos hn] at hv; exact h.2 n c v hc hv
  grind
def WVR (σ : Stab) (j : Inj) : WV → Value → Prop
  | .c x, v => VC σ j x v
  | .a cs, v => ∃ arr : Array Value, v = .agg arr ∧ VCs σ j cs arr.toList
theorem WVR.mono {σ σ' : Stab} {j j' : Inj} {x : WV} {v : Value} (hσ : σ.le σ') (hj : j.le j') (h : WVR σ j x v) : WVR σ' j' x v := by
  cases x with
  | c x => exact VC.mono hσ h hj
  | a cs => obtain ⟨arr, rfl, h⟩ := h; exact ⟨arr, rfl, h.mono hσ hj⟩
theorem WVR.cells {σ : Stab} {j : Inj} {x : WV} {v : Value} (h : WVR σ j x v) : VCs σ j x.cells v.cells.toList := by
  cases x with
  | c x => rw [h.one]; exact VCs.cons h VCs.nil
  | a cs => obtain ⟨arr, rfl, h⟩ := h; exact h
theorem WVR.cells_size {σ : Stab} {j : Inj} {x : WV} {v : Value} (h : WVR σ j x v) : v.cells.size = x.cells.length := by
  have := h.cells.1; grind
theorem WVR.of_cells {σ : Stab} {j : Inj} {agg : Bool} {cs : List Cl} {x : WV} (vs : List Value) (h : VCs σ j cs vs) (hx : ofCells agg cs = some x) :
    WVR σ j x (if agg then .agg vs.toArray else vs.headD undef) := by
  cases agg with
  | true => simp [ofCells] at hx; subst hx; exact ⟨vs.toArray, by simp, by grind⟩
  | false =>
    match cs, h, hx with
    | [c], h, hx =>
      simp [ofCells] at hx; obtain ⟨v, vs', rfl, hv, hs⟩ := h.uncons
      grind [WVR]
def WVRs (σ : Stab) (j : Inj) (xs : List WV) (vs : List Value) : Prop := xs.length = vs.length ∧ ∀ (n : Nat) (x : WV) (v : Value), xs[n]? = some x → vs[n]? = some v → WVR σ j x v
theorem WVRs.nil {σ : Stab} {j : Inj} : WVRs σ j [] [] := ⟨rfl, fun n c v h => by grind⟩
theorem WVRs.cons {σ : Stab} {j : Inj} {c : WV} {cs : List WV} {v : Value} {vs : List Value} (h : WVR σ j c v) (hs : WVRs σ j cs vs) : WVRs σ j (c :: cs) (v :: vs) := by
  refine ⟨by simp [hs.1], fun n c' v' hc hv => ?_⟩
  cases n with
  | zero => grind
  | succ n => exact hs.2 n c' v' hc hv
theorem WVRs.uncons {σ : Stab} {j : Inj} {c : WV} {cs : List WV} {vs : List Value} (h : WVRs σ j (c :: cs) vs) : ∃ v vs', vs = v :: vs' ∧ WVR σ j c v ∧ WVRs σ j cs vs' := by
  obtain ⟨hl, hh⟩ := h
  cases vs with
  | nil => grind
  | cons v vs' => exact ⟨v, vs', rfl, hh 0 c v rfl rfl, by grind, fun n c' v' hc hv => hh (n + 1) c' v' (by grind) (by grind)⟩
theorem WVRs.unnil {σ : Stab} {j : Inj} {vs : List Value} (h : WVRs σ j [] vs) : vs = [] := by
  have := h.1; grind
theorem WVRs.mono {σ σ' : Stab} {j j' : Inj} {cs : List WV} {vs : List Value} (hσ : σ.le σ') (hj : j.le j') (h : WVRs σ j cs vs) : WVRs σ' j' cs vs :=
  ⟨h.1, fun n c v hc hv => (h.2 n c v hc hv).mono hσ hj⟩
theorem WVRs.append {σ : Stab} {j : Inj} {cs ds : List WV} {vs us : List Value} (h : WVRs σ j cs vs) (h' : WVRs σ j ds us) : WVRs σ j (cs ++ ds) (vs ++ us) := by
  induction cs generalizing vs with
  | nil => have := h.unnil; grind
  | cons c cs ih =>
    obtain ⟨v, vs', rfl, hv, hs⟩ := h.uncons
    grind [WVRs.cons]
theorem WVRs.get {σ : Stab} {j : Inj} {cs : List WV} {vs : List Value} (h : WVRs σ j cs vs) {n : Nat} {c : WV} (hc : cs[n]? = some c) : ∃ v, vs[n]? = some v ∧ WVR σ j c v := by
  have hn' : n < vs.length := by rw [← h.1]; grind
  exact ⟨vs[n], List.getElem?_eq_getElem hn', h.2 n c _ hc (List.getElem?_eq_getElem hn')⟩
def AVR (σ : Stab) (j : Inj) : AV → Value → Prop
  | .w x, v => WVR σ j x v
  | .t xs, v => ∃ arr : Array Value, v = .tuple arr ∧ WVRs σ j xs arr.toList
  | .u, v => v = undef
theorem AVR.mono {σ σ' : Stab} {j j' : Inj} {x : AV} {v : Value} (hσ : σ.le σ') (hj : j.le j') (h : AVR σ j x v) : AVR σ' j' x v := by
  cases x with
  | w x => exact WVR.mono hσ hj h
  | t xs => obtain ⟨arr, rfl, h⟩ := h; exact ⟨arr, rfl, h.mono hσ hj⟩
  | u => exact h
def GK [GlobP] (σ : Stab) : Prop := ∀ (g : Nat) (row : List Cl), GlobP.row g = some row → ∀ (n : Nat) (c : Cl), row[n]? = some c → ∃ v, σ g n = some v ∧ VC σ noInj c v
theorem GK.mono [GlobP] {σ σ' : Stab} (h : GK σ) (hσ : σ.le σ') : GK σ' := fun g row hg n c hc => by
  obtain ⟨v, h1, h2⟩ := h g row hg n c hc
  exact ⟨v, hσ _ _ _ h1, h2.mono hσ (Inj.le_refl _)⟩
def EnvR (σ : Stab) (j : Inj) (E : Nat → Option AV) (tmps : Array Value) : Prop := ∀ n x, E n = some x → ∃ v, tmps[n]? = some v ∧ AVR σ j x v
theorem EnvR.mono {σ σ' : Stab} {j j' : Inj} {E : Nat → Option AV} {t : Array Value} (hσ : σ.le σ') (hj : j.le j') (h : EnvR σ j E t) : EnvR σ' j' E t :=
  fun n x hx => let ⟨v, hv, hr⟩ := h n x hx; ⟨v, hv, hr.mono hσ hj⟩
def BRow (σ : Stab) (jj : Inj) (b : Blk) (L : Loc) (C : Array Value) : Prop :=
  ∀ (i : Nat) (row : List Cl) (n : Nat) (cl : Cl), b.rows[i]? = some row → row[n]? = some cl → ∃ v, C[L.off + i * b.esz + n]? = some v ∧ VC σ jj cl v
structure BL (σ : Stab) (j : Inj) (b : Blk) (L : Loc) (w : World) : Prop where
  esz : L.esz = b.esz
  pos : 0 < b.esz
  len : ∀ row ∈ b.rows, row.length = b.esz
  fit : L.off + b.rows.length * b.esz ≤ L.tot
  heap : ∃ C T fr, w.heap[L.blk]? = some (.cells C T fr) ∧ (fr ≠ (0, 0) → b.fz = true ∧ fr = (C.size, C.size + 1)) ∧ C.size = L.tot ∧ BRow σ (if b.box then j else noInj) b L C
  stab : ∀ o, L.off ≤ o → (b.fz = true → L.off + b.rows.length * b.esz ≤ o) → σ L.blk o = none
def stateOf (s : Int) : LoopState := if s = 0 then .ready else if s = 1 then .busy else if s = -1 then .exhausted else .done
def pendOf (s : Int) : Option Code := match jumpOf s with
  | some .ret => some .ret
  | some (.exit id) => some (.exit id)
  | _ => none
def CapV (tmps : Array Value) : List (Nat × Bool × Nat) → List Value → Prop
  | [], _ => True
  | (n, g, k) :: sh, vs => (if g then tmps[n]? = some (.agg (vs.take k).toArray) else k = 1 ∧ tmps[n]? = vs[0]?) ∧ CapV tmps sh (vs.drop k)
structure RB [RecP] (σ : Stab) (j : Inj) (b : Blk) (l : Nat) (r : Loop) (f : FuncId) (sh : List (Nat × Bool × Nat)) (w : World) : Prop where
  box : b.box = true
  ok : RecP.ok f r
  st : ∃ s cells pd vs, b.rows = [.int .i64 s :: cells] ∧ w.heap[l]? = some (.loop { r with state := stateOf s, pending := pd }) ∧ (s ≠ -1 → pd = pendOf s) ∧ VCs σ j cells vs ∧ CapV r.tmps sh vs
structure MB (σ : Stab) (j : Inj) (b : Blk) (l : Nat) (g : Bool) (w : World) : Prop where
  box : b.box = true
  st : ∃ (es : Array MapEntry) (clock : Nat) (R : List (List Cl)), w.heap[l]? = some (.map es clock) ∧ b.rows = [.int .i64 clock] :: R ∧ R.length = es.toList.length ∧
    ∀ (i : Nat) (row : List Cl) (e : MapEntry), R[i]? = some row → es.toList[i]? = some e → ∃ k n vc x, row = .int .i64 e.born :: .int k n :: vc ∧ e.key = .int k n ∧ ofCells g vc = some x ∧ WVR σ j x e.val
structure IB (σ : Stab) (j : Inj) (b : Blk) (l : Nat) (w : World) : Prop where
  box : b.box = true
  st : (w.heap[l]? = some (.mapIter none 0 #[] 0) ∧ b.rows = [[.nilmap]]) ∨
    ∃ id g m since last, j id 0 = some (.mp m g) ∧ ((w.heap[l]? = some (.mapIter (some m) since #[] last) ∧ b.rows = [[.map id g, .int .i64 since]]) ∨
      ∃ s : Nat, w.heap[l]? = some (.mapIter (some m) since #[s] last) ∧ b.rows = [[.map id g, .int .i64 since, .int .i64 s, .int .i64 last]])
theorem MB.mono {σ σ' : Stab} {j j' : Inj} {b : Blk} {l : Nat} {g : Bool} {w w' : World} (h : MB σ j b l g w) (hσ : σ.le σ') (hj : j.le j') (hw : w'.heap[l]? = w.heap[l]?) : MB σ' j' b l g w' := by
  obtain ⟨es, clock, R, h1, h2, h3, h4⟩ := h.st
  refine ⟨h.box, es, clock, R, by grind, h2, h3, fun i row e hi he => ?_⟩
  obtain ⟨k, n, vc, x, q1, q2, q3, q4⟩ := h4 i row e hi he
  exact ⟨k, n, vc, x, q1, q2, q3, q4.mono hσ hj⟩
theorem IB.mono {σ σ' : Stab} {j j' : Inj} {b : Blk} {l : Nat} {w w' : World} (h : IB σ j b l w) (hj : j.le j') (hw : w'.heap[l]? = w.heap[l]?) : IB σ' j' b l w' := by
  refine ⟨h.box, ?_⟩
  rcases h.st with ⟨h1, h2⟩ | ⟨id, g, m, since, last, h0, h⟩
  · grind
  · exact .inr ⟨id, g, m, since, last, hj _ _ _ h0, by grind⟩
def BR [RecP] (σ : Stab) (j : Inj) (b : Blk) (pl : Pl) (w : World) : Prop :=
  match pl with
  | .empty => b.rows = [] ∧ b.box = false
  | .loc L => BL σ j b L w
  | .rnd l r f sh => RB σ j b l r f sh w
  | .mp l g => MB σ j b l g w
  | .mi l => IB σ j b l w
structure MR [RecP] (own : Nat → Prop) (σ : Stab) (j : Inj) (M : Mem) (w : World) : Prop where
  blkP : ∀ (id : Nat) (b : Blk), M[id]? = some (some b) → ∃ pl, j id b.gen = some pl ∧ BR σ j b pl w ∧ (∀ k, pl.at = some k → own k)
  injP : ∀ (id id' : Nat) (b b' : Blk) (k : Nat), M[id]? = some (some b) → M[id']? = some (some b') → j.atk id b.gen = some k → j.atk id' b'.gen = some k → id = id'
  dom : ∀ id g pl, j id g = some pl → ∃ b, M[id]? = some (some b) ∧ g ≤ b.gen
  okP : ∀ id g pl, j id g = some pl → pl.OK g
theorem MR.blk [RecP] {own : Nat → Prop} {σ : Stab} {j : Inj} {M : Mem} {w : World} (hm : MR own σ j M w) (id : Nat) (b : Blk) (h : M[id]? = some (some b)) : ∃ pl, j id b.gen = some pl ∧ BR σ j b pl w ∧ (∀ L, pl = .loc L → own L.blk) := by
  obtain ⟨pl, h1, h2, h3⟩ := hm.blkP id b h
  exact ⟨pl, h1, h2, fun L e => h3 _ (by rw [e]; rfl)⟩
theorem MR.inj [RecP] {own : Nat → Prop} {σ : Stab} {j : Inj} {M : Mem} {w : World} (hm : MR own σ j M w) (id id' : Nat) (b b' : Blk) (L L' : Loc) (h1 : M[id]? = some (some b)) (h2 : M[id']? = some (some b')) (h3 : j id b.gen = some (.loc L)) (h4 : j id' b'.gen = some (.loc L')) (h5 : L.blk = L'.blk) : id = id' :=
  hm.injP id id' b b' L.blk h1 h2 (Inj.atk_loc h3) (by grind [Inj.atk_loc])
structure Agree [RecP] (σ : Stab) (w : World) : Prop where
  cells : ∀ b o v, σ b o = some v → w.cell? ⟨b, o, none⟩ = some v
  glob : GK σ
structure Side [RecP] (w w' : World) : Prop where
  os : w'.os = w.os
  output : w'.output = w.output
  tape : w'.tape = w.tape
  drawn : RecP.asc → w.drawn ≤ w'.drawn
theorem Side.refl [RecP] (w : World) : Side w w := ⟨rfl, rfl, rfl, fun _ => Nat.le_refl _⟩
theorem Side.trans [RecP] {a b c : World} (h : Side a b) (h' : Side b c) : Side a c := ⟨by rw [h'.os, h.os], by rw [h'.output, h.output], by rw [h'.tape, h.tape], fun q => Nat.le_trans (h.drawn q) (h'.drawn q)⟩
structure Step [RecP] (own : Nat → Prop) (k : Nat) (σ : Stab) (j : Inj) (M : Mem) (w : World) (σ' : Stab) (j' : Inj) (M' : Mem) (w' : World) : Prop where
  sle : σ.le σ'
  jle : ∀ id g pl, id < k → j id g = some pl → j' id g = some pl
  size : w.heap.size ≤ w'.heap.size
  frame : ∀ b, b < w.heap.size → ¬ own b → w'.heap[b]? = w.heap[b]?
  snew : ∀ b o v, σ' b o = some v → σ b o = some v ∨ own b
  keep : ∀ (id : Nat) (b : Blk), id < k → M[id]? = some (some b) → ∃ b', M'[id]? = some (some b') ∧ b.ver ≤ b'.ver ∧
    (b'.ver = b.ver → b' = b ∧ ∀ k, j.atk id b.gen = some k → w'.heap[k]? = w.heap[k]?)
  side : Side w w'
theorem Step.refl [RecP] {own : Nat → Prop} {k : Nat} {σ : Stab} {j : Inj} {M : Mem} {w : World} : Step own k σ j M w σ j M w :=
  ⟨Stab.le_refl _, fun _ _ _ _ h => h, Nat.le_refl _, fun _ _ _ => rfl, fun _ _ _ h => .inl h, fun _ b _ h => ⟨b, h, Nat.le_refl _, fun _ => ⟨rfl, fun _ _ => rfl⟩⟩, Side.refl _⟩
theorem Step.trans [RecP] {own : Nat → Prop} {k : Nat} {σ σ' σ'' : Stab} {j j' j'' : Inj} {M M' M'' : Mem} {w w' w'' : World}
    (h : Step own k σ j M w σ' j' M' w') (h' : Step own k σ' j' M' w' σ'' j'' M'' w'') : Step own k σ j M w σ'' j'' M'' w'' := by
  refine ⟨Stab.le_trans h.sle h'.sle, fun id g pl hk hj => h'.jle _ _ _ hk (h.jle _ _ _ hk hj), Nat.le_trans h.size h'.size, fun b hb ho => ?_, fun b o v hv => ?_, fun id b hk hb => ?_, h.side.trans h'.side⟩
  · rw [h'.frame b (Nat.lt_of_lt_of_le hb h.size) ho, h.frame b hb ho]
  · rcases h'.snew b o v hv with h1 | h1
    · exact h.snew b o v h1
    grind
  · obtain ⟨b1, hb1, hv1, he1⟩ := h.keep id b hk hb
    obtain ⟨b2, hb2, hv2, he2⟩ := h'.keep id b1 hk hb1
    refine ⟨b2, hb2, Nat.le_trans hv1 hv2, fun hv => ?_⟩
    have e1 : b1.ver = b.ver := by omega
    have e2 : b2.ver = b1.ver := by omega
    obtain ⟨rfl, hh1⟩ := he1 e1
    obtain ⟨rfl, hh2⟩ := he2 e2
    refine ⟨rfl, fun L hL => ?_⟩
    obtain ⟨pl, hpl, hat⟩ := Inj.atk_some hL
    rw [hh2 L (Inj.atk_of (h.jle _ _ _ hk hpl) hat), hh1 L hL]
theorem Step.le [RecP] {own : Nat → Prop} {k k' : Nat} {σ σ' : Stab} {j j' : Inj} {M M' : Mem} {w w' : World} (hk : k' ≤ k) (h : Step own k σ j M w σ' j' M' w') : Step own k' σ j M w σ' j' M' w' :=
  ⟨h.sle, fun id g pl hi hj => h.jle _ _ _ (Nat.lt_of_lt_of_le hi hk) hj, h.size, h.frame, h.snew, fun id b hi hb => h.keep id b (Nat.lt_of_lt_of_le hi hk) hb, h.side⟩
theorem Step.own_mono [RecP] {own own' : Nat → Prop} {k : Nat} {σ σ' : Stab} {j j' : Inj} {M M' : Mem} {w w' : World} (ho : ∀ b, own b → own' b) (h : Step own k σ j M w σ' j' M' w') : Step own' k σ j M w σ' j' M' w' :=
  ⟨h.sle, h.jle, h.size, fun b hb hn => h.frame b hb (fun x => hn (ho b x)), fun b o v hv => (h.snew b o v hv).imp id (ho b), h.keep, h.side⟩
theorem Step.jle' [RecP] {own : Nat → Prop} {k : Nat} {σ σ' : Stab} {j j' : Inj} {M M' : Mem} {w w' : World} (h : Step own k σ j M w σ' j' M' w') (hm : MR own σ j M w) (hk : M.length ≤ k) : j.le j' := by
  intro id g pl hj
  obtain ⟨b, hb, _⟩ := hm.dom id g pl hj
  refine h.jle _ _ _ ?_ hj
  grind
theorem MR.lt [RecP] {own : Nat → Prop} {σ : Stab} {j : Inj} {M : Mem} {w : World} (hm : MR own σ j M w) {id g : Nat} {pl : Pl} (h : j id g = some pl) : id < M.length := by
  obtain ⟨b, hb, _⟩ := hm.dom id g pl h
  grind
theorem look_some {M : Mem} {id g : Nat} {b : Blk} (h : look M id g = some b) : M[id]? = some (some b) ∧ g = b.gen := by
  grind [look]
theorem MR.cell [RecP] {own : Nat → Prop} {σ : Stab} {j : Inj} {M : Mem} {w : World} (hm : MR own σ j M w) {id : Nat} {b : Blk} {L : Loc} (hb : M[id]? = some (some b)) (hL : j id b.gen = some (.loc L))
    {i n : Nat} {row : List Cl} {cl : Cl} (hi : b.rows[i]? = some row) (hn : row[n]? = some cl) :
    ∃ v, w.cell? ⟨L.blk, L.off + i * L.esz + n, none⟩ = some v ∧ VC σ j cl v ∧ VC σ (if b.box then j else noInj) cl v := by
  obtain ⟨pl, hpl, hbr, _⟩ := hm.blk id b hb
  rw [hL] at hpl; cases hpl
  obtain ⟨C, T, fr, hC, hfr, hs, hrow⟩ := hbr.heap
  obtain ⟨v, hv, hvc⟩ := hrow i row n cl hi hn
  refine ⟨v, ?_, ?_, hvc⟩
  · simp [World.cell?, hC, hbr.esz, hv]
  grind [VC.of_noInj]
end Go.Eng
namespace Go.Eng
open Go
variable [RecP]
theorem BR.mono {σ σ' : Stab} {j j' : Inj} {b : Blk} {pl : Pl} {w w' : World} (h : BR σ j b pl w) (hσ : σ.le σ') (hj : j.le j')
    (hw : ∀ k, pl.at = some k → w'.heap[k]? = w.heap[k]?) (hs : ∀ L, pl = .loc L → ∀ o, σ L.blk o = none → L.off ≤ o → (b.fz = true → L.off + b.rows.length * b.esz ≤ o) → σ' L.blk o = none) : BR σ' j' b pl w' := by
  cases pl with
  | empty => exact h
  | loc L =>
    have h : BL σ j b L w := h
    obtain ⟨C, T, fr, hC, hfr, hsz, hrow⟩ := h.heap
    refine (⟨h.esz, h.pos, h.len, h.fit, ⟨C, T, fr, by rw [hw L.blk rfl]; exact hC, hfr, hsz, ?_⟩, fun o h1 h2 => hs L rfl o (h.stab o h1 h2) h1 h2⟩ : BL σ' j' b L w')
    intro i row n cl hi hn
    obtain ⟨v, hv, hvc⟩ := hrow i row n cl hi hn
    refine ⟨v, hv, VC.mono hσ hvc ?_⟩
    cases b.box with
    | true => simpa using hj
    | false => exact Inj.le_refl _
  | rnd l r f sh =>
    have h : RB σ j b l r f sh w := h
    obtain ⟨s, cells, pd, vs, h1, h2, h3, h4, h5⟩ := h.st
    exact (⟨h.box, h.ok, s, cells, pd, vs, h1, by rw [hw l rfl]; exact h2, h3, h4.mono hσ hj, h5⟩ : RB σ' j' b l r f sh w')
  | mp l g => exact MB.mono (h : MB σ j b l g w) hσ hj (hw l rfl)
  | mi l => exact IB.mono (h : IB σ j b l w) hj (hw l rfl)
theorem BR.OK {σ : Stab} {j : Inj} {b : Blk} {pl : Pl} {w : World} (h : BR σ j b pl w) (h0 : b.gen = 0 → ∀ L, pl = .loc L → L.off = 0) : pl.OK b.gen := by
  cases pl with
  | rnd l r f sh => exact (h : RB σ j b l r f sh w).ok
  | loc L => exact fun q => h0 q L rfl
  | _ => trivial
theorem MR.heapLtP {own : Nat → Prop} {σ : Stab} {j : Inj} {M : Mem} {w : World} (hm : MR own σ j M w) {id : Nat} {b : Blk} {k : Nat} (hb : M[id]? = some (some b)) (hk : j.atk id b.gen = some k) : k < w.heap.size := by
  obtain ⟨pl, hpl, hbr, _⟩ := hm.blkP id b hb
  obtain ⟨pl', hpl', hat⟩ := Inj.atk_some hk
  rw [hpl] at hpl'; cases hpl'
  cases pl with
  | empty => cases hat
  | loc L =>
    obtain ⟨C, T, fr, hC, _⟩ := (hbr : BL σ j b L w).heap
    cases hat
    exact (Array.getElem?_eq_some_iff.1 hC).1
  | rnd l r f sh =>
    obtain ⟨s, cells, pd, vs, h1, h2, _⟩ := (hbr : RB σ j b l r f sh w).st
    cases hat
    exact (Array.getElem?_eq_some_iff.1 h2).1
  | mp l g =>
    obtain ⟨es, clock, R, h2, _⟩ := (hbr : MB σ j b l g w).st
    cases hat
    exact (Array.getElem?_eq_some_iff.1 h2).1
  | mi l =>
    have hib : IB σ j b l w := hbr
    cases hat
    rcases hib.st with ⟨h1, _⟩ | ⟨id, g, m, since, last, _, ⟨h1, _⟩ | ⟨s, h1, _⟩⟩ <;> exact (Array.getElem?_eq_some_iff.1 h1).1
theorem MR.ownP {own : Nat → Prop} {σ : Stab} {j : Inj} {M : Mem} {w : World} (hm : MR own σ j M w) {id : Nat} {b : Blk} {k : Nat} (hb : M[id]? = some (some b)) (hk : j.atk id b.gen = some k) : own k := by
  obtain ⟨pl, hpl, _, h⟩ := hm.blkP id b hb
  obtain ⟨pl', hpl', hat⟩ := Inj.atk_some hk
  rw [hpl] at hpl'; cases hpl'
  exact h k hat
theorem MR.same {own : Nat → Prop} {σ : Stab} {j : Inj} {M : Mem} {w w' : World} (hm : MR own σ j M w) (h : w'.heap = w.heap) : MR own σ j M w' := by
  refine ⟨fun id b hb => ?_, hm.injP, hm.dom, hm.okP⟩
  obtain ⟨pl, h1, h2, h3⟩ := hm.blkP id b hb
  exact ⟨pl, h1, h2.mono (Stab.le_refl _) (Inj.le_refl _) (fun L _ => by rw [h]) (fun _ _ _ h _ _ => h), h3⟩
theorem Agree.same {σ : Stab} {w w' : World} (hm : Agree σ w) (h : w'.heap = w.heap) : Agree σ w' := by
  refine ⟨?_, hm.glob⟩
  intro b o v hv; have := hm.cells b o v hv; simpa [World.cell?, h] using this
theorem Agree.lt {σ : Stab} {w : World} (hm : Agree σ w) {b o : Nat} {v : Value} (h : σ b o = some v) : b < w.heap.size := by
  have := hm.cells b o v h
  unfold World.cell? at this
  split at this
  · rename_i c _ _ hc; exact (Array.getElem?_eq_some_iff.1 hc).1
  · cases this
theorem Agree.of_blocks {σ : Stab} {w w' : World} (hm : Agree σ w) (h : ∀ b o v, σ b o = some v → w'.heap[b]? = w.heap[b]?) : Agree σ w' := by
  refine ⟨?_, hm.glob⟩
  intro b o v hv
  have := hm.cells b o v hv
  simpa [World.cell?, h b o v hv] using this
theorem MR.write {own : Nat → Prop} {σ : Stab} {j : Inj} {M : Mem} {w w' : World} (hm : MR own σ j M w) {id : Nat} {b b' : Blk} {L : Loc}
    (hb : M[id]? = some (some b)) (hL : j id b.gen = some (.loc L)) (hg : b'.gen = b.gen) (hw : ∀ k, k ≠ L.blk → w'.heap[k]? = w.heap[k]?) (hbl : BL σ j b' L w') :
    MR own σ j (M.set id (some b')) w' := by
  have hlt : id < M.length := by
    rcases Nat.lt_or_ge id M.length with hl | hl
    · exact hl
    · rw [List.getElem?_eq_none hl] at hb; cases hb
  have get : ∀ k x, (M.set id (some b'))[k]? = some (some x) → (k = id ∧ x = b') ∨ (k ≠ id ∧ M[k]? = some (some x)) := by
    intro k x hx
    rw [List.getElem?_set] at hx
    by_cases hk : id = k
    · subst hk; simp [hlt] at hx; exact .inl ⟨rfl, hx.symm⟩
    · rw [if_neg hk] at hx; exact .inr ⟨fun e => hk e.symm, hx⟩
  refine ⟨fun k x hx => ?_, fun k k' x x' q hx hx' hj hj' => ?_, fun k g pl hj => ?_, hm.okP⟩
  · rcases get k x hx with ⟨rfl, rfl⟩ | ⟨hk, hx⟩
    · obtain ⟨pl, hpl, _, ho⟩ := hm.blkP k b hb
      rw [hL] at hpl; cases hpl
      exact ⟨.loc L, by rw [hg]; exact hL, hbl, ho⟩
    · obtain ⟨pl, hpl, hbr, ho⟩ := hm.blkP k x hx
      refine ⟨pl, hpl, hbr.mono (Stab.le_refl _) (Inj.le_refl _) (fun q e => ?_) (fun _ _ _ h _ _ => h), ho⟩
      refine hw _ (fun e' => hk (hm.injP k id x b q hx hb (Inj.atk_of hpl e) (by rw [e']; exact Inj.atk_loc hL)))
  · rcases get k x hx with ⟨rfl, rfl⟩ | ⟨hk, hx1⟩ <;> rcases get k' x' hx' with ⟨rfl, rfl⟩ | ⟨hk', hx1'⟩
    · rfl
    · rw [hg] at hj; exact hm.injP k k' b x' q hb hx1' hj hj'
    · rw [hg] at hj'; exact hm.injP k k' x b q hx1 hb hj hj'
    · exact hm.injP k k' x x' q hx1 hx1' hj hj'
  · obtain ⟨x, hx, hgx⟩ := hm.dom k g pl hj
    by_cases hk : id = k
    · subst hk
      rw [hb] at hx; cases hx
      exact ⟨b', by simp [hlt], by rw [hg]; exact hgx⟩
    · exact ⟨x, by rw [List.getElem?_set_ne hk]; exact hx, hgx⟩
def Inj.put (j : Inj) (id g : Nat) (pl : Pl) : Inj := fun id' g' => if id' = id ∧ g' = g then some pl else j id' g'
theorem Inj.put_at (j : Inj) (id g : Nat) (pl : Pl) : j.put id g pl id g = some pl := by simp [Inj.put]
theorem Inj.put_ne (j : Inj) {id g id' g' : Nat} (pl : Pl) (h : ¬ (id' = id ∧ g' = g)) : j.put id g pl id' g' = j id' g' := by simp [Inj.put, h]
theorem Inj.le_put {j : Inj} {id g : Nat} {pl : Pl} (h : j id g = none) : j.le (j.put id g pl) := by
  intro id' g' pl' hh
  rw [Inj.put_ne]
  · exact hh
  · rintro ⟨rfl, rfl⟩; rw [h] at hh; cases hh
theorem MR.renew {own : Nat → Prop} {σ : Stab} {j : Inj} {M : Mem} {w w' : World} (hm : MR own σ j M w) {id : Nat} {b' : Blk} {pl' : Pl} (hlt : id < M.length)
    (hg : ∀ b, M[id]? = some (some b) → b.gen < b'.gen)
    (hw : ∀ k b q, k ≠ id → M[k]? = some (some b) → j.atk k b.gen = some q → w'.heap[q]? = w.heap[q]? ∧ pl'.at ≠ some q)
    (hbr : BR σ (j.put id b'.gen pl') b' pl' w') (ho : ∀ k, pl'.at = some k → own k) (h0 : b'.gen = 0 → ∀ L, pl' = .loc L → L.off = 0 := by intro q L e; cases e; try rfl) :
    j id b'.gen = none ∧ MR own σ (j.put id b'.gen pl') (M.set id (some b')) w' := by
  have hnone : j id b'.gen = none := by
    cases h : j id b'.gen with
    | none => rfl
    | some pl =>
      obtain ⟨b, hb, hgb⟩ := hm.dom id _ pl h
      have := hg b hb
      omega
  have hle := Inj.le_put (pl := pl') hnone
  have get : ∀ k x, (M.set id (some b'))[k]? = some (some x) → (k = id ∧ x = b') ∨ (k ≠ id ∧ M[k]? = some (some x)) := by
    intro k x hx
    rw [List.getElem?_set] at hx
    by_cases hk : id = k
    · subst hk; simp [hlt] at hx; exact .inl ⟨rfl, hx.symm⟩
    · rw [if_neg hk] at hx; exact .inr ⟨fun e => hk e.symm, hx⟩
  refine ⟨hnone, fun k x hx => ?_, fun k k' x x' q hx hx' hj hj' => ?_, fun k g pl hj => ?_, fun k g pl hj => by
    by_cases hk : k = id ∧ g = b'.gen
    · obtain ⟨e1, e2⟩ := hk; subst e1 e2; rw [Inj.put_at] at hj; cases hj; exact hbr.OK h0
    · rw [Inj.put_ne _ _ hk] at hj; exact hm.okP k g pl hj⟩
  · rcases get k x hx with ⟨rfl, rfl⟩ | ⟨hk, hx⟩
    · exact ⟨pl', Inj.put_at _ _ _ _, hbr, ho⟩
    · obtain ⟨pl, hpl, hbx, hox⟩ := hm.blkP k x hx
      refine ⟨pl, hle _ _ _ hpl, hbx.mono (Stab.le_refl _) hle (fun q e => ?_) (fun _ _ _ h _ _ => h), hox⟩
      exact (hw k x q hk hx (Inj.atk_of hpl e)).1
  · have ne : ∀ k, k ≠ id → ∀ g, (j.put id b'.gen pl').atk k g = j.atk k g := fun k hk g => by simp [Inj.atk, Inj.put_ne _ _ (fun h => hk h.1)]
    have same : (j.put id b'.gen pl').atk id b'.gen = pl'.at := by simp [Inj.atk, Inj.put_at]
    rcases get k x hx with ⟨rfl, rfl⟩ | ⟨hk, hx1⟩ <;> rcases get k' x' hx' with ⟨rfl, rfl⟩ | ⟨hk', hx1'⟩
    · rfl
    · rw [same] at hj
      rw [ne _ hk'] at hj'
      exact absurd hj (hw k' x' q hk' hx1' hj').2
    · rw [same] at hj'
      rw [ne _ hk] at hj
      exact absurd hj' (hw k x q hk hx1 hj).2
    · rw [ne _ hk] at hj; rw [ne _ hk'] at hj'
      exact hm.injP k k' x x' q hx1 hx1' hj hj'
  · by_cases hk : id = k
    · subst hk
      refine ⟨b', by simp [hlt], ?_⟩
      by_cases hgg : g = b'.gen
      · omega
      · rw [Inj.put_ne _ _ (fun h => hgg h.2)] at hj
        obtain ⟨b, hb, hgb⟩ := hm.dom id g pl hj
        have := hg b hb
        omega
    · rw [Inj.put_ne _ _ (fun h => hk h.1.symm)] at hj
      obtain ⟨x, hx, hgx⟩ := hm.dom k g pl hj
      exact ⟨x, by rw [List.getElem?_set_ne hk]; exact hx, hgx⟩
theorem MR.holes {own : Nat → Prop} {σ : Stab} {j : Inj} {M : Mem} {w : World} (hm : MR own σ j M w) (n : Nat) : MR own σ j (M ++ holes n) w := by
  have get : ∀ (k : Nat) (x : Blk), (M ++ Eng.holes n)[k]? = some (some x) → M[k]? = some (some x) := by
    intro k x hx
    rw [List.getElem?_append] at hx
    split at hx
    · exact hx
    · simp only [Eng.holes, List.getElem?_replicate] at hx
      split at hx <;> cases hx
  refine ⟨fun k x hx => hm.blkP k x (get k x hx), fun k k' x x' q hx hx' => hm.injP k k' x x' q (get k x hx) (get k' x' hx'), fun k g pl hj => ?_, hm.okP⟩
  obtain ⟨b, hb, hgb⟩ := hm.dom k g pl hj
  refine ⟨b, ?_, hgb⟩
  rw [List.getElem?_append]
  split
  · exact hb
  · rename_i hl; rw [List.getElem?_eq_none (Nat.le_of_not_lt hl)] at hb; cases hb
theorem set_push {M : Mem} {b : Blk} : (M ++ holes 1).set M.length (some b) = M ++ [some b] := by
  simp [holes]
theorem MR.own_mono {own own' : Nat → Prop} {σ : Stab} {j : Inj} {M : Mem} {w : World} (ho : ∀ b, own b → own' b) (hm : MR own σ j M w) : MR own' σ j M w :=
  ⟨fun id b hb => let ⟨pl, h1, h2, h3⟩ := hm.blkP id b hb; ⟨pl, h1, h2, fun L e => ho _ (h3 L e)⟩, hm.injP, hm.dom, hm.okP⟩
theorem Side.of_push {w w' : World} {C : Array Value} {T : TypeId} (h : w'.heap = w.heap.push (.cells C T (0, 0))) (ho : w'.os = w.os) (hp : w'.output = w.output) (ht : w'.tape = w.tape := by rfl) (hd : w.drawn ≤ w'.drawn := by first | exact Nat.le_refl _ | exact Nat.le_succ _) : Side w w' := by
  exact ⟨ho, hp, ht, fun _ => hd⟩
theorem Side.setRow (w : World) (g : Nat) (cs : Array Value) : Side w (w.setRow g cs) := by
  exact ⟨rfl, rfl, rfl, fun _ => Nat.le_refl _⟩
end Go.Eng
namespace Go.Eng
open Go
variable [RecP]
def GoodV (own : Nat → Prop) (σ : Stab) (j : Inj) (M : Mem) (w : World) (av : AV) (M' : Mem) (r : Result Value) : Prop :=
  ∃ v w' σ' j', r = .ok v w' ∧ AVR σ' j' av v ∧ Agree σ' w' ∧ MR own σ' j' M' w' ∧ Step own M.length σ j M w σ' j' M' w'
theorem GoodV.same {own : Nat → Prop} {σ : Stab} {j : Inj} {M : Mem} {w : World} {av : AV} {v : Value} {r : Result Value} (hr : r = .ok v w) (ha : AVR σ j av v) (hg : Agree σ w) (hm : MR own σ j M w) :
    GoodV own σ j M w av M r := ⟨v, w, σ, j, hr, ha, hg, hm, Step.refl⟩
theorem GoodV.map {own : Nat → Prop} {σ : Stab} {j : Inj} {M : Mem} {w : World} {av : AV} {M' : Mem} {P : Program} {s : Sem Value}
    (h : GoodV own σ j M w av M' (s.run P w)) : ∃ v w' σ' j', (s.run P w) = .ok v w' ∧ AVR σ' j' av v ∧ Agree σ' w' ∧ MR own σ' j' M' w' ∧ Step own M.length σ j M w σ' j' M' w' := h
theorem run_isAggT {P : Program} {t : TypeId} {g : Bool} (h : isAggT P t = some g) (w : World) : (isAgg t).run P w = .ok g w := by
  unfold isAggT at h
  cases hd : P.underlying t with
  | none => rw [hd] at h; cases h
  | some d => rw [hd] at h; cases d <;> simp at h <;> subst h <;> simp [isAgg, run_underlying hd]
theorem run_sizeT {P : Program} {t : TypeId} {n : Nat} (h : sizeT P t = some n) (w : World) : (sizeOf t).run P w = .ok n w := by
  unfold sizeT at h
  cases hd : P.info? t with
  | none => rw [hd] at h; cases h
  | some d => rw [hd] at h; simp at h; subst h; simp [sizeOf, typeInfo, hd]
theorem run_typeInfo {P : Program} {t : TypeId} {i : TypeInfo} (h : P.info? t = some i) (w : World) : (typeInfo t).run P w = .ok i w := by
  simp [typeInfo, h]
theorem clOf_sound {σ : Stab} {j : Inj} {v : Value} {c : Cl} (h : clOf v = some c) : VC σ j c v := by
  unfold clOf at h
  split at h <;> first
    | (cases h; constructor; done)
    | (cases h; done)
theorem clsOf_sound {σ : Stab} {j : Inj} : ∀ {vs : List Value} {cs : List Cl}, clsOf vs = some cs → VCs σ j cs vs
  | [], cs, h => by simp [clsOf] at h; subst h; exact VCs.nil
  | v :: vs, cs, h => by
    unfold clsOf at h
    split at h
    · rename_i c cs' hc hcs; cases h; exact VCs.cons (clOf_sound hc) (clsOf_sound hcs)
    · cases h
theorem wvOf_sound {σ : Stab} {j : Inj} {v : Value} {x : WV} (h : wvOf v = some x) : WVR σ j x v := by
  unfold wvOf at h
  split at h
  · rename_i cs
    cases hc : clsOf cs.toList with
    | none => rw [hc] at h; cases h
    | some l => rw [hc] at h; cases h; exact ⟨cs, rfl, clsOf_sound hc⟩
  · cases hc : clOf v with
    | none => rw [hc] at h; cases h
    | some l => rw [hc] at h; cases h; exact clOf_sound hc
section
variable {own : Nat → Prop} {σ : Stab} {j : Inj} {M : Mem} {w : World} {E : Nat → Option AV} {a : Act} {P : Program}
theorem slot_sound (hE : EnvR σ j E a.tmps) {n : Nat} {x : AV} (h : E n = some x) : AVR σ j x (a.eval (.tmp n)) := by
  obtain ⟨v, hv, hr⟩ := hE n x h
  have : a.eval (.tmp n) = v := by simp [Act.eval, Array.getD_eq_getD_getElem?, hv]
  rw [this]; exact hr
theorem glob_sound (hG : GK σ) {g : Nat} {row : List Cl} (h : GlobP.row g = some row) : VC σ j (.rptr row 0) (a.eval (.global g)) := by
  have hk := hG g row h
  have h1 : ∀ n c, row[n]? = some c → ∃ v, σ g (0 + n) = some v ∧ VC σ noInj c v := fun n c hc => by rw [Nat.zero_add]; exact hk n c hc
  have := VC.rptr (σ := σ) j row 0 g 0 (fun n => (σ g (0 + n)).getD undef) (fun n c hc => by obtain ⟨v, hv, _⟩ := h1 n c hc; rw [hv]; rfl) (fun n c hc => by obtain ⟨v, hv, hvc⟩ := h1 n c hc; rw [hv]; exact hvc)
  exact this
theorem opd_sound (hG : GK σ) (hE : EnvR σ j E a.tmps) {x : Operand} {o : Opd} {y : WV} (ho : opdOf x = some o) (hy : o.ev E = some y) : WVR σ j y (a.eval x) := by
  cases x with
  | tmp t =>
    simp only [opdOf, Option.some.injEq] at ho; subst ho
    simp only [Opd.ev] at hy
    split at hy
    · rename_i x hx; cases hy; exact slot_sound hE hx
    · cases hy
  | const v =>
    simp only [opdOf, Option.map_eq_some_iff] at ho
    obtain ⟨z, hz, rfl⟩ := ho
    simp only [Opd.ev, Option.some.injEq] at hy; subst hy
    exact wvOf_sound hz
  | global g =>
    simp only [opdOf, Option.map_eq_some_iff] at ho
    obtain ⟨row, hrow, rfl⟩ := ho
    simp only [Opd.ev, Option.some.injEq] at hy; subst hy
    exact glob_sound hG hrow
  | func f =>
    simp only [opdOf, Option.some.injEq] at ho; subst ho
    simp only [Opd.ev, Option.some.injEq] at hy; subst hy
    exact .fn _ _ _ _ _ _ rfl rfl (fun n c v hc _ => by simp at hc) (fun n c v hc _ => by simp at hc)
theorem opd_av_sound (hG : GK σ) (hE : EnvR σ j E a.tmps) {x : Operand} {o : Opd} {y : AV} (ho : opdOf x = some o) (hy : o.av E = some y) : AVR σ j y (a.eval x) := by
  cases x with
  | tmp t =>
    simp only [opdOf, Option.some.injEq] at ho; subst ho
    simp only [Opd.av] at hy
    obtain ⟨v, hv, hr⟩ := hE t y hy
    have : a.eval (.tmp t) = v := by simp [Act.eval, Array.getD_eq_getD_getElem?, hv]
    rw [this]; exact hr
  | const v =>
    simp only [opdOf, Option.map_eq_some_iff] at ho
    obtain ⟨z, hz, rfl⟩ := ho
    simp only [Opd.av, Option.some.injEq] at hy; subst hy
    exact wvOf_sound hz
  | global g =>
    simp only [opdOf, Option.map_eq_some_iff] at ho
    obtain ⟨row, hrow, rfl⟩ := ho
    simp only [Opd.av, Option.some.injEq] at hy; subst hy
    exact glob_sound (σ := σ) hG hrow
  | func f =>
    simp only [opdOf, Option.some.injEq] at ho; subst ho
    simp only [Opd.av, Option.some.injEq] at hy; subst hy
    exact .fn _ _ _ _ _ _ rfl rfl (fun n c v hc _ => by simp at hc) (fun n c v hc _ => by simp at hc)
theorem opds_sound (hG : GK σ) (hE : EnvR σ j E a.tmps) : ∀ {xs : List Operand} {os : List Opd} {ys : List WV}, opdsOf xs = some os → evs E os = some ys → WVRs σ j ys (xs.map a.eval)
  | [], os, ys, ho, hy => by simp only [opdsOf, Option.some.injEq] at ho; subst ho; simp only [evs, Option.some.injEq] at hy; subst hy; exact WVRs.nil
  | x :: xs, os, ys, ho, hy => by
    simp only [opdsOf] at ho
    split at ho
    · rename_i c cs hc hcs; cases ho
      simp only [evs] at hy
      split at hy
      · rename_i v vs hv hvs; cases hy; exact WVRs.cons (opd_sound hG hE hc hv) (opds_sound hG hE hcs hvs)
      · cases hy
    · cases ho
theorem choose_cells {cs : List Cl} {f : Nat → Option Value} (h : ∀ (m : Nat) (c : Cl), cs[m]? = some c → ∃ v, f m = some v ∧ VC σ j c v) :
    ∃ vs, VCs σ j cs vs ∧ ∀ (m : Nat) (v : Value), vs[m]? = some v → f m = some v := by
  refine ⟨(List.range cs.length).map fun m => (f m).getD undef, VCs.of_get (by simp) (fun n c hc => ?_), fun m v hv => ?_⟩
  · obtain ⟨v, hv, hr⟩ := h n c hc
    have hn : n < cs.length := by
      rcases Nat.lt_or_ge n cs.length with hh | hh
      · exact hh
      · rw [List.getElem?_eq_none hh] at hc; cases hc
    exact ⟨v, by simp [hn, hv], hr⟩
  · rw [List.getElem?_map] at hv
    rcases Nat.lt_or_ge m cs.length with hm | hm
    · simp [hm] at hv
      obtain ⟨v', hv', _⟩ := h m _ (List.getElem?_eq_getElem hm)
      rw [hv'] at hv; simp at hv; rw [hv', hv]
    · simp [hm] at hv
theorem cut_get {row cs : List Cl} {k n : Nat} (h : cut row k n = some cs) : cs.length = n ∧ k + n ≤ row.length ∧ ∀ (m : Nat) (c : Cl), cs[m]? = some c → row[k + m]? = some c := by
  unfold cut at h
  split at h
  · rename_i hk
    cases h
    refine ⟨by simp; omega, hk, fun m c hc => ?_⟩
    rw [List.getElem?_take] at hc
    split at hc
    · simpa using hc
    · cases hc
  · cases h
theorem run_loadVar_cells {t : TypeId} {agg : Bool} {size : Nat} {cs : List Cl} {vs : List Value} {x : WV} (hg : isAggT P t = some agg) (hs : sizeT P t = some size)
    (hn : cs.length = if agg then size else 1) (hv : VCs σ j cs vs) (hx : ofCells agg cs = some x) {b o : Nat} (hc : ∀ (m : Nat) (v : Value), vs[m]? = some v → w.cell? ⟨b, o + m, none⟩ = some v) :
    (loadVar t ⟨b, o, none⟩).run P w = .ok (if agg then .agg vs.toArray else vs.headD undef) w := by
  cases agg with
  | true =>
    simp only [if_true] at hn
    have hl : vs.length = size := by rw [← hv.1, hn]
    have := run_loadCells_list (P := P) w ⟨b, o, none⟩ vs (fun m v h => by rw [Addr.add_lit]; exact hc m v h)
    rw [hl] at this
    simp [loadVar, run_isAggT hg, run_sizeT hs, this]
  | false =>
    match cs, hv, hx with
    | [c], hv, hx =>
      obtain ⟨v, vs', rfl, h1, h2⟩ := hv.uncons
      have := h2.unnil; subst this
      have h0 := hc 0 v rfl
      simp only [Nat.add_zero] at h0
      simp [loadVar, run_isAggT hg, h0]
theorem load_good {t : TypeId} {agg : Bool} {size : Nat} {p : Cl} {v : Value} {av : AV} {M' : Mem} {fp : FP} (hg : isAggT P t = some agg) (hs : sizeT P t = some size)
    (h : loadOp M agg (if agg then size else 1) p = some (av, M', fp)) (hv : VC σ j p v) (hag : Agree σ w) (hm : MR own σ j M w) :
    GoodV own σ j M w av M' ((Instr.loadAt t v).run P w) := by
  unfold loadOp at h
  split at h
  · rename_i id g i k
    cases hv with
    | ptr _ _ _ _ _ L hL =>
      split at h
      · rename_i b hb0
        obtain ⟨hb, hgen⟩ := look_some hb0
        subst hgen
        split at h
        · rename_i row hrow
          split at h
          · rename_i cs hcs
            obtain ⟨hl, hk, hget⟩ := cut_get hcs
            simp only [Option.map_eq_some_iff] at h
            obtain ⟨x, hx, he⟩ := h
            cases he
            obtain ⟨vs, hvs, hcell⟩ := choose_cells (σ := σ) (j := j) (cs := cs) (f := fun m => w.cell? ⟨L.blk, L.off + i * L.esz + k + m, none⟩) (fun m c hc => by
              obtain ⟨v, h1, h2, _⟩ := hm.cell hb hL hrow (hget m c hc)
              exact ⟨v, by rw [← h1, Nat.add_assoc], h2⟩)
            have := run_loadVar_cells (P := P) (w := w) hg hs hl hvs hx hcell
            exact GoodV.same (by simp [Instr.loadAt, Instr.sureAddr, this]) (WVR.of_cells vs hvs hx) hag hm
          · cases h
        · cases h
      · cases h
  · rename_i row k
    cases hv with
    | rptr _ _ _ b o val h1 h2 =>
      split at h
      · rename_i cs hcs
        obtain ⟨hl, hk, hget⟩ := cut_get hcs
        simp only [Option.map_eq_some_iff] at h
        obtain ⟨x, hx, he⟩ := h
        cases he
        obtain ⟨vs, hvs, hcell⟩ := choose_cells (σ := σ) (j := j) (cs := cs) (f := fun m => w.cell? ⟨b, o + k + m, none⟩) (fun m c hc => by
          refine ⟨val (k + m), ?_, VC.of_noInj (h2 _ _ (hget m c hc))⟩
          rw [Nat.add_assoc]; exact hag.cells _ _ _ (h1 _ _ (hget m c hc)))
        have := run_loadVar_cells (P := P) (w := w) hg hs hl hvs hx hcell
        exact GoodV.same (by simp [Instr.loadAt, Instr.sureAddr, this]) (WVR.of_cells vs hvs hx) hag hm
      · cases h
  · cases h
end
end Go.Eng
namespace Go.Eng
open Go
variable [RecP]
section
variable {own : Nat → Prop} {σ : Stab} {j : Inj} {M : Mem} {w : World} {E : Nat → Option AV} {a : Act} {P : Program}
theorem vc_int {k : IntKind} {n : Int} {v : Value} (h : VC σ j (.int k n) v) : v = .int k n := by cases h; rfl
theorem vc_bool {b : Bool} {v : Value} (h : VC σ j (.bool b) v) : v = .bool b := by cases h; rfl
theorem bin_good {op : BinOp} {t : TypeId} {xo yo : Operand} {x y c : Cl} {vx vy : Value} (h : binC op x y = some c) (hx : VC σ j x vx) (hy : VC σ j y vy) :
    ∃ v, (do eqGuard op t xo yo vx vy; binOp op t vx vy : Sem Value).run P w = .ok v w ∧ VC σ j c v := by
  unfold binC at h
  split at h
  · rename_i k x k' y
    obtain rfl := vc_int hx
    obtain rfl := vc_int hy
    split at h
    · split at h
      · cases h
      · rename_i h0
        cases h
        refine ⟨_, ?_, .int _ _ _⟩
        simp [eqGuard, binOp, Op.shift, h0]
    · split at h
      · cases h
      · rename_i h0
        cases h
        refine ⟨_, ?_, .int _ _ _⟩
        simp [eqGuard, binOp, Op.shift, h0]
    · rename_i hs1 hs2
      split at h
      · rename_i hk; subst hk
        cases op <;> simp only [binI] at h <;> first
          | (cases h; done)
          | (exact absurd rfl hs1)
          | (exact absurd rfl hs2)
          | (cases h; refine ⟨_, ?_, .int _ _ _⟩; simp [eqGuard, binOp, Op.intArith]; done)
          | (cases h; refine ⟨_, ?_, .bool _ _⟩; simp [eqGuard, binOp, Op.intCmp]; done)
          | (cases h; refine ⟨_, ?_, .int _ _ _⟩; simp [eqGuard, binOp, Op.intBits]; done)
          | (split at h
             · cases h
             · rename_i h0; cases h; refine ⟨_, ?_, .int _ _ _⟩; simp [eqGuard, binOp, Op.intDiv, h0])
      · cases h
  · cases h
theorem str_good {op : BinOp} {t : TypeId} {xo yo : Operand} {x y : ByteArray} {c : Cl} (h : strOp op x y = some c) :
    ∃ v, (do eqGuard op t xo yo (.string x) (.string y); binOp op t (.string x) (.string y) : Sem Value).run P w = .ok v w ∧ VC σ j c v := by
  unfold strOp at h
  split at h
  · split at h
    · cases h
    · rename_i h0
      cases h
      refine ⟨_, ?_, .str _ _⟩
      have hm : IntKind.i64.max = 9223372036854775807 := rfl
      rw [hm] at h0
      simp [eqGuard, binOp, Op.stringOp]
      omega
  all_goals first
    | (cases h; done)
    | (cases h; refine ⟨_, ?_, .bool _ _⟩; simp [eqGuard, binOp, Op.stringOp]; done)
theorem p1_good {k : P1} {v : WV} {r : AV} {u : Value} (h : p1F k v = some r) (hv : WVR σ j v u) : match (generalizing := false) k with
    | .mkif t => r ≠ .u ∧ AVR σ j r (.iface t u)
    | .tass ok t z => ∃ t' u', (u = .iface t' u' ∧ ((t' = t ∧ AVR σ j r (if ok then .tuple #[u', .bool true] else u')) ∨ (t' ≠ t ∧ ok = true ∧ r = .t [z, .c (.bool false)]))) ∨ (u = .nilIface ∧ ok = true ∧ r = .t [z, .c (.bool false)]) := by
  cases k with
  | mkif t =>
    cases v with
    | c x => cases h; exact ⟨by simp, VC.iface0 _ t x u hv⟩
    | a cs =>
      cases h
      obtain ⟨arr, rfl, hs⟩ := hv
      exact ⟨by simp, VC.iface1 _ t cs arr hs.1 hs.2⟩
  | tass ok t z =>
    show ∃ t' u', _
    cases v with
    | a cs => cases h
    | c x =>
      cases x with
      | iface t' agg cs =>
        have hv : VC σ j (.iface t' agg cs) u := hv
        have key : ∃ u', u = .iface t' u' ∧ ∀ x, ofCells agg cs = some x → WVR σ j x u' := by
          cases hv with
          | iface0 _ _ c v hc => exact ⟨v, rfl, fun x hx => by simp [ofCells] at hx; subst hx; exact hc⟩
          | iface1 _ _ _ vs l hs => exact ⟨.agg vs, rfl, fun x hx => by simp [ofCells] at hx; subst hx; exact ⟨vs, rfl, l, hs⟩⟩
        obtain ⟨u', rfl, hk⟩ := key
        simp only [p1F] at h
        split at h
        · rename_i ht
          split at h
          · rename_i x hx
            cases h
            refine ⟨t', u', .inl ⟨rfl, .inl ⟨ht, ?_⟩⟩⟩
            cases ok with
            | true => exact ⟨_, rfl, WVRs.cons (hk x hx) (WVRs.cons (show WVR σ j (.c (.bool true)) _ from .bool _ _) WVRs.nil)⟩
            | false => exact hk x hx
          · cases h
        · rename_i ht
          split at h
          · rename_i hok; cases h; exact ⟨t', u', .inl ⟨rfl, .inr ⟨ht, hok, rfl⟩⟩⟩
          · cases h
      | niliface =>
        have hv : VC σ j .niliface u := hv
        cases hv
        simp only [p1F] at h
        split at h
        · rename_i hok; cases h; exact ⟨0, .nilIface, .inr ⟨rfl, hok, rfl⟩⟩
        · cases h
      | _ => cases h
theorem run_equal_bool (t : TypeId) (a b : Bool) (w : World) (h : P.underlying t = some .bool) : (Op.equal t (.bool a) (.bool b)).run P w = .ok (a == b) w :=
  run_equalIn_bool' w 9999 t a b h
theorem run_equalIn_ptr (d : Nat) (t e : TypeId) (p : Option Addr) (w : World) (h : P.underlying t = some (.pointer e)) : (Op.equalIn (d + 1) t (.pointer p) (.pointer none)).run P w = .ok p.isNone w := by
  cases p <;> simp [Op.equalIn, run_underlying h]
theorem run_equal_ptr (t e : TypeId) (p : Option Addr) (w : World) (h : P.underlying t = some (.pointer e)) : (Op.equal t (.pointer p) (.pointer none)).run P w = .ok p.isNone w :=
  run_equalIn_ptr 9999 t e p w h
theorem eqb_good {op : BinOp} {neg : Bool} {t : TypeId} {xo yo : Operand} {x y c : Cl} {vx vy : Value} (ht : P.underlying t = some .bool) (hop : (op = .eql ∧ neg = false) ∨ (op = .neq ∧ neg = true)) (h : eqbC neg x y = some c)
    (hx : VC σ j x vx) (hy : VC σ j y vy) : ∃ v, (do eqGuard op t xo yo vx vy; binOp op t vx vy : Sem Value).run P w = .ok v w ∧ VC σ j c v := by
  unfold eqbC at h
  split at h
  · rename_i a b
    cases h
    obtain rfl := vc_bool hx
    obtain rfl := vc_bool hy
    refine ⟨_, ?_, .bool _ _⟩
    rcases hop with ⟨rfl, rfl⟩ | ⟨rfl, rfl⟩ <;> simp [eqGuard, binOp, run_equal_bool _ _ _ _ ht]
  · cases h
theorem isnil_good {op : BinOp} {neg : Bool} {t e : TypeId} {xo yo : Operand} {x c : Cl} {vx : Value} (ht : P.underlying t = some (.pointer e)) (hop : (op = .eql ∧ neg = false) ∨ (op = .neq ∧ neg = true)) (h : nilC neg x = some c)
    (hx : VC σ j x vx) : ∃ v, (do eqGuard op t xo yo vx (.pointer none); binOp op t vx (.pointer none) : Sem Value).run P w = .ok v w ∧ VC σ j c v := by
  unfold nilC at h
  split at h
  · cases h; cases hx
    refine ⟨_, ?_, .bool _ _⟩
    rcases hop with ⟨rfl, rfl⟩ | ⟨rfl, rfl⟩ <;> simp [eqGuard, binOp, run_equal_ptr _ _ _ _ ht]
  · cases h; cases hx
    refine ⟨_, ?_, .bool _ _⟩
    rcases hop with ⟨rfl, rfl⟩ | ⟨rfl, rfl⟩ <;> simp [eqGuard, binOp, run_equal_ptr _ _ _ _ ht]
  · cases h; cases hx
    refine ⟨_, ?_, .bool _ _⟩
    rcases hop with ⟨rfl, rfl⟩ | ⟨rfl, rfl⟩ <;> simp [eqGuard, binOp, run_equal_ptr _ _ _ _ ht]
  · cases h
theorem eqCells_append : ∀ (ss : List Bool) (as bs : List Cl) (ss' : List Bool) (as' bs' : List Cl), as.length = ss.length → bs.length = ss.length → eqCells (ss ++ ss') (as ++ as') (bs ++ bs') = match eqCells ss as bs with
    | some true => eqCells ss' as' bs'
    | r => r
  | [], [], [], ss', as', bs', _, _ => by simp [eqCells]
  | s :: ss, x :: as, y :: bs, ss', as', bs', h, h' => by
    simp only [List.cons_append, eqCells]
    cases eqC1 s x y with
    | none => rfl
    | some r => cases r with
      | true => exact eqCells_append ss as bs ss' as' bs' (by simpa using h) (by simpa using h')
      | false => rfl
  | [], [], _ :: _, _, _, _, _, h => by simp at h
  | [], _ :: _, _, _, _, _, h, _ => by simp at h
  | _ :: _, [], _, _, _, _, h, _ => by simp at h
  | _ :: _, _ :: _, [], _, _, _, _, h => by simp at h
theorem eqC1_good {t : TypeId} {d : Nat} {s : Bool} {x y : Cl} {vx vy : Value} {r : Bool} (ht : if s then P.underlying t = some .bool else ∃ k, P.underlying t = some (.int k)) (h : eqC1 s x y = some r)
    (hx : VC σ j x vx) (hy : VC σ j y vy) : (Op.equalIn (d + 1) t vx vy).run P w = .ok r w := by
  unfold eqC1 at h
  split at h
  · split at h
    · rename_i hkk; subst hkk
      cases h
      obtain rfl := vc_int hx
      obtain rfl := vc_int hy
      simp at ht
      obtain ⟨k', hk'⟩ := ht
      exact run_equalIn_int w d t _ _ _ _ hk'
    · cases h
  · cases h
    obtain rfl := vc_bool hx
    obtain rfl := vc_bool hy
    exact run_equalIn_bool' w d t _ _ (by simpa using ht)
  · cases h
def FlatOK (P : Program) (d : Nat) (t : TypeId) (sh : List Bool) : Prop :=
  0 < sh.length ∧ ((isAggT P t = some true ∧ sizeT P t = some sh.length ∧ ∀ (σ : Stab) (j : Inj) (w : World) (as bs : List Cl) (va vb : List Value) (r : Bool), VCs σ j as va → VCs σ j bs vb → as.length = sh.length → bs.length = sh.length → eqCells sh as bs = some r →
    (Op.equalIn d t (.agg va.toArray) (.agg vb.toArray)).run P w = .ok r w) ∨
  (isAggT P t = some false ∧ ∃ s, sh = [s] ∧ ∀ (σ : Stab) (j : Inj) (w : World) (x y : Cl) (vx vy : Value) (r : Bool), VC σ j x vx → VC σ j y vy → eqC1 s x y = some r → (Op.equalIn d t vx vy).run P w = .ok r w))
theorem eqFields_good {d : Nat} {flat : TypeId → Option (List Bool)} (hflat : ∀ t sh, flat t = some sh → FlatOK P d t sh) : ∀ (fs : List Field) (off : Nat) (sh : List Bool), flatFs flat fs off = some sh →
    ∀ (as bs : List Cl) (va vb : List Value) (r : Bool) (w : World), VCs σ j as va → VCs σ j bs vb → as.length = off + sh.length → bs.length = off + sh.length → eqCells sh (as.drop off) (bs.drop off) = some r →
    (Op.eqFields d va.toArray vb.toArray fs).run P w = .ok r w
  | [], off, sh, h, as, bs, va, vb, r, w, ha, hb, hla, hlb, he => by
    simp only [flatFs, Option.some.injEq] at h; subst h
    have h1 : as.drop off = [] := List.drop_eq_nil_of_le (by simp at hla; omega)
    have h2 : bs.drop off = [] := List.drop_eq_nil_of_le (by simp at hlb; omega)
    rw [h1, h2] at he
    simp only [eqCells, Option.some.injEq] at he; subst he
    simp [Op.eqFields]
  | f :: fs, off, sh, h, as, bs, va, vb, r, w, ha, hb, hla, hlb, he => by
    simp only [flatFs] at h
    split at h
    · rename_i s1 hs1
      split at h
      · rename_i hcond
        simp only [Bool.and_eq_true, bne_iff_ne, ne_eq, decide_eq_true_eq] at hcond
        obtain ⟨hname, hoff⟩ := hcond
        simp only [Option.map_eq_some_iff] at h
        obtain ⟨s2, hs2, rfl⟩ := h
        obtain ⟨hpos, hok⟩ := hflat _ _ hs1
        simp only [List.length_append] at hla hlb
        have e1 : as.drop off = (as.drop off).take s1.length ++ as.drop (off + s1.length) := by rw [← List.drop_drop, List.take_append_drop]
        have e2 : bs.drop off = (bs.drop off).take s1.length ++ bs.drop (off + s1.length) := by rw [← List.drop_drop, List.take_append_drop]
        have l1 : ((as.drop off).take s1.length).length = s1.length := by simp; omega
        have l2 : ((bs.drop off).take s1.length).length = s1.length := by simp; omega
        rw [e1, e2, eqCells_append _ _ _ _ _ _ l1 l2] at he
        have q1 := (ha.drop off).take s1.length
        have q2 := (hb.drop off).take s1.length
        have hrest : ∀ w, eqCells s2 (as.drop (off + s1.length)) (bs.drop (off + s1.length)) = some r → (Op.eqFields d va.toArray vb.toArray fs).run P w = .ok r w :=
          fun w h => eqFields_good hflat fs (off + s1.length) s2 hs2 as bs va vb r w ha hb (by omega) (by omega) h
        have key : ∃ x y b, (part f.type va.toArray f.offset).run P w = .ok x w ∧ (part f.type vb.toArray f.offset).run P w = .ok y w ∧ eqCells s1 ((as.drop off).take s1.length) ((bs.drop off).take s1.length) = some b ∧
            (Op.equalIn d f.type x y).run P w = .ok b w := by
          have hb' : ∃ b, eqCells s1 ((as.drop off).take s1.length) ((bs.drop off).take s1.length) = some b := by
            cases hh : eqCells s1 ((as.drop off).take s1.length) ((bs.drop off).take s1.length) with
            | none => rw [hh] at he; cases he
            | some b => exact ⟨b, rfl⟩
          obtain ⟨b, hb'⟩ := hb'
          rcases hok with ⟨hg, hsz, hall⟩ | ⟨hg, s, rfl, hall⟩
          · refine ⟨_, _, b, ?_, ?_, hb', hall σ j w _ _ _ _ b q1 q2 l1 l2 hb'⟩
            · simp [part, run_isAggT hg, run_sizeT hsz, hoff]
            · simp [part, run_isAggT hg, run_sizeT hsz, hoff]
          · have la : off < as.length := by simp at hla; omega
            have lb : off < bs.length := by simp at hlb; omega
            have ea : (as.drop off).take 1 = [as[off]] := by rw [List.drop_eq_getElem_cons la]; rfl
            have eb : (bs.drop off).take 1 = [bs[off]] := by rw [List.drop_eq_getElem_cons lb]; rfl
            obtain ⟨x, hx, hxr⟩ := ha.get (List.getElem?_eq_getElem la)
            obtain ⟨y, hy, hyr⟩ := hb.get (List.getElem?_eq_getElem lb)
            have hb2 := hb'
            simp only [List.length_singleton, ea, eb, eqCells] at hb2
            have hb3 : eqC1 s as[off] bs[off] = some b := by
              cases hq : eqC1 s as[off] bs[off] with
              | none => rw [hq] at hb2; cases hb2
              | some q => rw [hq] at hb2; cases q <;> simpa using hb2
            refine ⟨x, y, b, ?_, ?_, hb', hall σ j w _ _ _ _ b hxr hyr hb3⟩
            · simp [part, run_isAggT hg, hoff, hx]
            · simp [part, run_isAggT hg, hoff, hy]
        obtain ⟨x, y, b, k1, k2, k3, k4⟩ := key
        rw [k3] at he
        simp only [Op.eqFields, ne_eq, hname, not_false_eq_true, if_true, Sem.run_bind, k1, k2, k4, Result.andThen_ok]
        cases b with
        | true => simpa using hrest w he
        | false => simp only [Option.some.injEq] at he; subst he; simp
      · cases h
    · cases h
theorem flat_good : ∀ (d : Nat) (t : TypeId) (sh : List Bool), flatT P d t = some sh → FlatOK P d t sh
  | 0, t, sh, h => by simp [flatT] at h
  | d + 1, t, sh, h => by
    simp only [flatT] at h
    split at h
    · rename_i k hk
      cases h
      exact ⟨by simp, .inr ⟨by simp [isAggT, hk], false, rfl, fun σ j w x y vx vy r hx hy he => eqC1_good (by simpa using ⟨k, hk⟩) he hx hy⟩⟩
    · rename_i hk
      cases h
      exact ⟨by simp, .inr ⟨by simp [isAggT, hk], true, rfl, fun σ j w x y vx vy r hx hy he => eqC1_good (by simpa using hk) he hx hy⟩⟩
    · rename_i fs hk
      split at h
      · cases h
      · rename_i hst
        split at h
        · rename_i s hs
          split at h
          · rename_i hsz
            cases h
            have hfo : P.fieldsOf t = fs := by simp [Program.fieldsOf, hk]
            refine ⟨hsz.2, .inl ⟨by simp [isAggT, hk], hsz.1, fun σ j w as bs va vb r ha hb hla hlb he => ?_⟩⟩
            rw [run_equalIn_struct w d t _ _ (by rw [hfo]; exact hk) (by simpa using hst), hfo]
            exact eqFields_good (fun t sh h => flat_good d t sh h) fs.toList 0 sh hs as bs va vb r w ha hb (by simpa using hla) (by simpa using hlb) (by simpa using he)
          · cases h
        · cases h
    · cases h
end
end Go.Eng
namespace Go.Eng
open Go
variable [RecP]
theorem getElem?_splice {α : Type} (l vs : List α) (o : Nat) (h : o + vs.length ≤ l.length) (p : Nat) :
    (l.take o ++ vs ++ l.drop (o + vs.length))[p]? = if p < o then l[p]? else if p < o + vs.length then vs[p - o]? else l[p]? := by
  grind
theorem rows_apart {i i' esz n n' : Nat} (hne : i ≠ i') (hn : n < esz) (hn' : n' < esz) : i * esz + n ≠ i' * esz + n' := by
  rcases Nat.lt_or_gt_of_ne hne with hlt | hlt
  · have := Nat.mul_le_mul_right esz (Nat.succ_le_of_lt hlt)
    grind
  · have := Nat.mul_le_mul_right esz (Nat.succ_le_of_lt hlt)
    grind
theorem row_in {i k esz : Nat} (h : i < k) : i * esz + esz ≤ k * esz := by
  have := Nat.mul_le_mul_right esz (Nat.succ_le_of_lt h)
  grind
theorem lt_of_get {α : Type} {l : List α} {i : Nat} {x : α} (h : l[i]? = some x) : i < l.length := by
  grind
theorem mem_of_get {α : Type} {l : List α} {i : Nat} {x : α} (h : l[i]? = some x) : x ∈ l := List.mem_of_getElem? h
theorem VC.oneCell {σ : Stab} {j : Inj} {c : Cl} {v : Value} (h : VC σ j c v) : v.oneCell' = true := by
  cases h <;> rfl
theorem VCs.one {σ : Stab} {j : Inj} {cs : List Cl} {vs : List Value} (h : VCs σ j cs vs) : ∀ v ∈ vs, v.oneCell' = true := by
  intro v hv
  obtain ⟨n, hn⟩ := List.getElem?_of_mem hv
  have hl := lt_of_get hn
  rw [← h.1] at hl
  exact (h.2 n _ v (List.getElem?_eq_getElem hl) hn).oneCell
section
variable {own : Nat → Prop} {σ : Stab} {j : Inj} {M : Mem} {w : World} {E : Nat → Option AV} {a : Act} {P : Program}
theorem splice_get {row row' cs : List Cl} {k : Nat} (h : splice row k cs = some row') : k + cs.length ≤ row.length ∧ row'.length = row.length ∧
    ∀ (p : Nat) (c : Cl), row'[p]? = some c → (k ≤ p ∧ p < k + cs.length ∧ cs[p - k]? = some c) ∨ ((p < k ∨ k + cs.length ≤ p) ∧ row[p]? = some c) := by
  grind [splice, getElem?_splice]
theorem store_cells {id i k : Nat} {b : Blk} {L : Loc} {row row' cs : List Cl} {vs : List Value} (hm : MR own σ j M w) (hag : Agree σ w) (hb : M[id]? = some (some b)) (hL : j id b.gen = some (.loc L)) (hfz : b.fz = false)
    (hrow : b.rows[i]? = some row) (hsp : splice row k cs = some row') (hv : VCs σ (if b.box then j else noInj) cs vs) :
    ∃ w', (storeCells ⟨L.blk, L.off + i * L.esz + k, none⟩ vs).run P w = .ok () w' ∧ Agree σ w' ∧ MR own σ j (M.set id (some { b with rows := b.rows.set i row', ver := b.ver + 1 })) w' ∧
      Step own M.length σ j M w σ j (M.set id (some { b with rows := b.rows.set i row', ver := b.ver + 1 })) w' := by
  obtain ⟨pl, hpl, hbr, hown⟩ := hm.blk id b hb
  rw [hL] at hpl; cases hpl
  have hbr : BL σ j b L w := hbr
  obtain ⟨C, T, fr, hC, hfr, hsz, hr⟩ := hbr.heap
  have hf0 : fr = (0, 0) := by
    by_cases h : fr = (0, 0)
    · exact h
    · rw [(hfr h).1] at hfz; cases hfz
  subst hf0
  obtain ⟨hk, hlen, hget⟩ := splice_get hsp
  have hrl : row.length = b.esz := hbr.len row (mem_of_get hrow)
  have hi : i < b.rows.length := lt_of_get hrow
  have hin := row_in (esz := b.esz) hi
  have hfit := hbr.fit
  have hes := hbr.esz
  have hroom : L.off + i * b.esz + k + vs.length ≤ C.size := by rw [← hv.1]; omega
  have hst := run_storeCells_at P L.blk (L.off + i * L.esz + k) T vs 0 C w hC (by rw [hes]; omega) hv.one
  simp only [Nat.add_zero] at hst
  generalize hC' : (C.toList.take (L.off + i * L.esz + k) ++ vs ++ C.toList.drop (L.off + i * L.esz + k + vs.length)).toArray = C' at hst
  have hC'sz : C'.size = C.size := by grind
  have hC'get : ∀ p, C'[p]? = if p < L.off + i * L.esz + k then C[p]? else if p < L.off + i * L.esz + k + vs.length then vs[p - (L.off + i * L.esz + k)]? else C[p]? := by
    intro p
    rw [← hC', List.getElem?_toArray, getElem?_splice _ _ _ (by grind)]
    simp
  have hheap : (w.setRow L.blk C').heap[L.blk]? = some (.cells C' T (0, 0)) := setRow_heap w _ C C' T _ hC
  have hblt : L.blk < w.heap.size := (Array.getElem?_eq_some_iff.1 hC).1
  have hslen : (b.rows.set i row').length = b.rows.length := by simp
  refine ⟨w.setRow L.blk C', hst, ?_, ?_, ?_⟩
  · refine ⟨?_, hag.glob⟩
    intro b' o v hv'
    have hold := hag.cells b' o v hv'
    by_cases hbb : b' = L.blk
    · subst hbb
      have hlo : o < L.off := by
        rcases Nat.lt_or_ge o L.off with h | h
        · grind
        · have := hbr.stab o h (fun hh => by grind)
          grind
      simp only [World.cell?, hC, Option.isSome_none, Bool.false_eq_true, if_false] at hold
      simp only [World.cell?, hheap, Option.isSome_none, Bool.false_eq_true, if_false]
      rw [hC'get, if_pos (by omega)]; exact hold
    grind [World.cell?, setRow_other]
  · refine hm.write hb hL rfl (fun k' hk' => setRow_other w _ _ _ hk') ?_
    refine ⟨hes, hbr.pos, fun r hr' => ?_, by grind, ⟨C', T, (0, 0), hheap, fun h => absurd rfl h, by grind, ?_⟩, fun o h1 h2 => hbr.stab o h1 (fun h => by grind)⟩
    · rcases List.mem_or_eq_of_mem_set hr' with h | h
      · exact hbr.len r h
      grind
    · intro i' r n cl hi' hn
      simp only at hi' ⊢
      rw [List.getElem?_set] at hi'
      by_cases hii : i = i'
      · subst hii
        rw [if_pos rfl, if_pos hi] at hi'
        cases hi'
        have hnl := lt_of_get hn
        rcases hget n cl hn with ⟨h1, h2, h3⟩ | ⟨h1, h3⟩
        · obtain ⟨v, hv1, hv2⟩ := hv.get h3
          refine ⟨v, ?_, hv2⟩
          rw [hC'get, if_neg (by rw [hes]; omega), if_pos (by rw [hes, ← hv.1]; omega), ← hv1]
          congr 1
          rw [hes]; omega
        · obtain ⟨v, hv1, hv2⟩ := hr i row n cl hrow h3
          refine ⟨v, ?_, hv2⟩
          rw [hC'get]
          split
          · exact hv1
          · rw [if_neg]
            · exact hv1
            · rw [hes, ← hv.1] at *; omega
      · rw [if_neg hii] at hi'
        obtain ⟨v, hv1, hv2⟩ := hr i' r n cl hi' hn
        refine ⟨v, ?_, hv2⟩
        have hrl' : r.length = b.esz := hbr.len r (mem_of_get hi')
        have hnl := lt_of_get hn
        rw [hC'get]
        split
        · exact hv1
        · rw [if_neg]
          · exact hv1
          · intro hlt
            rename_i hge
            rw [hes, ← hv.1] at *
            exact rows_apart (n := L.off + i' * b.esz + n - (L.off + i * b.esz)) (n' := 0) (esz := b.esz) (i := 0) (i' := 1) (by omega) (by omega) (by omega) (by
              exfalso
              have := rows_apart (i := i) (i' := i') (esz := b.esz) (n := L.off + i' * b.esz + n - (L.off + i * b.esz)) (n' := n) hii (by omega) (by omega)
              omega)
  · refine ⟨Stab.le_refl _, fun _ _ _ _ h => h, by simp [World.setRow], fun b' hb' ho => ?_, fun _ _ _ h => .inl h, fun id' b' hid hb' => ?_, Side.setRow _ _ _⟩
    · exact setRow_other w _ _ _ (fun e => ho (e ▸ hown L rfl))
    · by_cases hid' : id = id'
      · subst hid'
        rw [hb] at hb'; cases hb'
        exact ⟨_, by simp [hid]; rfl, by simp, fun h => by simp at h⟩
      · refine ⟨b', by rw [List.getElem?_set_ne hid']; exact hb', Nat.le_refl _, fun _ => ⟨rfl, fun L' hL' => ?_⟩⟩
        exact setRow_other w _ _ _ (fun e => hid' (hm.injP id id' b b' L' hb hb' (by rw [e]; exact Inj.atk_loc hL) hL'))
theorem lay_new {id : Nat} {b' : Blk} {C : Array Value} {T : TypeId} {w' : World} (hm : MR own σ j M w) (hag : Agree σ w) (hown : ∀ b, w.heap.size ≤ b → own b) (hlt : id < M.length)
    (hg : ∀ b, M[id]? = some (some b) → b.gen < b'.gen ∧ b.ver < b'.ver) (hheap : w'.heap = w.heap.push (.cells C T (0, 0))) (hside : Side w w') (hpos : 0 < b'.esz) (hlen : ∀ row ∈ b'.rows, row.length = b'.esz)
    (hfit : b'.rows.length * b'.esz ≤ C.size)
    (hrow : ∀ (i : Nat) (row : List Cl) (n : Nat) (cl : Cl), b'.rows[i]? = some row → row[n]? = some cl → ∃ v, C[i * b'.esz + n]? = some v ∧ VC σ (if b'.box then j else noInj) cl v) :
    j id b'.gen = none ∧ Agree σ w' ∧ MR own σ (j.put id b'.gen (.loc ⟨w.heap.size, 0, b'.esz, C.size⟩)) (M.set id (some b')) w' ∧
      Step own M.length σ j M w σ (j.put id b'.gen (.loc ⟨w.heap.size, 0, b'.esz, C.size⟩)) (M.set id (some b')) w' := by
  have hold : ∀ k, k < w.heap.size → w'.heap[k]? = w.heap[k]? := fun k hk => by
    rw [hheap, Array.getElem?_push]; rw [if_neg (by omega)]
  have hnew : w'.heap[w.heap.size]? = some (.cells C T (0, 0)) := by grind
  have hnone : j id b'.gen = none := by
    cases h : j id b'.gen with
    | none => rfl
    | some pl =>
      obtain ⟨b, hb, hgb⟩ := hm.dom id _ pl h
      grind
  have hle := Inj.le_put (pl := .loc ⟨w.heap.size, 0, b'.esz, C.size⟩) hnone
  obtain ⟨_, hm'⟩ := hm.renew (w' := w') (pl' := .loc ⟨w.heap.size, 0, b'.esz, C.size⟩) hlt (fun b hb => (hg b hb).1) (fun k b q _ hb hL => ⟨hold _ (hm.heapLtP hb hL), fun e => by
      cases e; exact Nat.lt_irrefl _ (hm.heapLtP hb hL)⟩)
    (⟨rfl, hpos, hlen, by grind, ⟨C, T, (0, 0), hnew, fun h => absurd rfl h, rfl, fun i row n cl hi hn => by
        obtain ⟨v, hv, hvc⟩ := hrow i row n cl hi hn
        refine ⟨v, by grind, VC.mono (Stab.le_refl _) hvc ?_⟩
        grind [Inj.le_refl]⟩, fun o _ _ => by
        cases h : σ w.heap.size o with
        | none => rfl
        | some v => exact absurd (hag.lt h) (Nat.lt_irrefl _)⟩ : BL σ _ b' _ w') (fun k e => by cases e; grind)
  refine ⟨hnone, hag.of_blocks (fun b o v hv => hold b (hag.lt hv)), hm', Stab.le_refl _, fun k g pl _ h => hle k g pl h, by grind, fun k hk _ => hold k hk, fun _ _ _ h => .inl h, fun k b hk hb => ?_, hside⟩
  by_cases hid : id = k
  · grind
  · exact ⟨b, by grind, Nat.le_refl _, fun _ => ⟨rfl, fun L hL => hold _ (hm.heapLtP hb hL)⟩⟩
theorem newAt_some {id : Nat} {b : Blk} {M' : Mem} (h : newAt M id b = some M') : M[id]? = some none ∧ id < M.length ∧ M' = M.set id (some b) := by
  grind [newAt]
theorem box_good {t : TypeId} {n id : Nat} {cs : List Cl} {vx : Value} {M' : Mem} (hc : VCs σ j cs vx.cells.toList) (hn : cs.length = n) (hpos : 0 < n)
    (h : newAt M id { box := true, esz := n, rows := [cs], gen := 0, fz := false, ver := 0 } = some M') (hag : Agree σ w) (hm : MR own σ j M w) (hown : ∀ b, w.heap.size ≤ b → own b) :
    GoodV own σ j M w (.w (.c (.ptr id 0 0 0))) M' ((do pure (.pointer (some (← newVar t vx))) : Sem Value).run P w) := by
  obtain ⟨hhole, hlt, rfl⟩ := newAt_some h
  have hsz : vx.cells.size = n := by rw [← hn]; simpa using hc.1.symm
  obtain ⟨_, hag', hm', hst⟩ := lay_new (b' := { box := true, esz := n, rows := [cs], gen := 0, fz := false, ver := 0 }) (C := vx.cells) (T := t) (w' := w.alloc (.cells vx.cells t (0, 0))) hm hag hown hlt
    (fun b hb => by grind) rfl (Side.of_push rfl rfl rfl) hpos (by grind) (by grind) (fun i row k cl hi hk => by
      rcases i with _ | i
      · simp at hi; subst hi
        obtain ⟨v, hv, hvc⟩ := hc.get hk
        grind
      grind)
  refine ⟨.pointer (some ⟨w.heap.size, 0, none⟩), _, σ, _, ?_, ?_, hag', hm', hst⟩
  · simp [newVar, newRow]
  · have := VC.ptr (σ := σ) (j.put id 0 (.loc ⟨w.heap.size, 0, n, vx.cells.size⟩)) id 0 0 0 _ (Inj.put_at _ _ _ _)
    show VC _ _ _ _
    grind
theorem markOne_get {M : Mem} {id : Nat} {k : Nat} {b : Blk} (h : M[k]? = some (some b)) : ∃ b', (markOne M id)[k]? = some (some b') ∧ b'.box = b.box ∧ b'.esz = b.esz ∧ b'.rows = b.rows ∧ b'.gen = b.gen ∧ b.ver ≤ b'.ver ∧
    (b'.ver = b.ver → b' = b) ∧ (k = id → b'.fz = true) ∧ (b.fz = true → b'.fz = true) ∧ (k ≠ id → b' = b) := by
  grind [markOne]
theorem markOne_back {M : Mem} {id : Nat} {k : Nat} {b' : Blk} (h : (markOne M id)[k]? = some (some b')) : ∃ b, M[k]? = some (some b) := by
  grind [markOne, id, List.getElem?_set_ne]
theorem markOne_len (M : Mem) (id : Nat) : (markOne M id).length = M.length := by
  grind [markOne]
theorem markOne_sound (hm : MR own σ j M w) (hag : Agree σ w) (id : Nat) : ∃ σ', σ.le σ' ∧ Agree σ' w ∧ MR own σ' j (markOne M id) w ∧ Step own M.length σ j M w σ' j (markOne M id) w ∧
    ∀ (b : Blk) (L : Loc) (i : Nat) (row : List Cl) (n : Nat) (cl : Cl), M[id]? = some (some b) → j id b.gen = some (.loc L) → b.rows[i]? = some row → row[n]? = some cl → σ' L.blk (L.off + i * b.esz + n) = w.cell? ⟨L.blk, L.off + i * b.esz + n, none⟩ := by
  classical
  let inn : Nat → Nat → Prop := fun k o => ∃ b L, M[id]? = some (some b) ∧ j id b.gen = some (.loc L) ∧ L.blk = k ∧ L.off ≤ o ∧ o < L.off + b.rows.length * b.esz
  let σ' : Stab := fun k o => match σ k o with
    | some v => some v
    | none => if inn k o then w.cell? ⟨k, o, none⟩ else none
  have hle : σ.le σ' := fun k o v h => by grind
  have hag' : Agree σ' w := by
    refine ⟨?_, hag.glob.mono hle⟩
    intro k o v h
    have h : (match σ k o with | some v => some v | none => if inn k o then w.cell? ⟨k, o, none⟩ else none) = some v := h
    split at h
    · rename_i v' hv'; cases h; exact hag.cells k o v hv'
    simp_all
  have hsn : ∀ k o v, σ' k o = some v → σ k o = some v ∨ inn k o := by
    intro k o v h
    have h : (match σ k o with | some v => some v | none => if inn k o then w.cell? ⟨k, o, none⟩ else none) = some v := h
    split at h
    · rename_i v' hv'; exact .inl (hv'.trans h)
    · split at h
      · rename_i hi; exact .inr hi
      · cases h
  have hnone : ∀ k o, σ k o = none → ¬ inn k o → σ' k o = none := by
    intro k o h hn
    show (match σ k o with | some v => some v | none => if inn k o then w.cell? ⟨k, o, none⟩ else none) = none
    rw [h]; simp [hn]
  have hownin : ∀ k o, inn k o → own k := by
    rintro k o ⟨b, L, hb, hL, rfl, _, _⟩
    obtain ⟨pl, hpl, _, ho⟩ := hm.blk id b hb
    rw [hL] at hpl; cases hpl
    exact ho L rfl
  refine ⟨σ', hle, hag', ⟨fun k b' hb' => ?_, fun k k' b b' q hb hb' hL hL' => ?_, fun k g pl hj => ?_, hm.okP⟩, ?_, ?_⟩
  · obtain ⟨b, hb⟩ := markOne_back hb'
    obtain ⟨b'', hb'', e1, e2, e3, e4, _, _, hfz, hfz2, hne⟩ := markOne_get (id := id) hb
    rw [hb'] at hb''; cases hb''
    obtain ⟨pl, hpl, hbr, ho⟩ := hm.blkP k b hb
    refine ⟨pl, by rw [e4]; exact hpl, ?_, ho⟩
    cases pl with
    | empty => exact ⟨by rw [e3]; exact hbr.1, by rw [e1]; exact hbr.2⟩
    | rnd l r f sh =>
      have hbr : RB σ j b l r f sh w := hbr
      obtain ⟨s, cells, pd, vs, h1, h2, h3, h4, h5⟩ := hbr.st
      exact (⟨by rw [e1]; exact hbr.box, hbr.ok, s, cells, pd, vs, by rw [e3]; exact h1, h2, h3, h4.mono hle (Inj.le_refl _), h5⟩ : RB σ' j b' l r f sh w)
    | mp l g =>
      have hbr : MB σ j b l g w := hbr
      obtain ⟨h0, es, clock, R, h1, h2, h3, h4⟩ := hbr.mono hle (Inj.le_refl _) rfl
      exact (⟨by rw [e1]; exact h0, es, clock, R, h1, by grind, h3, h4⟩ : MB σ' j b' l g w)
    | mi l =>
      have hbr : IB σ j b l w := hbr
      obtain ⟨h0, h1⟩ := hbr
      exact (⟨by grind, by rw [e3]; exact h1⟩ : IB σ' j b' l w)
    | loc L =>
      have hbr : BL σ j b L w := hbr
      obtain ⟨C, T, fr, hC, hfr, hsz, hrow⟩ := hbr.heap
      refine (⟨by rw [e2]; exact hbr.esz, by rw [e2]; exact hbr.pos, by rw [e3, e2]; exact hbr.len, by rw [e3, e2]; exact hbr.fit, ⟨C, T, fr, hC, fun h => ⟨hfz2 (hfr h).1, (hfr h).2⟩, hsz, ?_⟩, fun o h1 h2 => ?_⟩ : BL σ' j b' L w)
      · intro i row n cl hi hn
        rw [e3] at hi
        obtain ⟨v, hv, hvc⟩ := hrow i row n cl hi hn
        exact ⟨v, by rw [e2]; exact hv, by rw [e1]; exact VC.mono hle hvc (Inj.le_refl _)⟩
      · rw [e3, e2] at h2
        have hold : σ L.blk o = none := hbr.stab o h1 (fun h => h2 (hfz2 h))
        refine hnone _ _ hold ?_
        rintro ⟨b0, L0, hb0, hL0, he0, hlo, hhi⟩
        have hkid : k = id := hm.inj k id b b0 L L0 hb hb0 hpl hL0 he0.symm
        grind
  · obtain ⟨c, hc⟩ := markOne_back hb
    obtain ⟨c1, hc1, _, _, _, e4, _⟩ := markOne_get (id := id) hc
    rw [hb] at hc1; cases hc1
    obtain ⟨c', hc'⟩ := markOne_back hb'
    obtain ⟨c2, hc2, _, _, _, e4', _⟩ := markOne_get (id := id) hc'
    rw [hb'] at hc2; cases hc2
    rw [e4] at hL; rw [e4'] at hL'
    exact hm.injP k k' c c' q hc hc' hL hL'
  · obtain ⟨b, hb, hg⟩ := hm.dom k g pl hj
    obtain ⟨b', hb', _, _, _, e4, _⟩ := markOne_get (id := id) hb
    grind
  · refine ⟨hle, fun _ _ _ _ h => h, Nat.le_refl _, fun _ _ _ => rfl, fun k o v h => (hsn k o v h).imp _root_.id (hownin k o), fun k b _ hb => ?_, Side.refl _⟩
    obtain ⟨b', hb', _, _, _, _, hv, hve, _⟩ := markOne_get (id := id) hb
    grind
  · intro b L i row n cl hb hL hi hn
    have hin : inn L.blk (L.off + i * b.esz + n) := by
      obtain ⟨pl, hpl, hbr, _⟩ := hm.blk id b hb
      rw [hL] at hpl; cases hpl
      have hbr : BL σ j b L w := hbr
      have h1 := row_in (esz := b.esz) (lt_of_get hi)
      have h2 := hbr.len row (mem_of_get hi)
      grind
    show (match σ L.blk (L.off + i * b.esz + n) with | some v => some v | none => if inn L.blk (L.off + i * b.esz + n) then w.cell? ⟨L.blk, L.off + i * b.esz + n, none⟩ else none) = _
    cases hs : σ L.blk (L.off + i * b.esz + n) with
    | some v => exact (hag.cells _ _ _ hs).symm
    | none => grind
theorem markAll_len (ids : List Nat) : ∀ (M : Mem), (markAll M ids).length = M.length := by
  induction ids with
  | nil => intro M; rfl
  | cons id ids ih => grind [markAll, markOne, id, markOne_len]
theorem markAll_sound (ids : List Nat) : ∀ {σ : Stab} {M : Mem}, MR own σ j M w → Agree σ w → ∃ σ', σ.le σ' ∧ Agree σ' w ∧ MR own σ' j (markAll M ids) w ∧ Step own M.length σ j M w σ' j (markAll M ids) w ∧
    ∀ id ∈ ids, ∀ (b : Blk) (L : Loc) (i : Nat) (row : List Cl) (n : Nat) (cl : Cl), M[id]? = some (some b) → j id b.gen = some (.loc L) → b.rows[i]? = some row → row[n]? = some cl → ∃ v, σ' L.blk (L.off + i * b.esz + n) = some v ∧ w.cell? ⟨L.blk, L.off + i * b.esz + n, none⟩ = some v := by
  induction ids with
  | nil => intro σ M hm hag; exact ⟨σ, Stab.le_refl _, hag, hm, Step.refl, fun id h => by grind⟩
  | cons id ids ih =>
    intro σ M hm hag
    obtain ⟨σ1, hle1, hag1, hm1, hst1, hin1⟩ := markOne_sound hm hag id
    obtain ⟨σ2, hle2, hag2, hm2, hst2, hin2⟩ := ih hm1 hag1
    refine ⟨σ2, Stab.le_trans hle1 hle2, hag2, hm2, hst1.trans (by rw [markOne_len] at hst2; exact hst2), fun id' hid' b L i row n cl hb hL hi hn => ?_⟩
    rcases List.mem_cons.1 hid' with rfl | hid'
    · have e := hin1 b L i row n cl hb hL hi hn
      obtain ⟨v, hv, _⟩ := hm.cell hb hL hi hn
      have hes : L.esz = b.esz := by
        obtain ⟨pl, hpl, hbr, _⟩ := hm.blk id' b hb
        rw [hL] at hpl; cases hpl
        exact (hbr : BL σ j b L w).esz
      rw [hes] at hv
      rw [hv] at e
      exact ⟨v, hle2 _ _ _ e, hv⟩
    · obtain ⟨b', hb', _, e2, e3, e4, _⟩ := markOne_get (id := id) hb
      grind
theorem frzC_sound {M0 : Mem} {σ0 : Stab} {c c' : Cl} {v : Value} (hm : MR own σ0 j M0 w) (hle : σ0.le σ) (hag : Agree σ w)
    (hin : ∀ id ∈ slC c, ∀ (b : Blk) (L : Loc) (i : Nat) (row : List Cl) (n : Nat) (cl : Cl), M0[id]? = some (some b) → j id b.gen = some (.loc L) → b.rows[i]? = some row → row[n]? = some cl → ∃ v, σ L.blk (L.off + i * b.esz + n) = some v ∧ w.cell? ⟨L.blk, L.off + i * b.esz + n, none⟩ = some v)
    (h : frzC M0 c = some c') (hv : VC σ0 j c v) : VC σ j c' v := by
  cases hv with
  | slice _ id g es off len cap pl a cc hj hl hc ha =>
    simp only [frzC] at h
    split at h
    · rename_i b hb0
      obtain ⟨hb, rfl⟩ := look_some hb0
      split at h
      · grind
      · rename_i hbox
        split at h
        · rename_i hfit
          cases h
          have hlen : ((b.rows.drop off).take len).length = len := by grind
          obtain ⟨pl', hpl', hbr, _⟩ := hm.blk id b hb
          rw [hj] at hpl'; cases hpl'
          by_cases hc0 : cc = 0
          · subst hc0
            have hl0 : len = 0 := by omega
            subst hl0
            have e : (b.rows.drop off).take 0 = [] := by simp
            rw [e]
            have := VC.rslice (σ := σ) j b.esz [] a 0 0 0 (fun _ _ => undef) (by simp) (.inl rfl) (by simp) (by simp) (by simp)
            grind
          · obtain ⟨L, rfl, _, rfl, hfit2⟩ := ha hc0
            have hbr : BL σ0 j b L w := hbr
            have hes := hbr.esz
            have get : ∀ (i : Nat) (row : List Cl), ((b.rows.drop off).take len)[i]? = some row → b.rows[off + i]? = some row := by
              grind
            have key : ∀ (i : Nat) (row : List Cl) (n : Nat) (cl : Cl), ((b.rows.drop off).take len)[i]? = some row → row[n]? = some cl → ∃ v, σ L.blk (L.off + (off + i) * b.esz + n) = some v ∧ VC σ noInj cl v := by
              intro i row n cl hi hn
              obtain ⟨v, h1, h2⟩ := hin id (by simp [slC]) b L (off + i) row n cl hb hj (get i row hi) hn
              obtain ⟨v', h3, _, h4⟩ := hm.cell hb hj (get i row hi) hn
              rw [hes] at h3
              rw [h3] at h2; cases h2
              rw [if_neg (by grind)] at h4
              grind [VC.mono, Inj.le_refl]
            have := VC.rslice (σ := σ) j b.esz ((b.rows.drop off).take len) (some ⟨L.blk, L.off + off * L.esz, none⟩) cc L.blk (L.off + off * L.esz) (fun i n => (σ L.blk (L.off + (off + i) * b.esz + n)).getD undef)
              (by grind) (.inr rfl) (fun row hr => hbr.len row (List.mem_of_mem_drop (List.mem_of_mem_take hr))) (fun i row n cl hi hn => by
                grind) (fun i row n cl hi hn => by
                grind)
            grind
        grind
    grind
  | nilslice =>
    simp only [frzC, Option.some.injEq] at h; subst h
    have := VC.rslice (σ := σ) j 0 [] none 0 0 0 (fun _ _ => undef) (by simp) (.inl rfl) (by simp) (by simp) (by simp)
    grind
  | bool => simp only [frzC, Option.some.injEq] at h; subst h; exact .bool _ _
  | int => simp only [frzC, Option.some.injEq] at h; subst h; exact .int _ _ _
  | str => simp only [frzC, Option.some.injEq] at h; subst h; exact .str _ _
  | ptr _ id g i k L hL => simp only [frzC, Option.some.injEq] at h; subst h; exact .ptr _ _ _ _ _ L hL
  | rptr _ row k b o val h1 h2 => simp only [frzC, Option.some.injEq] at h; subst h; exact VC.mono hle (.rptr _ row k b o val h1 h2) (Inj.le_refl _)
  | nilptr => simp only [frzC, Option.some.injEq] at h; subst h; exact .nilptr _
  | rslice _ esz rows a c b o val q1 q3 q4 q5 q6 => simp only [frzC, Option.some.injEq] at h; subst h; exact VC.mono hle (.rslice _ esz rows a c b o val q1 q3 q4 q5 q6) (Inj.le_refl _)
  | fn _ f fi ca fi' ca' l1 l2 h1 h2 => simp only [frzC, Option.some.injEq] at h; subst h; exact VC.mono hle (.fn _ f fi ca fi' ca' l1 l2 h1 h2) (Inj.le_refl _)
  | nilfn => simp only [frzC, Option.some.injEq] at h; subst h; exact .nilfn _
  | iface0 _ t c v q => simp only [frzC, Option.some.injEq] at h; subst h; exact VC.mono hle (.iface0 _ t c v q) (Inj.le_refl _)
  | iface1 _ t cs vs l q => simp only [frzC, Option.some.injEq] at h; subst h; exact VC.mono hle (.iface1 _ t cs vs l q) (Inj.le_refl _)
  | niliface => simp only [frzC, Option.some.injEq] at h; subst h; exact .niliface _
  | yld _ id f sh l r h0 => simp only [frzC, Option.some.injEq] at h; subst h; exact .yld _ id f sh l r h0
  | nilmap => simp only [frzC, Option.some.injEq] at h; subst h; exact .nilmap _
  | map _ id g l h0 => simp only [frzC, Option.some.injEq] at h; subst h; exact .map _ id g l h0
  | mit _ id l h0 => simp only [frzC, Option.some.injEq] at h; subst h; exact .mit _ id l h0
  | bsl _ id g i k es len cap L a h0 hl ha => simp only [frzC, Option.some.injEq] at h; subst h; exact .bsl _ id g i k es len cap L a h0 hl ha
end
end Go.Eng
namespace Go.Eng
open Go
variable [RecP]
section
variable {own : Nat → Prop} {σ : Stab} {j : Inj} {M : Mem} {w : World} {E : Nat → Option AV} {a : Act} {P : Program}
def Froz (σ : Stab) (j : Inj) (M0 : Mem) (w : World) (ids : List Nat) : Prop :=
  ∀ id ∈ ids, ∀ (b : Blk) (L : Loc) (i : Nat) (row : List Cl) (n : Nat) (cl : Cl), M0[id]? = some (some b) → j id b.gen = some (.loc L) → b.rows[i]? = some row → row[n]? = some cl →
    ∃ v, σ L.blk (L.off + i * b.esz + n) = some v ∧ w.cell? ⟨L.blk, L.off + i * b.esz + n, none⟩ = some v
theorem Froz.sub {M0 : Mem} {ids ids' : List Nat} (h : Froz σ j M0 w ids) (hs : ∀ x ∈ ids', x ∈ ids) : Froz σ j M0 w ids' := fun id hid => h id (hs id hid)
theorem Froz.left {M0 : Mem} {a b : List Nat} (h : Froz σ j M0 w (a ++ b)) : Froz σ j M0 w a := h.sub fun _ hx => List.mem_append.2 (.inl hx)
theorem Froz.right {M0 : Mem} {a b : List Nat} (h : Froz σ j M0 w (a ++ b)) : Froz σ j M0 w b := h.sub fun _ hx => List.mem_append.2 (.inr hx)
theorem markAll_back (ids : List Nat) : ∀ {M : Mem} {k : Nat} {b' : Blk}, (markAll M ids)[k]? = some (some b') → ∃ b, M[k]? = some (some b) ∧ b'.box = b.box ∧ b'.esz = b.esz ∧ b'.rows = b.rows ∧ b'.gen = b.gen := by
  induction ids with
  | nil => intro M k b' h; exact ⟨b', h, rfl, rfl, rfl, rfl⟩
  | cons id ids ih =>
    intro M k b' h
    obtain ⟨b1, h1, e1, e2, e3, e4⟩ := ih (M := markOne M id) h
    obtain ⟨b0, h0⟩ := markOne_back h1
    obtain ⟨b2, h2, q1, q2, q3, q4, _⟩ := markOne_get (id := id) h0
    grind
theorem frzs_sound {M0 : Mem} {σ0 : Stab} (hm : MR own σ0 j M0 w) (hle : σ0.le σ) (hag : Agree σ w) : ∀ {cs cs' : List Cl} {vs : List Value}, Froz σ j M0 w (cs.flatMap slC) → frzs M0 cs = some cs' → VCs σ0 j cs vs → VCs σ j cs' vs
  | [], cs', vs, _, h, hv => by simp only [frzs, Option.some.injEq] at h; have := hv.unnil; grind [VCs.nil]
  | c :: cs, cs', vs, hf, h, hv => by
    simp only [frzs] at h
    split at h
    · rename_i y ys hy hys
      cases h
      obtain ⟨v, vs', rfl, h1, h2⟩ := hv.uncons
      exact VCs.cons (frzC_sound hm hle hag hf.left hy h1) (frzs_sound hm hle hag hf.right hys h2)
    grind
theorem frzW_sound {M0 : Mem} {σ0 : Stab} (hm : MR own σ0 j M0 w) (hle : σ0.le σ) (hag : Agree σ w) {x y : WV} {v : Value} (hf : Froz σ j M0 w x.sls) (h : frzW M0 x = some y) (hv : WVR σ0 j x v) : WVR σ j y v := by
  cases x with
  | c x =>
    simp only [frzW, Option.map_eq_some_iff] at h
    obtain ⟨c, hc, rfl⟩ := h
    exact frzC_sound hm hle hag (hf.sub (by simp [WV.sls, WV.cells])) hc hv
  | a cs =>
    simp only [frzW, Option.map_eq_some_iff] at h
    obtain ⟨c, hc, rfl⟩ := h
    obtain ⟨arr, rfl, hv⟩ := hv
    exact ⟨arr, rfl, frzs_sound hm hle hag hf hc hv⟩
theorem frzWs_sound {M0 : Mem} {σ0 : Stab} (hm : MR own σ0 j M0 w) (hle : σ0.le σ) (hag : Agree σ w) : ∀ {cs cs' : List WV} {vs : List Value}, Froz σ j M0 w (cs.flatMap WV.sls) → frzWs M0 cs = some cs' → WVRs σ0 j cs vs → WVRs σ j cs' vs
  | [], cs', vs, _, h, hv => by simp only [frzWs, Option.some.injEq] at h; have := hv.unnil; grind [WVRs.nil]
  | c :: cs, cs', vs, hf, h, hv => by
    simp only [frzWs] at h
    split at h
    · rename_i y ys hy hys
      cases h
      obtain ⟨v, vs', rfl, h1, h2⟩ := hv.uncons
      exact WVRs.cons (frzW_sound hm hle hag hf.left hy h1) (frzWs_sound hm hle hag hf.right hys h2)
    grind
theorem frzA_sound {M0 : Mem} {σ0 : Stab} (hm : MR own σ0 j M0 w) (hle : σ0.le σ) (hag : Agree σ w) {x y : AV} {v : Value} (hf : Froz σ j M0 w x.sls) (h : frzA M0 x = some y) (hv : AVR σ0 j x v) : AVR σ j y v := by
  cases x with
  | w x =>
    simp only [frzA, Option.map_eq_some_iff] at h
    obtain ⟨c, hc, rfl⟩ := h
    exact frzW_sound hm hle hag hf hc hv
  | t cs =>
    simp only [frzA, Option.map_eq_some_iff] at h
    obtain ⟨c, hc, rfl⟩ := h
    obtain ⟨arr, rfl, hv⟩ := hv
    exact ⟨arr, rfl, frzWs_sound hm hle hag hf hc hv⟩
  | u => simp only [frzA, Option.some.injEq] at h; subst h; exact hv
theorem VCs.to_noInj {cs : List Cl} {vs : List Value} (hn : cs.all noIds = true) (h : VCs σ j cs vs) : VCs σ noInj cs vs :=
  ⟨h.1, fun n c v hc hv => VC.to_noInj (List.all_eq_true.1 hn c (mem_of_get hc)) (h.2 n c v hc hv)⟩
theorem storeAt_good {id g i k : Nat} {cs : List Cl} {vs : List Value} {M' : Mem} {L : Loc} (h : storeAt M id g i k cs = some M') (hj : j id g = some (.loc L))
    (hv : VCs σ (if isBox M id g then j else noInj) cs vs) (hag : Agree σ w) (hm : MR own σ j M w) :
    ∃ w', (storeCells ⟨L.blk, L.off + i * L.esz + k, none⟩ vs).run P w = .ok () w' ∧ Agree σ w' ∧ MR own σ j M' w' ∧ Step own M.length σ j M w σ j M' w' := by
  unfold storeAt at h
  split at h
  · rename_i b hb0
    have hbx : isBox M id g = b.box := by grind [isBox]
    obtain ⟨hb, rfl⟩ := look_some hb0
    split at h
    · grind
    · split at h
      · rename_i row hrow
        split at h
        · rename_i row' hsp
          cases h
          exact store_cells hm hag hb hj (by grind) hrow hsp (by grind)
        grind
      grind
  grind
theorem run_storeAt {t : TypeId} {n : Nat} {b o : Nat} {vx : Value} {w' : World} (hs : sizeT P t = some n) (hn : vx.cells.size = n)
    (h : (storeCells ⟨b, o, none⟩ vx.cells.toList).run P w = .ok () w') : (Instr.storeAt t (.pointer (some ⟨b, o, none⟩)) vx).run P w = .ok () w' := by
  simp_all [Instr.storeAt, Instr.sureAddr, storeVar, run_sizeT]
theorem store_good {t : TypeId} {n : Nat} {p : Cl} {x : WV} {vp vx : Value} {av : AV} {M' : Mem} {fp : FP} (hs : sizeT P t = some n) (h : storeOp M n p x = some (av, M', fp)) (hp : VC σ j p vp) (hx : WVR σ j x vx) (hag : Agree σ w) (hm : MR own σ j M w) :
    av = .u ∧ ∃ w' σ', (Instr.storeAt t vp vx).run P w = .ok () w' ∧ Agree σ' w' ∧ MR own σ' j M' w' ∧ Step own M.length σ j M w σ' j M' w' := by
  unfold storeOp at h
  split at h
  · rename_i id g i k
    cases hp with
    | ptr _ _ _ _ _ L hL =>
      split at h
      · rename_i hn
        have hn' : vx.cells.size = n := by rw [hx.cells_size, hn]
        split at h
        · rename_i hbox
          simp only [Option.map_eq_some_iff] at h
          obtain ⟨M1, hM1, he⟩ := h
          cases he
          obtain ⟨w', h1, h2, h3, h4⟩ := storeAt_good (P := P) hM1 hL (by rw [hbox]; simpa using hx.cells) hag hm
          exact ⟨rfl, w', σ, run_storeAt hs hn' h1, h2, h3, h4⟩
        · split at h
          · rename_i cs hcs
            split at h
            · rename_i hno
              simp only [Option.map_eq_some_iff] at h
              obtain ⟨M1, hM1, he⟩ := h
              cases he
              obtain ⟨σ1, q1, q2, q3, q4, q5⟩ := markAll_sound x.sls hm hag
              have hcells := frzs_sound hm q1 q2 (cs := x.cells) q5 hcs hx.cells
              have hbox' : isBox (markAll M x.sls) id g = true → False := by
                grind [isBox, look, markAll, id, look_some, markAll_back]
              obtain ⟨w', h1, h2, h3, h4⟩ := storeAt_good (P := P) hM1 hL (by
                rw [if_neg (by grind)]
                exact hcells.to_noInj hno) q2 q3
              exact ⟨rfl, w', σ1, run_storeAt hs hn' h1, h2, h3, q4.trans (by grind [markAll_len])⟩
            grind
          grind
      grind
  grind
theorem zipIdx_fill (off : Nat) : ∀ (l : List Value) (k : Nat) (cells : Array Value), off + k + l.length ≤ cells.size →
    ((l.zipIdx k).foldl (fun (cs : Array Value) x => cs.setIfInBounds (off + x.2) x.1) cells).size = cells.size ∧
    ∀ p, ((l.zipIdx k).foldl (fun (cs : Array Value) x => cs.setIfInBounds (off + x.2) x.1) cells)[p]? = if off + k ≤ p ∧ p < off + k + l.length then l[p - (off + k)]? else cells[p]?
  | [], k, cells, h => ⟨by simp, fun p => by simp; grind⟩
  | v :: l, k, cells, h => by
    simp only [List.zipIdx_cons, List.foldl_cons]
    obtain ⟨h1, h2⟩ := zipIdx_fill off l (k + 1) (cells.setIfInBounds (off + k) v) (by grind)
    grind
theorem fill_one (off : Nat) (v : Value) (cells : Array Value) (h : off + v.cells.size ≤ cells.size) :
    (v.cells.zipIdx.foldl (fun cs (c, j) => cs.setIfInBounds (off + j) c) cells).size = cells.size ∧
    ∀ p, (v.cells.zipIdx.foldl (fun cs (c, j) => cs.setIfInBounds (off + j) c) cells)[p]? = if off ≤ p ∧ p < off + v.cells.size then v.cells[p - off]? else cells[p]? := by
  have := zipIdx_fill off v.cells.toList 0 cells (by grind)
  have e : v.cells.zipIdx.foldl (fun (cs : Array Value) (x : Value × Nat) => cs.setIfInBounds (off + x.2) x.1) cells = (v.cells.toList.zipIdx 0).foldl (fun (cs : Array Value) x => cs.setIfInBounds (off + x.2) x.1) cells := by
    rw [← Array.foldl_toList]; simp
  grind
theorem fillParts_good (hG : GK σ) (hE : EnvR σ j E a.tmps) {place : Nat → Option (Nat × Nat)} : ∀ {parts : List (Nat × Operand)} {cps : List (Nat × Nat × Opd)} {cs cs' : List Cl} {cells : Array Value}, partsAt place parts = some cps → fillParts E cs cps = some cs' → VCs σ j cs cells.toList →
    ∃ cells', Instr.fill place cells (parts.map fun x => (x.1, a.eval x.2)) = some cells' ∧ VCs σ j cs' cells'.toList
  | [], cps, cs, cs', cells, hp, h, hv => by
    simp only [partsAt, Option.some.injEq] at hp; subst hp
    simp only [fillParts, Option.some.injEq] at h; subst h
    exact ⟨cells, rfl, hv⟩
  | (i, o) :: parts, cps, cs, cs', cells, hp, h, hv => by
    simp only [partsAt] at hp
    split at hp
    · rename_i p x l h1 h2 h3
      cases hp
      simp only [fillParts] at h
      split at h
      · rename_i v hvv
        split at h
        · rename_i cs1 hf
          have hr := opd_sound hG hE h2 hvv
          unfold fillOne at hf
          split at hf
          · obtain ⟨hk, hlen, hget⟩ := splice_get hf
            have hcl : cs.length = cells.size := by simpa using hv.1
            have hvs := hr.cells_size
            have hfit : p.1 + (a.eval o).cells.size ≤ cells.size := by grind
            obtain ⟨hs1, hs2⟩ := fill_one p.1 (a.eval o) cells hfit
            obtain ⟨cells', hc', hv'⟩ := fillParts_good hG hE (cells := (a.eval o).cells.zipIdx.foldl (fun cs (c, j) => cs.setIfInBounds (p.1 + j) c) cells) h3 h (VCs.of_get (by grind) (fun q c hq => by
              rcases hget q c hq with ⟨g1, g2, g3⟩ | ⟨g1, g3⟩
              · obtain ⟨u, hu, hur⟩ := hr.cells.get g3
                grind
              · obtain ⟨u, hu, hur⟩ := hv.get g3
                grind))
            simp_all [List.map_cons, Instr.fill, if_neg]
          grind
        grind
      grind
    grind
theorem zeroT_some {t : TypeId} {zs : List Cl} (h : zeroT P t = some zs) : ∃ i z, P.info? t = some i ∧ i.zero = some z ∧ clsOf z.cells.toList = some zs := by
  grind [zeroT]
theorem run_zeroValue {t : TypeId} {i : TypeInfo} {z : Value} (hi : P.info? t = some i) (hz : i.zero = some z) : (zeroValue t).run P w = .ok z w := by
  simp_all [zeroValue, typeInfo]
theorem run_places : ∀ {fs : List Field} {ps : List (Nat × Nat)}, placesT P fs = some ps → (fs.mapM (fun f => do pure (f.offset, ← sizeOf f.type)) : Sem (List (Nat × Nat))).run P w = .ok ps w
  | [], ps, h => by simp_all [placesT, Option.some.injEq]
  | f :: fs, ps, h => by
    simp only [placesT] at h
    split at h
    · rename_i n l hn hl
      cases h
      simp only [List.mapM_cons, Sem.run_bind, run_sizeT hn, Result.andThen_ok, Sem.run_pure, run_places hl]
    · cases h
theorem build_struct_good (hG : GK σ) (hE : EnvR σ j E a.tmps) {t : TypeId} {fs : Array Field} {z : List Cl} {ps : List (Nat × Nat)} {parts : Array (Nat × Operand)} {cps : List (Nat × Nat × Opd)} {cs : List Cl} (ht : P.underlying t = some (.struct fs)) (hz : zeroT P t = some z)
    (hps : placesT P fs.toList = some ps) (hp : partsAt (ps[·]?) parts.toList = some cps) (h : fillParts E z cps = some cs) :
    ∃ arr : Array Value, (Instr.build t (parts.map fun (i, x) => (i, a.eval x))).run P w = .ok (.agg arr) w ∧ VCs σ j cs arr.toList := by
  obtain ⟨i, zv, hi, hzv, hzc⟩ := zeroT_some hz
  obtain ⟨cells', hc', hv'⟩ := fillParts_good hG hE (cells := zv.cells) hp h (clsOf_sound hzc)
  have hm : (fs.mapM (fun f => do pure (f.offset, ← sizeOf f.type)) : Sem (Array (Nat × Nat))).run P w = .ok ps.toArray w := by
    rw [Array.mapM_eq_mapM_toList]
    simp only [Sem.run_map, run_places hps, Result.andThen_ok]
  simp_all [Instr.build, Sem.run_bind, run_zeroValue, Result.andThen_ok, run_underlying]
theorem build_array_good (hG : GK σ) (hE : EnvR σ j E a.tmps) {t e len n : Nat} {z : List Cl} {parts : Array (Nat × Operand)} {cps : List (Nat × Nat × Opd)} {cs : List Cl} (ht : P.underlying t = some (.array len e)) (hz : zeroT P t = some z)
    (hn : sizeT P e = some n) (hp : partsAt (fun i => some (i * n, n)) parts.toList = some cps) (h : fillParts E z cps = some cs) :
    ∃ arr : Array Value, (Instr.build t (parts.map fun (i, x) => (i, a.eval x))).run P w = .ok (.agg arr) w ∧ VCs σ j cs arr.toList := by
  obtain ⟨i, zv, hi, hzv, hzc⟩ := zeroT_some hz
  obtain ⟨cells', hc', hv'⟩ := fillParts_good hG hE (cells := zv.cells) hp h (clsOf_sound hzc)
  simp_all [Instr.build, Sem.run_bind, run_zeroValue, Result.andThen_ok, run_underlying, run_sizeT]
def RowsR (σ : Stab) (esz : Nat) (rows : List (List Cl)) (C : Array Value) : Prop :=
  C.size = rows.length * esz ∧ (∀ row ∈ rows, row.length = esz) ∧ ∀ (i : Nat) (row : List Cl) (n : Nat) (cl : Cl), rows[i]? = some row → row[n]? = some cl → ∃ v, C[i * esz + n]? = some v ∧ VC σ noInj cl v
theorem rowsR_zero {zs : List Cl} {z : Array Value} (hz : VCs σ noInj zs z.toList) (hpos : 0 < zs.length) (n len : Nat) (hn : n = len * zs.length) : RowsR σ zs.length (List.replicate len zs) ((Array.range n).map (z[· % z.size]!)) := by
  subst hn
  have hsz : z.size = zs.length := by simpa using hz.1.symm
  refine ⟨by simp, fun row hr => by grind, fun i row k cl hi hk => ?_⟩
  have hil := lt_of_get hi
  simp only [List.length_replicate] at hil
  rw [List.getElem?_replicate, if_pos hil] at hi
  cases hi
  have hrow := row_in (esz := zs.length) hil
  obtain ⟨v, hv, hvc⟩ := hz.get hk
  grind [Nat.add_comm, Nat.add_mul_mod_self_right, Nat.mod_eq_of_lt]
theorem fillRows_good {M0 : Mem} {σ0 : Stab} {esz : Nat} (hm : MR own σ0 j M0 w) (hle : σ0.le σ) (hag : Agree σ w) (hG : GK σ0) (hE : EnvR σ0 j E a.tmps) : ∀ {parts : List (Nat × Operand)} {cps : List (Nat × Opd)} {rows rows' : List (List Cl)} {C : Array Value},
    Froz σ j M0 w (partsSls E cps) → sliceParts parts = some cps → fillRows E M0 esz rows cps = some rows' → RowsR σ esz rows C →
    ∃ C', Instr.fill (fun i => some (i * esz, esz)) C (parts.map fun x => (x.1, a.eval x.2)) = some C' ∧ RowsR σ esz rows' C' ∧ rows'.length = rows.length
  | [], cps, rows, rows', C, _, hp, h, hr => by
    simp only [sliceParts, Option.some.injEq] at hp; subst hp
    simp only [fillRows, Option.some.injEq] at h; subst h
    exact ⟨C, rfl, hr, rfl⟩
  | (i, o) :: parts, cps, rows, rows', C, hf, hp, h, hr => by
    simp only [sliceParts] at hp
    split at hp
    · rename_i x l h1 h2
      cases hp
      simp only [fillRows] at h
      split at h
      · rename_i v hv
        have hf' : Froz σ j M0 w (v.sls ++ partsSls E l) := by
          grind [partsSls]
        split at h
        · rename_i cs hcs
          split at h
          · rename_i hcond
            simp only [Bool.and_eq_true, decide_eq_true_eq] at hcond
            obtain ⟨⟨hno, hlen⟩, hi⟩ := hcond
            have hvr := opd_sound hG hE h1 hv
            have hcells := (frzs_sound hm hle hag (cs := v.cells) hf'.left hcs hvr.cells).to_noInj hno
            have hsz : (a.eval o).cells.size = esz := by rw [← hlen]; simpa using hcells.1.symm
            have hin := row_in (esz := esz) hi
            have hCs := hr.1
            obtain ⟨hs1, hs2⟩ := fill_one (i * esz) (a.eval o) C (by grind)
            obtain ⟨C', hC', hr', hl'⟩ := fillRows_good hm hle hag hG hE (rows := rows.set i cs) (C := (a.eval o).cells.zipIdx.foldl (fun cs (c, j) => cs.setIfInBounds (i * esz + j) c) C) hf'.right h2 h
              ⟨by grind, fun row hrow => by
                rcases List.mem_or_eq_of_mem_set hrow with q | q
                · exact hr.2.1 row q
                grind, fun k row n cl hk hn => by
                rw [List.getElem?_set] at hk
                rw [hs2]
                by_cases hki : i = k
                · subst hki
                  rw [if_pos rfl, if_pos hi] at hk
                  cases hk
                  have hnl := lt_of_get hn
                  obtain ⟨u, hu, hur⟩ := hcells.get hn
                  grind
                · rw [if_neg hki] at hk
                  obtain ⟨u, hu, hur⟩ := hr.2.2 k row n cl hk hn
                  have hnl := lt_of_get hn
                  have hrl := hr.2.1 row (mem_of_get hk)
                  refine ⟨u, ?_, hur⟩
                  rw [if_neg]
                  · grind
                  · rintro ⟨q1, q2⟩
                    rw [hsz] at q2
                    exact rows_apart (esz := esz) (i := i) (i' := k) (n := k * esz + n - i * esz) (n' := n) hki (by omega) (by omega) (by omega)⟩
            simp_all [List.map_cons, Instr.fill, if_neg]
          grind
        grind
      grind
    grind
theorem lit_good (hE : EnvR σ j E a.tmps) {t e len n id : Nat} {z : List Cl} {parts : Array (Nat × Operand)} {cps : List (Nat × Opd)} {rows : List (List Cl)} {M' : Mem} (ht : P.underlying t = some (.slice e)) (hn : sizeT P e = some n) (hz : zeroT P e = some z)
    (hlim : len * n ≤ 16777216) (hzn : z.length = n) (hzi : z.all noIds = true) (hp : sliceParts parts.toList = some cps) (h : fillRows E M n (List.replicate len z) cps = some rows) (hpos : 0 < n)
    (hat : newAt (markAll M (partsSls E cps)) id { box := false, esz := n, rows, gen := rows.length, fz := false, ver := rows.length } = some M') (hag : Agree σ w) (hm : MR own σ j M w) (hown : ∀ b, w.heap.size ≤ b → own b) :
    GoodV own σ j M w (.w (.c (.slice id rows.length n 0 rows.length none))) M' ((Instr.buildSlice t len (parts.map fun (i, x) => (i, a.eval x))).run P w) := by
  obtain ⟨i, zv, hi, hzv, hzc⟩ := zeroT_some hz
  obtain ⟨σ1, q1, q2, q3, q4, q5⟩ := markAll_sound (partsSls E cps) hm hag
  have hzr : VCs σ1 noInj z zv.cells.toList := (clsOf_sound (σ := σ1) (j := j) hzc).to_noInj hzi
  subst hzn
  obtain ⟨C', hC', hr', hl'⟩ := fillRows_good (σ := σ1) hm q1 q2 hag.glob hE q5 hp h (rowsR_zero hzr hpos (len * z.length) len rfl)
  simp only [List.length_replicate] at hl'
  obtain ⟨hhole, hlt, rfl⟩ := newAt_some hat
  obtain ⟨_, hag', hm', hst⟩ := lay_new (b' := { box := false, esz := z.length, rows, gen := rows.length, fz := false, ver := rows.length }) (C := C') (T := e) (w' := w.alloc (.cells C' e (0, 0))) q3 q2 hown hlt
    (fun b hb => by grind) rfl (Side.of_push rfl rfl rfl) hpos hr'.2.1 (Nat.le_of_eq hr'.1.symm) (fun k row m cl hk hm => by simpa using hr'.2.2 k row m cl hk hm)
  refine ⟨.slice (some ⟨w.heap.size, 0, none⟩) len len, _, σ1, _, ?_, ?_, hag', hm', q4.trans (by grind [markAll_len])⟩
  · have ep : (parts.map fun (x : Nat × Operand) => (x.1, a.eval x.2)).toList = parts.toList.map fun x => (x.1, a.eval x.2) := by simp
    rw [← ep] at hC'
    simp only [Instr.buildSlice, Sem.run_bind, run_underlying ht, Result.andThen_ok, run_sizeT hn]
    by_cases h0 : len * z.length = 0
    · have hlen0 : len = 0 := by rcases Nat.mul_eq_zero.1 h0 with h | h <;> omega
      subst hlen0
      simp only [h0, if_true]
      simp only [Nat.zero_mul] at hC'
      simp only [show Array.range 0 = #[] from rfl, Array.map_empty] at hC' ⊢
      simp only [hC']
      simp [newRow]
    simp_all [if_false, Sem.run_bind, run_zeroValue, Result.andThen_ok, Sem.run_pure, newRow]
  · have := VC.slice (σ := σ1) (j.put id rows.length (.loc ⟨w.heap.size, 0, z.length, C'.size⟩)) id rows.length z.length 0 rows.length none _ (some ⟨w.heap.size, 0, none⟩) len (Inj.put_at _ _ _ _) (by omega) (by grind)
      (fun _ => ⟨_, rfl, rfl, by simp, by simp [hr'.1, hl']⟩)
    show VC _ _ _ _
    grind
end
end Go.Eng
namespace Go.Eng
open Go
variable [RecP]
section
variable {own : Nat → Prop} {σ : Stab} {j : Inj} {M : Mem} {w : World} {E : Nat → Option AV} {a : Act} {P : Program}
theorem wrap_small {l : Int} (h0 : 0 ≤ l) (h : l ≤ 140737488355328) : IntKind.i64.wrap l = l := by
  simp only [IntKind.wrap, IntKind.bits, IntKind.signed, Bool.true_and]
  have e : l % (2 ^ 64 : Int) = l := Int.emod_eq_of_lt h0 (by omega)
  simp only [e]
  rw [if_neg]
  simp; omega
theorem mkslice_good {t e n b id : Nat} {z : List Cl} {l c : Int} {k k' : IntKind} {M' : Mem} (ht : P.underlying t = some (.slice e)) (hn : sizeT P e = some n) (hb : bytesT P e = some b) (hz : zeroT P e = some z) (hbp : 0 < b)
    (h0 : 0 ≤ l) (hlc : l = c) (hroom : roomy l.toNat b = true) (hzn : z.length = n) (hpos : 0 < n) (hzi : z.all noIds = true)
    (hat : newAt M id { box := false, esz := n, rows := List.replicate l.toNat z, gen := l.toNat, fz := false, ver := l.toNat } = some M') (hag : Agree σ w) (hm : MR own σ j M w) (hown : ∀ b, w.heap.size ≤ b → own b) :
    GoodV own σ j M w (.w (.c (.slice id l.toNat n 0 l.toNat none))) M' ((Instr.makeSlice t (.int k l) (.int k' c)).run P w) := by
  subst hlc
  obtain ⟨i, zv, hi, hzv, hzc⟩ := zeroT_some hz
  have hzr : VCs σ noInj z zv.cells.toList := (clsOf_sound (σ := σ) (j := j) hzc).to_noInj hzi
  have hzs : zv.cells.size = n := by rw [← hzn]; simpa using hzr.1.symm
  obtain ⟨hhole, hlt, rfl⟩ := newAt_some hat
  have hib : i.bytes = b := by simpa [bytesT, hi] using hb
  have hr0 : l.toNat * b ≤ 140737488355328 := by simpa [roomy] using hroom
  have hl : l ≤ 140737488355328 := by
    have := Nat.le_mul_of_pos_right l.toNat hbp
    omega
  have hw := wrap_small h0 hl
  subst hzn
  have hr' := rowsR_zero (σ := σ) hzr hpos (l.toNat * z.length) l.toNat rfl
  generalize hC : ((Array.range (l.toNat * z.length)).map fun x => zv.cells[x % zv.cells.size]!) = C' at hr'
  obtain ⟨_, hag', hm', hst⟩ := lay_new (b' := { box := false, esz := z.length, rows := List.replicate l.toNat z, gen := l.toNat, fz := false, ver := l.toNat }) (C := C') (T := e) (w' := w.alloc (.cells C' e (0, 0))) hm hag hown hlt
    (fun b hb => by rw [hhole] at hb; cases hb) rfl (Side.of_push rfl rfl rfl) hpos hr'.2.1 (Nat.le_of_eq hr'.1.symm) (fun k row m cl hk hm => by simpa using hr'.2.2 k row m cl hk hm)
  refine ⟨.slice (some ⟨w.heap.size, 0, none⟩) l.toNat l.toNat, _, σ, _, ?_, ?_, hag', hm', hst⟩
  · have hbig : ¬ ((281474976710656 : Int) < (i.bytes : Int) * l) := by
      rw [hib]
      have e : (b : Int) * l = ((l.toNat * b : Nat) : Int) := by
        rw [Int.natCast_mul, Int.toNat_of_nonneg h0, Int.mul_comm]
      rw [e]; omega
    have hneg : ¬ l < 0 := by omega
    simp only [Instr.makeSlice, asInt, asIntOf, Sem.run_bind, run_underlying ht, Result.andThen_ok, Sem.run_pure, run_typeInfo hi, hw]
    by_cases hl0 : l.toNat * z.length = 0
    · have hC0 : C' = #[] := by rw [← hC, hl0]; simp
      subst hC0
      have hr0' : Array.range 0 = (#[] : Array Nat) := rfl
      simp [hneg, hbig, run_sizeT hn, hl0, newRow, hr0']
    · rw [← hzs] at hl0 hC
      simp [hneg, hbig, run_sizeT hn, ← hzs, hl0, newRow, run_zeroValue hi hzv, hC]
  · have := VC.slice (σ := σ) (j.put id l.toNat (.loc ⟨w.heap.size, 0, z.length, C'.size⟩)) id l.toNat z.length 0 l.toNat none _ (some ⟨w.heap.size, 0, none⟩) l.toNat (Inj.put_at _ _ _ _) (Nat.le_refl _) (by intro c' hc'; cases hc')
      (fun _ => ⟨_, rfl, rfl, by simp, by simp [hr'.1]⟩)
    exact this
theorem flatten_rows {esz : Nat} {rows : List (List Cl)} {f : Nat → Option Value} (hlen : ∀ row ∈ rows, row.length = esz)
    (h : ∀ (i : Nat) (row : List Cl) (n : Nat) (cl : Cl), rows[i]? = some row → row[n]? = some cl → ∃ v, f (i * esz + n) = some v ∧ VC σ noInj cl v) :
    ∃ news : List Value, RowsR σ esz rows news.toArray ∧ ∀ (k : Nat) (u : Value), news[k]? = some u → f k = some u := by
  have key : ∀ k, k < rows.length * esz → ∃ v, f k = some v := by
    intro k hk
    have hpos : 0 < esz := by
      rcases Nat.eq_zero_or_pos esz with h | h
      · subst h; simp at hk
      · exact h
    have hi : k / esz < rows.length := (Nat.div_lt_iff_lt_mul hpos).2 hk
    have hr := List.getElem?_eq_getElem hi
    have hn : k % esz < (rows[k / esz]).length := by rw [hlen _ (List.getElem_mem hi)]; exact Nat.mod_lt _ hpos
    obtain ⟨v, hv, _⟩ := h _ _ _ _ hr (List.getElem?_eq_getElem hn)
    have e : k / esz * esz + k % esz = k := by rw [Nat.mul_comm]; exact Nat.div_add_mod k esz
    rw [e] at hv
    exact ⟨v, hv⟩
  refine ⟨(List.range (rows.length * esz)).map fun k => (f k).getD undef, ⟨by simp, hlen, fun i row n cl hi hn => ?_⟩, fun k u hu => ?_⟩
  · obtain ⟨v, hv, hvc⟩ := h i row n cl hi hn
    have h1 := row_in (esz := esz) (lt_of_get hi)
    have h2 := hlen row (mem_of_get hi)
    have h3 := lt_of_get hn
    refine ⟨v, ?_, hvc⟩
    have : i * esz + n < rows.length * esz := by omega
    simp [this, hv]
  · rw [List.getElem?_map] at hu
    rcases Nat.lt_or_ge k (rows.length * esz) with hk | hk
    · simp [hk] at hu
      obtain ⟨v, hv⟩ := key k hk
      rw [hv] at hu; simp at hu; rw [hv, hu]
    · simp [hk] at hu
theorem rowsR_nil {esz : Nat} : RowsR σ esz [] #[] := ⟨by simp, by simp, by simp⟩
theorem block_rows {id : Nat} {b : Blk} {L : Loc} {off len : Nat} (hm : MR own σ j M w) (hb : M[id]? = some (some b)) (hL : j id b.gen = some (.loc L)) (hbox : b.box = false) (hfit : off + len ≤ b.rows.length) :
    ∃ news : List Value, RowsR σ b.esz ((b.rows.drop off).take len) news.toArray ∧ ∀ (k : Nat) (u : Value), news[k]? = some u → w.cell? ⟨L.blk, L.off + off * L.esz + k, none⟩ = some u := by
  obtain ⟨pl, hpl, hbr, _⟩ := hm.blk id b hb
  rw [hL] at hpl; cases hpl
  have hbr : BL σ j b L w := hbr
  refine flatten_rows (fun row hr => hbr.len row (List.mem_of_mem_drop (List.mem_of_mem_take hr))) (f := fun k => w.cell? ⟨L.blk, L.off + off * L.esz + k, none⟩) (fun i row n cl hi hn => ?_)
  have hi' : b.rows[off + i]? = some row := by
    rw [List.getElem?_take] at hi
    split at hi
    · simpa using hi
    · cases hi
  obtain ⟨v, h1, _, h2⟩ := hm.cell hb hL hi' hn
  rw [if_neg (by simp [hbox])] at h2
  refine ⟨v, ?_, h2⟩
  rw [← h1, hbr.esz, Nat.add_mul]
  congr 2
  omega
theorem elems_sound {esz : Nat} {x : Cl} {v : Value} {ys : List (List Cl)} (h : elemsOf M esz x = some ys) (hv : VC σ j x v) (hag : Agree σ w) (hm : MR own σ j M w) :
    ∃ (ad : Option Addr) (c : Nat) (news : List Value), v = .slice ad ys.length c ∧ RowsR σ esz ys news.toArray ∧ (ys ≠ [] → ∃ b o, ad = some ⟨b, o, none⟩ ∧ ∀ (k : Nat) (u : Value), news[k]? = some u → w.cell? ⟨b, o + k, none⟩ = some u) := by
  unfold elemsOf at h
  split at h
  · cases h; cases hv
    exact ⟨none, 0, [], rfl, rowsR_nil, fun h => absurd rfl h⟩
  · rename_i rows
    split at h
    · rename_i hc
      cases h
      cases hv with
      | rslice _ e _ ad c b o val hl ha hr h1 h2 =>
        by_cases he : ys = []
        · subst he
          exact ⟨ad, c, [], rfl, rowsR_nil, fun h => absurd rfl h⟩
        · have hee : e = esz := by
            cases ys with
            | nil => exact absurd rfl he
            | cons y ys =>
              rw [← hr y (List.mem_cons_self ..)]
              simp only [List.all_cons, Bool.and_eq_true, beq_iff_eq] at hc
              exact hc.1
          subst hee
          have ha' : ad = some ⟨b, o, none⟩ := ha.resolve_left he
          subst ha'
          obtain ⟨news, hn1, hn2⟩ := flatten_rows hr (f := fun k => σ b (o + k)) (fun i row n cl hi hn => ⟨val i n, by rw [← h1 i row n cl hi hn, Nat.add_assoc], h2 i row n cl hi hn⟩)
          exact ⟨_, c, news, rfl, hn1, fun _ => ⟨b, o, rfl, fun k u hu => hag.cells _ _ _ (hn2 k u hu)⟩⟩
    · cases h
  · rename_i id g es off len cap
    split at h
    · rename_i b hb0
      obtain ⟨hb, rfl⟩ := look_some hb0
      split at h
      · rename_i hc
        simp only [Bool.and_eq_true, Bool.not_eq_true', decide_eq_true_eq] at hc
        obtain ⟨⟨hbox, hesz⟩, hfit⟩ := hc
        cases h
        cases hv with
        | slice _ _ _ _ _ _ _ pl ad c hj hl hcap ha =>
          have hlen : ((b.rows.drop off).take len).length = len := by simp; omega
          by_cases hc0 : c = 0
          · have hl0 : len = 0 := by omega
            subst hl0
            have e : (b.rows.drop off).take 0 = [] := by simp
            rw [e]
            exact ⟨ad, c, [], rfl, rowsR_nil, fun h => absurd rfl h⟩
          · obtain ⟨L, rfl, _, rfl, hfit2⟩ := ha hc0
            obtain ⟨news, hn1, hn2⟩ := block_rows hm hb hj hbox hfit
            rw [hesz] at hn1
            exact ⟨_, c, news, by rw [hlen], hn1, fun _ => ⟨_, _, rfl, hn2⟩⟩
      · cases h
    · cases h
  · cases h
theorem run_firstCells {esz n len c : Nat} {ad : Option Addr} {news : List Value} (hl : news.length = n * esz) (h : n * esz ≠ 0 → ∃ b o, ad = some ⟨b, o, none⟩ ∧ ∀ (k : Nat) (u : Value), news[k]? = some u → w.cell? ⟨b, o + k, none⟩ = some u) :
    (Builtin.firstCells esz n (.slice ad len c)).run P w = .ok news.toArray w := by
  by_cases h0 : n * esz = 0
  · have : news = [] := List.eq_nil_of_length_eq_zero (by omega)
    subst this
    cases ad with
    | none => simp [Builtin.firstCells]
    | some b => simp [Builtin.firstCells, h0, loadCells, loadCellsFrom]
  · obtain ⟨b, o, rfl, hc⟩ := h h0
    exact run_firstCells_some w esz n _ len c news hl (fun k u hu => by rw [Addr.add_lit]; exact hc k u hu)
theorem run_append_in {t u ty e esz : Nat} {ad ax : Option Addr} {sl sc n cx : Nat} {news : List Value} {w' : World} (ht : P.underlying t = some (.slice e)) (hu : ∃ e', P.underlying u = some (.slice e')) (hs : sizeT P e = some esz) (hroom : sl + n ≤ sc)
    (hx : (Builtin.firstCells esz n (.slice ax n cx)).run P w = .ok news.toArray w) (hst : ∀ b, ad = some b → (storeCells (b.add (sl * esz)) news).run P w = .ok () w') (hn : ad = none → w' = w) :
    (Builtin.append_ #[t, u] ty #[.slice ad sl sc, .slice ax n cx]).run P w = .ok (.slice ad (sl + n) sc) w' := by
  obtain ⟨e', hu⟩ := hu
  cases ad with
  | none => obtain rfl := hn rfl; simp [Builtin.append_, run_underlying ht, run_underlying hu, run_sizeT hs, Builtin.lenOf, hroom, hx]
  | some b => simp [Builtin.append_, run_underlying ht, run_underlying hu, run_sizeT hs, Builtin.lenOf, hroom, hx, hst b rfl]
theorem run_append_out {t u ty e esz bytes : Nat} {i : TypeInfo} {z : Value} {ad ax : Option Addr} {sl sc n cx : Nat} {olds news : List Value} (ht : P.underlying t = some (.slice e)) (hu : ∃ e', P.underlying u = some (.slice e')) (hi : P.info? e = some i) (hz : i.zero = some z)
    (hs : sizeT P e = some esz) (hb : bytesT P e = some bytes) (hbp : 0 < bytes) (hroom : sc < sl + n) (hfit : (sl + n) * bytes ≤ 140737488355328)
    (hx : ∀ w' : World, w'.heap = w.heap → (Builtin.firstCells esz n (.slice ax n cx)).run P w' = .ok news.toArray w') (ho : ∀ w' : World, w'.heap = w.heap → (Builtin.firstCells esz sl (.slice ad sl sc)).run P w' = .ok olds.toArray w') :
    (Builtin.append_ #[t, u] ty #[.slice ad sl sc, .slice ax n cx]).run P w = .ok (.slice (some ⟨w.heap.size, 0, none⟩) (sl + n) (grownCap w (sl + n) sc e))
      (w.drew.alloc (.cells (olds.toArray ++ news.toArray ++ Builtin.zeroCells z.cells (grownCap w (sl + n) sc e - (sl + n))) e)) := by
  obtain ⟨e', hu⟩ := hu
  have hib : i.bytes = bytes := by simpa [bytesT, hi] using hb
  have hle : sl + n ≤ (sl + n) * bytes := Nat.le_mul_of_pos_right _ hbp
  have hn : ¬ (sl + n ≤ sc) := by omega
  have h63' : ¬ (9223372036854775807 < ((sl : Int) + (n : Int))) := by omega
  have h48' : ¬ (281474976710656 < Builtin.nextslicecap (sl + n) sc * i.bytes) := by rw [hib]; have := growslice_fits hroom hfit; omega
  have hf := hx w.drew rfl
  have hfo := ho w.drew rfl
  have hsz : i.size = esz := by simpa [sizeT, hi] using hs
  simp [Builtin.append_, run_underlying ht, run_underlying hu, run_sizeT hs, typeInfo, zeroValue, hi, hz, Builtin.lenOf, hn, h63', h48', Question.forced, hf, hfo, newRow, grownCap]
  congr 2
  apply Array.ext'
  simp
end
end Go.Eng
namespace Go.Eng
open Go
variable [RecP]
section
variable {own : Nat → Prop} {σ : Stab} {j : Inj} {M : Mem} {w : World} {E : Nat → Option AV} {a : Act} {P : Program}
theorem run_storeCells_fr (P : Program) (g o : Nat) (t : TypeId) (fr : Nat × Nat) : ∀ (vs : List Value) (i : Nat) (cur : Array Value) (w : World), w.heap[g]? = some (.cells cur t fr) → (∀ k, k < cur.size → ¬ (fr.1 ≤ k ∧ k < fr.2)) → o + i + vs.length ≤ cur.size → (∀ v ∈ vs, v.oneCell' = true) →
    (storeCells ⟨g, o, none⟩ vs i).run P w = .ok () (w.setRow g (cur.toList.take (o + i) ++ vs ++ cur.toList.drop (o + i + vs.length)).toArray)
  | [], i, cur, w, hg, _, _, _ => by
    simp only [storeCells, List.append_nil, List.length_nil, Nat.add_zero, List.take_append_drop, Array.toArray_toList]
    rw [setRow_self w g cur t fr hg]
    rfl
  | v :: rest, i, cur, w, hg, hf, hl, h1 => by
    have hi : o + i < cur.size := by simp at hl; omega
    have e1 : (⟨g, o, none⟩ : Addr).add i = ⟨g, o + i, none⟩ := by unfold Addr.add; split <;> simp_all
    have e2 : w.cell? ⟨g, o + i, none⟩ = some cur[o + i] := by simp [World.cell?, hg, hi]
    have e3 : w.frozen? ⟨g, o + i, none⟩ = false := by
      have := hf (o + i) hi
      simp only [World.frozen?, hg]
      simpa using this
    have e4 : (store ((⟨g, o, none⟩ : Addr).add i) v).run P w = .ok () (w.setRow g (cur.setIfInBounds (o + i) v)) := by
      rw [e1, run_store P w _ v _ (h1 v (by simp)), e2]
      simp [e3, setCell_eq_setRow w g (o + i) cur t fr v hg]
    have ih := run_storeCells_fr P g o t fr rest (i + 1) (cur.setIfInBounds (o + i) v) (w.setRow g (cur.setIfInBounds (o + i) v)) (setRow_heap w g cur _ t _ hg) (fun k hk => hf k (by simpa using hk)) (by simp at hl ⊢; omega) (fun x hx => h1 x (by simp [hx]))
    simp only [storeCells, Sem.run_bind, e4, Result.andThen_ok, ih, setRow_setRow]
    congr 3
    have e := list_seg_step cur.toList (o + i) v rest (by simp at hl ⊢; omega)
    simpa [Array.toList_setIfInBounds, Nat.add_assoc] using e
theorem fr_free {fr : Nat × Nat} {n : Nat} {p : Prop} (h : fr ≠ (0, 0) → p ∧ fr = (n, n + 1)) (k : Nat) (hk : k < n) : ¬ (fr.1 ≤ k ∧ k < fr.2) := by
  by_cases h0 : fr = (0, 0)
  · rw [h0]; simp
  · rw [(h h0).2]; simp; omega
theorem holes_get {M : Mem} {n id : Nat} {b : Blk} (h : M[id]? = some (some b)) : (M ++ holes n)[id]? = some (some b) := by
  grind
theorem Step.of_holes {n : Nat} {σ' : Stab} {j' : Inj} {M' : Mem} {w' : World} (h : Step own (M ++ holes n).length σ j (M ++ holes n) w σ' j' M' w') : Step own M.length σ j M w σ' j' M' w' := by
  have h := h.le (k' := M.length) (by simp)
  exact ⟨h.sle, h.jle, h.size, h.frame, h.snew, fun id b hid hb => h.keep id b hid (holes_get hb), h.side⟩
theorem same_heap_cell {w' : World} (h : w'.heap = w.heap) (a : Addr) : w'.cell? a = w.cell? a := by simp [World.cell?, h]
theorem append_fresh {t u ty e esz bytes : Nat} {z : List Cl} {ad : Option Addr} {x : Cl} {vx : Value} {ys : List (List Cl)} (ht : P.underlying t = some (.slice e)) (hu : ∃ e', P.underlying u = some (.slice e')) (hs : sizeT P e = some esz) (hb : bytesT P e = some bytes)
    (hz : zeroT P e = some z) (hzn : z.length = esz) (hbp : 0 < bytes) (hx : elemsOf M esz x = some ys) (hroom : roomy ys.length bytes = true) (hpos : 0 < esz) (hvx : VC σ j x vx) (hag : Agree σ w) (hm : MR own σ j M w) (hown : ∀ b, w.heap.size ≤ b → own b) :
    GoodV own σ j M w (.w (.c (.slice M.length ys.length esz 0 ys.length none))) (M ++ [some { box := false, esz, rows := ys, gen := ys.length, fz := false, ver := ys.length }]) ((Builtin.append_ #[t, u] ty #[.slice ad 0 0, vx]).run P w) := by
  obtain ⟨i, zv, hi, hzv, hzc⟩ := zeroT_some hz
  have hzs : zv.cells.size = esz := by rw [← hzn]; simpa using (clsOf_sound (σ := σ) (j := j) hzc).1.symm
  obtain ⟨ax, cx, news, rfl, hr, hcells⟩ := elems_sound hx hvx hag hm
  have hnl : news.length = ys.length * esz := by simpa using hr.1
  have hhole : (M ++ holes 1)[M.length]? = some none := by simp [holes]
  have hlt : M.length < (M ++ holes 1).length := by grind
  rw [← set_push]
  have hf : ∀ w' : World, w'.heap = w.heap → (Builtin.firstCells esz ys.length (.slice ax ys.length cx)).run P w' = .ok news.toArray w' := by
    intro w' hw'
    refine run_firstCells hnl (fun h0 => ?_)
    obtain ⟨b, o, e1, e2⟩ := hcells (by grind)
    grind [same_heap_cell]
  by_cases hy : ys = []
  · subst hy
    have hnil : news = [] := List.eq_nil_of_length_eq_zero (by grind)
    subst hnil
    obtain ⟨hnone, hm'⟩ := (hm.holes 1).renew (w' := w) (b' := { box := false, esz, rows := [], gen := 0, fz := false, ver := 0 }) (pl' := .empty) hlt (fun b hb => by grind)
      (fun k b L _ hb hL => ⟨rfl, fun e => by cases e⟩) ⟨rfl, rfl⟩ (fun L e => by cases e)
    refine ⟨.slice ad 0 0, w, σ, _, ?_, ?_, hag, hm', ?_⟩
    · exact run_append_in ht hu hs (Nat.le_refl _) (hf w rfl) (fun b _ => by simp [storeCells]) (fun _ => rfl)
    · exact VC.slice _ M.length 0 esz 0 0 none _ ad 0 (Inj.put_at _ _ _ _) (Nat.le_refl _) (by simp) (fun h => absurd rfl h)
    · refine ⟨Stab.le_refl _, fun id g pl _ h => Inj.le_put hnone id g pl h, Nat.le_refl _, fun _ _ _ => rfl, fun _ _ _ h => .inl h, fun id b hid hb => ⟨b, ?_, Nat.le_refl _, fun _ => ⟨rfl, fun _ _ => rfl⟩⟩, Side.refl _⟩
      grind
  · have hylen : 0 < ys.length := List.length_pos_iff.2 hy
    have hrun := run_append_out (P := P) (w := w) (ty := ty) (ad := ad) (ax := ax) (sl := 0) (sc := 0) (n := ys.length) (cx := cx) (olds := []) (news := news) ht hu hi hzv hs hb hbp (by omega) (by grind [roomy]) hf
      (fun w' _ => run_firstCells (n := 0) (by simp) (fun h => by grind))
    simp only [Nat.zero_add] at hrun
    generalize hcap : grownCap w ys.length 0 e = cap at hrun
    have hge : ys.length ≤ cap := by grind [grownCap_ge]
    generalize hC : (List.toArray [] ++ news.toArray ++ Builtin.zeroCells zv.cells (cap - ys.length)) = C at hrun
    have hCs : C.size = cap * esz := by
      rw [← hC]
      simp only [Array.size_append, List.size_toArray, size_zeroCells, hzs, hnl, List.length_nil, Nat.zero_add]
      rw [← Nat.add_mul]; grind
    obtain ⟨_, hag', hm', hst⟩ := lay_new (b' := { box := false, esz, rows := ys, gen := ys.length, fz := false, ver := ys.length }) (C := C) (T := e) (w' := w.drew.alloc (.cells C e (0, 0))) (hm.holes 1) hag hown hlt
      (fun b hb => by grind) rfl (Side.of_push rfl rfl rfl) hpos hr.2.1 (by grind) (fun k row m cl hk hmm => by
        obtain ⟨v, hv, hvc⟩ := hr.2.2 k row m cl hk hmm
        grind)
    refine ⟨_, _, σ, _, hrun, ?_, hag', hm', hst.of_holes⟩
    have := VC.slice (σ := σ) (j.put M.length ys.length (.loc ⟨w.heap.size, 0, esz, C.size⟩)) M.length ys.length esz 0 ys.length none _ (some ⟨w.heap.size, 0, none⟩) cap (Inj.put_at _ _ _ _) hge (by simp)
      (fun _ => ⟨_, rfl, rfl, by simp, by grind⟩)
    exact this
theorem append_good {t u ty e esz bytes : Nat} {z : List Cl} {s x : Cl} {vs vx : Value} {av : AV} {M' : Mem} {fp : FP} (ht : P.underlying t = some (.slice e)) (hu : ∃ e', P.underlying u = some (.slice e')) (hs : sizeT P e = some esz) (hb : bytesT P e = some bytes)
    (hz : zeroT P e = some z) (hzn : z.length = esz) (hbp : 0 < bytes) (h : appendOp M esz bytes s x = some (av, M', fp)) (hvs : VC σ j s vs) (hvx : VC σ j x vx) (hag : Agree σ w) (hm : MR own σ j M w) (hown : ∀ b, w.heap.size ≤ b → own b) :
    GoodV own σ j M w av M' ((Builtin.append_ #[t, u] ty #[vs, vx]).run P w) := by
  unfold appendOp at h
  split at h
  · grind
  · rename_i ys hx
    simp only at h
    have hnone : ∀ (ad : Option Addr) (sl c : Nat), ys = [] → vs = .slice ad sl c → sl ≤ c → GoodV own σ j M w (.w (.c s)) M ((Builtin.append_ #[t, u] ty #[vs, vx]).run P w) := by
      rintro ad sl c rfl rfl hle
      obtain ⟨ax, cx, news, rfl, hr, hcells⟩ := elems_sound hx hvx hag hm
      have hnl : news = [] := List.eq_nil_of_length_eq_zero (by simpa using hr.1)
      subst hnl
      have hrun := run_append_in (P := P) (w := w) (ty := ty) (ad := ad) (ax := ax) (sl := sl) (sc := c) (n := 0) (cx := cx) (news := []) (w' := w) ht hu hs (by grind)
        (run_firstCells (n := 0) (by simp) (fun h => by grind)) (fun b _ => by simp [storeCells]) (fun _ => rfl)
      exact GoodV.same hrun (show AVR σ j (.w (.c s)) _ from hvs) hag hm
    split at h
    · split at h
      · rename_i hemp
        cases h
        cases hvs
        grind
      · split at h
        · rename_i hc
          simp only [Bool.and_eq_true, decide_eq_true_eq] at hc
          cases h; cases hvs
          grind [append_fresh]
        grind
    · split at h
      · rename_i hemp
        cases h
        cases hvs with
        | rslice _ _ _ ad c b o val hl ha hr h1 h2 => grind
      grind
    · rename_i id g es off len cap
      split at h
      · rename_i b hb0
        obtain ⟨hbk, hgen⟩ := look_some hb0
        subst hgen
        split at h
        · rename_i hc
          simp only [Bool.and_eq_true, Bool.or_eq_true, Bool.not_eq_true', decide_eq_true_eq] at hc
          obtain ⟨⟨⟨⟨⟨hbox, hesz⟩, hpos⟩, hfit⟩, hfz⟩, hroomy⟩ := hc
          by_cases hemp : ys = []
          · rw [if_pos (by grind)] at h
            cases h
            cases hvs with
            | slice _ _ _ _ _ _ _ pl ad c hj hl hcap ha => grind
          rw [if_neg (by grind)] at h
          have hylen : 0 < ys.length := List.length_pos_iff.2 hemp
          cases h
          have hroomy : (len + ys.length) * bytes ≤ 140737488355328 := by grind [roomy]
          obtain ⟨i, zv, hi, hzv, hzc⟩ := zeroT_some hz
          have hzs : zv.cells.size = esz := by rw [← hzn]; simpa using (clsOf_sound (σ := σ) (j := j) hzc).1.symm
          obtain ⟨ax, cx, news, rfl, hr, hcells⟩ := elems_sound hx hvx hag hm
          have hnl : news.length = ys.length * esz := by simpa using hr.1
          have hf : ∀ w' : World, w'.heap = w.heap → (Builtin.firstCells esz ys.length (.slice ax ys.length cx)).run P w' = .ok news.toArray w' := by
            intro w' hw'
            refine run_firstCells hnl (fun h0 => ?_)
            obtain ⟨b, o, e1, e2⟩ := hcells (by grind)
            grind [same_heap_cell]
          have hlen' : ((b.rows.drop off).take len).length = len := by grind
          have hlt := lt_of_get hbk
          have hrl : ∀ pl, j id b.gen = some pl → ∀ row ∈ (b.rows.drop off).take len ++ ys, row.length = b.esz := by
            intro pl hpl row hrow
            rcases List.mem_append.1 hrow with q | q
            · obtain ⟨pl', hpl', hbr, _⟩ := hm.blk id b hbk
              have q' := List.mem_of_mem_drop (List.mem_of_mem_take q)
              cases pl' with
              | empty => rw [hbr.1] at q'; grind
              | rnd l r f sh => rw [(hbr : RB σ j b l r f sh w).box] at hbox; grind
              | mp l g => rw [(hbr : MB σ j b l g w).box] at hbox; grind
              | mi l => rw [(hbr : IB σ j b l w).box] at hbox; grind
              | loc L => exact (hbr : BL σ j b L w).len row q'
            · rw [hesz]; exact hr.2.1 row q
          cases hvs with
          | slice _ _ _ _ _ _ _ pl ad c hj hl hcap ha =>
            by_cases hrm : len + ys.length ≤ c
            · by_cases hc0 : c = 0
              · omega
              · obtain ⟨L, rfl, _, rfl, hfit2⟩ := ha hc0
                obtain ⟨pl', hpl', hbr, hown'⟩ := hm.blk id b hbk
                rw [hj] at hpl'; cases hpl'
                have hbr : BL σ j b L w := hbr
                obtain ⟨C, T, fr, hC, hfr, hsz, hrow⟩ := hbr.heap
                have hes : L.esz = esz := by rw [hbr.esz, hesz]
                have hones : ∀ v ∈ news, v.oneCell' = true := by
                  intro v hv
                  obtain ⟨k, hk⟩ := List.getElem?_of_mem hv
                  have hkl := lt_of_get hk
                  have hpos' := hpos
                  have hi' : k / esz < ys.length := (Nat.div_lt_iff_lt_mul hpos').2 (by omega)
                  have hri := List.getElem?_eq_getElem hi'
                  have hn' : k % esz < (ys[k / esz]).length := by simp_all [List.getElem_mem, Nat.mod_lt]
                  obtain ⟨v', hv', hvc⟩ := hr.2.2 _ _ _ _ hri (List.getElem?_eq_getElem hn')
                  have e1 : k / esz * esz + k % esz = k := by grind [Nat.mul_comm, Nat.div_add_mod]
                  rw [e1] at hv'
                  have e2 : news[k]? = some v' := by grind
                  rw [hk] at e2; cases e2
                  exact hvc.oneCell
                have hmul : (off + c) * L.esz = off * L.esz + c * L.esz := Nat.add_mul _ _ _
                have hmul2 : (len + ys.length) * L.esz ≤ c * L.esz := Nat.mul_le_mul_right _ hrm
                have hmul3 : (len + ys.length) * L.esz = len * L.esz + ys.length * L.esz := Nat.add_mul _ _ _
                have hnl' : news.length = ys.length * L.esz := by grind
                have hroomC : L.off + off * L.esz + len * L.esz + news.length ≤ C.size := by omega
                have hst := run_storeCells_fr P L.blk (L.off + off * L.esz + len * L.esz) T fr news 0 C w hC (fr_free hfr) (by omega) hones
                simp only [Nat.add_zero] at hst
                generalize hC' : (C.toList.take (L.off + off * L.esz + len * L.esz) ++ news ++ C.toList.drop (L.off + off * L.esz + len * L.esz + news.length)).toArray = C' at hst
                have hC'sz : C'.size = C.size := by grind
                have hC'get : ∀ p, C'[p]? = if p < L.off + off * L.esz + len * L.esz then C[p]? else if p < L.off + off * L.esz + len * L.esz + news.length then news[p - (L.off + off * L.esz + len * L.esz)]? else C[p]? := by
                  intro p
                  rw [← hC', List.getElem?_toArray, getElem?_splice _ _ _ (by simpa using hroomC)]
                  simp
                have hheap : (w.setRow L.blk C').heap[L.blk]? = some (.cells C' T fr) := setRow_heap w _ C C' T _ hC
                have hbe : L.esz = b.esz := hbr.esz
                have hfitb : (off + len) * b.esz ≤ b.rows.length * b.esz := Nat.mul_le_mul_right _ hfit
                have hmul4 : (off + len) * b.esz = off * b.esz + len * b.esz := Nat.add_mul _ _ _
                have hmul5 : (len + ys.length) * b.esz = len * b.esz + ys.length * b.esz := Nat.add_mul _ _ _
                have hsnone : ∀ o, L.off + off * L.esz + len * L.esz ≤ o → σ L.blk o = none := by
                  intro o ho
                  refine hbr.stab o (by omega) (fun hfzt => ?_)
                  rcases hfz with h | h
                  · rw [hfzt] at h; cases h
                  · rw [← h, hmul4, ← hbe]; omega
                obtain ⟨hnone, hm'⟩ := hm.renew (w' := w.setRow L.blk C') (id := id) (b' := { b with rows := (b.rows.drop off).take len ++ ys, gen := b.gen + ys.length, ver := b.ver + ys.length }) (pl' := .loc ⟨L.blk, L.off + off * L.esz, b.esz, L.tot⟩) hlt
                  (fun b0 hb0 => by rw [hbk] at hb0; cases hb0; simp; try omega)
                  (fun k b2 q hk hb2 hL2 => ⟨setRow_other w _ _ _ (fun e => hk (hm.injP k id b2 b q hb2 hbk hL2 (by rw [e]; exact Inj.atk_loc hj))), fun e => by cases e; exact hk (hm.injP k id b2 b L.blk hb2 hbk hL2 (Inj.atk_loc hj))⟩)
                  (⟨rfl, hbr.pos, hrl _ hj, by simp only [List.length_append, hlen']; rw [hmul5, ← hbe]; omega, ⟨C', T, fr, hheap, fun h => by rw [hC'sz]; exact hfr h, by rw [hC'sz, hsz], fun k row n cl hk hn => by
                      simp only [hbox, Bool.false_eq_true, if_false] at hk ⊢
                      rw [List.getElem?_append] at hk
                      split at hk
                      · rename_i hkl
                        rw [hlen'] at hkl
                        have hk' : b.rows[off + k]? = some row := by
                          rw [List.getElem?_take, if_pos hkl] at hk
                          simpa using hk
                        obtain ⟨v, hv, hvc⟩ := hrow (off + k) row n cl hk' hn
                        rw [if_neg (by simp [hbox])] at hvc
                        refine ⟨v, ?_, hvc⟩
                        have h1 := row_in (esz := b.esz) hkl
                        have h2 := hbr.len row (mem_of_get hk')
                        have h3 := lt_of_get hn
                        have h4 : (off + k) * b.esz = off * b.esz + k * b.esz := Nat.add_mul _ _ _
                        rw [hC'get, if_pos (by rw [hbe]; omega), ← hv]
                        congr 1
                        rw [h4, hbe]; omega
                      · rename_i hkl
                        rw [hlen'] at hkl hk
                        obtain ⟨v, hv, hvc⟩ := hr.2.2 (k - len) row n cl hk hn
                        refine ⟨v, ?_, hvc⟩
                        have h1 := row_in (esz := esz) (lt_of_get hk)
                        have h2 := hr.2.1 row (mem_of_get hk)
                        have h3 := lt_of_get hn
                        have h4 : k * b.esz = len * b.esz + (k - len) * b.esz := by rw [← Nat.add_mul]; congr 1; omega
                        rw [hC'get, if_neg (by rw [h4, hbe]; omega), if_pos (by rw [h4, hbe, hnl, hesz]; omega)]
                        have e5 : L.off + off * L.esz + k * b.esz + n - (L.off + off * L.esz + len * L.esz) = (k - len) * esz + n := by rw [h4, hbe, hesz]; omega
                        rw [e5]; simpa using hv⟩, fun o h1 h2 => by
                      refine hbr.stab o (by simp only at h1; omega) (fun hfzt => ?_)
                      have h2 := h2 hfzt
                      simp only [List.length_append, hlen'] at h2
                      rcases hfz with h | h
                      · rw [hfzt] at h; cases h
                      · rw [← h, hmul4]; rw [hmul5, hbe] at h2; omega⟩ : BL σ _ { b with rows := (b.rows.drop off).take len ++ ys, gen := b.gen + ys.length, ver := b.ver + ys.length } ⟨L.blk, L.off + off * L.esz, b.esz, L.tot⟩ _) (fun L' e => by cases e; exact hown' L rfl) (fun q => by exfalso; have q : b.gen + ys.length = 0 := q; omega)
                refine ⟨.slice (some ⟨L.blk, L.off + off * L.esz, none⟩) (len + ys.length) c, _, σ, _, ?_, ?_, ?_, hm', ?_⟩
                · refine run_append_in ht hu hs hrm (hf w rfl) (fun b' hb' => ?_) (fun h => by cases h)
                  cases hb'
                  rw [Addr.add_lit, ← hes]; exact hst
                · refine VC.slice _ id (b.gen + ys.length) esz 0 (len + ys.length) none _ _ c (Inj.put_at _ _ _ _) hrm (by simp) (fun _ => ⟨_, rfl, hesz, by simp, ?_⟩)
                  simp only [Nat.zero_add]
                  rw [← hbe]; omega
                · refine ⟨?_, hag.glob⟩
                  intro k o v hv
                  have hold := hag.cells k o v hv
                  by_cases hkk : k = L.blk
                  · subst hkk
                    have hlo : o < L.off + off * L.esz + len * L.esz := by
                      rcases Nat.lt_or_ge o (L.off + off * L.esz + len * L.esz) with h | h
                      · exact h
                      · rw [hsnone o h] at hv; cases hv
                    simp only [World.cell?, hC, Option.isSome_none, Bool.false_eq_true, if_false] at hold
                    simp only [World.cell?, hheap, Option.isSome_none, Bool.false_eq_true, if_false]
                    rw [hC'get, if_pos hlo]; exact hold
                  · simpa [World.cell?, setRow_other w L.blk k C' hkk] using hold
                · refine ⟨Stab.le_refl _, fun id' g pl _ h => Inj.le_put hnone id' g pl h, by simp [World.setRow], fun k _ ho => setRow_other w _ _ _ (fun e => ho (e ▸ hown' L rfl)), fun _ _ _ h => .inl h, fun id' b0 hid hb0 => ?_, Side.setRow _ _ _⟩
                  by_cases hii : id = id'
                  · subst hii; rw [hbk] at hb0; cases hb0
                    exact ⟨_, by simp [hlt]; rfl, by simp, fun h => by dsimp only at h; omega⟩
                  · exact ⟨b0, by rw [List.getElem?_set_ne hii]; exact hb0, Nat.le_refl _, fun _ => ⟨rfl, fun L' hL' => setRow_other w _ _ _ (fun e => hii (hm.injP id id' b b0 L' hbk hb0 (by rw [e]; exact Inj.atk_loc hj) hL'))⟩⟩
            · -- a new array
              have holds : ∃ olds : List Value, RowsR σ esz ((b.rows.drop off).take len) olds.toArray ∧ ∀ w' : World, w'.heap = w.heap → (Builtin.firstCells esz len (.slice ad len c)).run P w' = .ok olds.toArray w' := by
                by_cases hc0 : c = 0
                · have hl0 : len = 0 := by omega
                  subst hl0
                  have e0 : (b.rows.drop off).take 0 = [] := by simp
                  rw [e0]
                  exact ⟨[], rowsR_nil, fun w' _ => run_firstCells (n := 0) (by simp) (fun h => by simp at h)⟩
                · obtain ⟨L, rfl, _, rfl, hfit2⟩ := ha hc0
                  obtain ⟨olds, h1, h2⟩ := block_rows hm hbk hj hbox hfit
                  rw [hesz] at h1
                  refine ⟨olds, h1, fun w' hw' => run_firstCells (by have := h1.1; rw [hlen'] at this; simpa using this) (fun _ => ⟨_, _, rfl, fun k u hu => by rw [same_heap_cell hw']; exact h2 k u hu⟩)⟩
              obtain ⟨olds, hro, hfo⟩ := holds
              have hol : olds.length = len * esz := by have := hro.1; rw [hlen'] at this; simpa using this
              have hrun := run_append_out (P := P) (w := w) (ty := ty) (ad := ad) (ax := ax) (sl := len) (sc := c) (n := ys.length) (cx := cx) (olds := olds) (news := news) ht hu hi hzv hs hb hbp (by omega) hroomy hf hfo
              generalize hcap : grownCap w (len + ys.length) c e = cp at hrun
              have hge : len + ys.length ≤ cp := by rw [← hcap]; exact grownCap_ge w _ _ _
              generalize hC : (olds.toArray ++ news.toArray ++ Builtin.zeroCells zv.cells (cp - (len + ys.length))) = C at hrun
              have hCs : C.size = cp * esz := by
                rw [← hC]
                simp only [Array.size_append, List.size_toArray, size_zeroCells, hzs, hnl, hol]
                rw [← Nat.add_mul, ← Nat.add_mul]; congr 1; omega
              have hmul5 : (len + ys.length) * esz ≤ cp * esz := Nat.mul_le_mul_right _ hge
              obtain ⟨_, hag', hm', hst⟩ := lay_new (b' := { b with rows := (b.rows.drop off).take len ++ ys, gen := b.gen + ys.length, ver := b.ver + ys.length }) (C := C) (T := e) (w' := w.drew.alloc (.cells C e (0, 0))) hm hag hown hlt
                (fun b0 hb0 => by rw [hbk] at hb0; cases hb0; simp; try omega) rfl (Side.of_push rfl rfl rfl) (by simp only; rw [hesz]; exact hpos) (hrl _ hj) (by simp only [List.length_append, hlen']; rw [hCs, hesz]; exact hmul5) (fun k row m cl hk hmm => by
                  simp only [hbox, Bool.false_eq_true, if_false] at hk ⊢
                  rw [hesz]
                  rw [List.getElem?_append] at hk
                  split at hk
                  · obtain ⟨v, hv, hvc⟩ := hro.2.2 k row m cl hk hmm
                    refine ⟨v, ?_, hvc⟩
                    have hlt' : k * esz + m < olds.length := by
                      have := (Array.getElem?_eq_some_iff.1 hv).1
                      simpa using this
                    rw [← hC, Array.append_assoc, Array.getElem?_append_left (by simpa using hlt')]
                    exact hv
                  · rename_i hkl
                    rw [hlen'] at hkl hk
                    obtain ⟨v, hv, hvc⟩ := hr.2.2 (k - len) row m cl hk hmm
                    refine ⟨v, ?_, hvc⟩
                    have hlt' : (k - len) * esz + m < news.length := by
                      have := (Array.getElem?_eq_some_iff.1 hv).1
                      simpa using this
                    have h4 : k * esz = len * esz + (k - len) * esz := by rw [← Nat.add_mul]; congr 1; omega
                    rw [← hC, Array.append_assoc, Array.getElem?_append_right (by simp; omega), Array.getElem?_append_left (by simp; omega)]
                    have e5 : k * esz + m - olds.toArray.size = (k - len) * esz + m := by simp; omega
                    rw [e5]; exact hv)
              refine ⟨_, _, σ, _, hrun, ?_, hag', hm', hst⟩
              have := VC.slice (σ := σ) (j.put id (b.gen + ys.length) (.loc ⟨w.heap.size, 0, b.esz, C.size⟩)) id (b.gen + ys.length) esz 0 (len + ys.length) none _ (some ⟨w.heap.size, 0, none⟩) cp (Inj.put_at _ _ _ _) hge (by simp)
                (fun _ => ⟨_, rfl, hesz, by simp, by simp [hCs, hesz]⟩)
              exact this
        grind
      grind
    grind
end
end Go.Eng
namespace Go.Eng
open Go
variable [RecP]
section
variable {own : Nat → Prop} {σ : Stab} {j : Inj} {M : Mem} {w : World} {E : Nat → Option AV} {a : Act} {P : Program}
theorem bound_good (hG : GK σ) (hE : EnvR σ j E a.tmps) {x : Operand} {o : Opd} {top n : Nat} {code : BoundsCode} (ho : opdOf x = some o) (h : boundOf E (some o) 0 top = some n) : (Instr.sliceBound (a.eval x) top code).run P w = .ok n w ∧ n ≤ top := by
  simp only [boundOf] at h
  split at h
  · rename_i k v hv
    have hr := opd_sound hG hE ho hv
    have : a.eval x = .int k v := vc_int hr
    unfold asBound at h
    split at h
    · rename_i hb
      cases h
      rw [this]
      refine ⟨?_, by omega⟩
      simp [Instr.sliceBound, asIntOf, hb]
    · cases h
  · cases h
theorem sliceB_good (hG : GK σ) (hE : EnvR σ j E a.tmps) {lo hi mx : Option Operand} {lo' hi' mx' : Option Opd} {len c : Nat} {cap : Option Nat} {l n : Nat} {c' : Option Nat} (h1 : opdOpt lo = some lo') (h2 : opdOpt hi = some hi') (h3 : opdOpt mx = some mx')
    (hlc : len ≤ c) (hcap : ∀ k, cap = some k → c = k) (h : sliceB E len cap lo' hi' mx' = some (l, n, c')) :
    ∃ m : Nat, (Instr.sliceBounds true len c (lo.map a.eval) (hi.map a.eval) (mx.map a.eval)).run P w = .ok (l, l + n, m) w ∧ l + n ≤ m ∧ m ≤ c ∧ l ≤ m ∧ (∀ k, c' = some k → m - l = k) ∧ (cap = none → l + n ≤ len) := by
  have hc0 : topOf len cap ≤ c := by
    cases cap with
    | none => exact hlc
    | some k => exact Nat.le_of_eq (hcap k rfl).symm
  have lift : ∀ {x : Operand} {o : Opd} {top top' n : Nat} {code : BoundsCode}, opdOf x = some o → boundOf E (some o) 0 top = some n → top ≤ top' → (Instr.sliceBound (a.eval x) top' code).run P w = .ok n w ∧ n ≤ top := by
    intro x o top top' n code ho h ht
    have hle := (bound_good (P := P) (w := w) (code := code) hG hE ho h).2
    refine ⟨?_, hle⟩
    simp only [boundOf] at h
    split at h
    · rename_i k v hv
      have hr := opd_sound hG hE ho hv
      have he : a.eval x = .int k v := vc_int hr
      unfold asBound at h
      split at h
      · rename_i hb
        cases h
        rw [he]
        have : 0 ≤ v ∧ v ≤ (top' : Int) := ⟨hb.1, by omega⟩
        simp [Instr.sliceBound, asIntOf, this]
      · cases h
    · cases h
  unfold sliceB at h
  split at h
  · -- no max
    rename_i hmx
    have hmxn : mx = none := by
      cases mx with
      | none => rfl
      | some x => simp [opdOpt] at h3
    subst hmxn
    split at h
    · rename_i hh hhi
      split at h
      · rename_i ll hll
        cases h
        have qh : (match hi.map a.eval with | some v => Instr.sliceBound v c .sliceAcap | none => pure len : Sem Nat).run P w = .ok hh w ∧ hh ≤ c ∧ (cap = none → hh ≤ len) := by
          cases hi with
          | none =>
            simp [opdOpt] at h2; subst h2
            simp only [boundOf, Option.some.injEq] at hhi
            rw [← hhi]; exact ⟨rfl, hlc, fun _ => Nat.le_refl _⟩
          | some x =>
            simp only [opdOpt, Option.map_eq_some_iff] at h2
            obtain ⟨o, ho, rfl⟩ := h2
            obtain ⟨e1, e2⟩ := lift (code := .sliceAcap) ho hhi hc0
            exact ⟨e1, by omega, fun h => by rw [h] at e2; exact e2⟩
        obtain ⟨qh1, qh2, qh3⟩ := qh
        have ql : (match lo.map a.eval with | some v => Instr.sliceBound v hh .sliceB | none => pure 0 : Sem Nat).run P w = .ok l w ∧ l ≤ hh := by
          cases lo with
          | none =>
            simp [opdOpt] at h1; subst h1
            simp only [boundOf, Option.some.injEq] at hll
            rw [← hll]; exact ⟨rfl, by omega⟩
          | some x =>
            simp only [opdOpt, Option.map_eq_some_iff] at h1
            obtain ⟨o, ho, rfl⟩ := h1
            obtain ⟨e1, e2⟩ := lift (code := .sliceB) ho hll (Nat.le_refl _)
            exact ⟨e1, by omega⟩
        obtain ⟨ql1, ql2⟩ := ql
        have e : l + (hh - l) = hh := by omega
        refine ⟨c, ?_, by omega, Nat.le_refl _, by omega, fun k hk => ?_, fun h => by rw [e]; exact qh3 h⟩
        · rw [e]
          clear e
          revert qh1 ql1
          generalize hi.map a.eval = hv
          generalize lo.map a.eval = lv
          intro qh1 ql1
          cases hv <;> cases lv <;> simp only [Sem.run_pure, Result.ok.injEq, and_true] at qh1 ql1 <;> simp [Instr.sliceBounds, qh1, ql1]
        · simp only [Option.map_eq_some_iff] at hk
          obtain ⟨k0, hk0, rfl⟩ := hk
          rw [hcap k0 hk0]
      · cases h
    · cases h
  · -- with a max
    rename_i mo
    obtain ⟨mx0, rfl⟩ : ∃ x, mx = some x := by
      cases mx with
      | none => simp [opdOpt] at h3
      | some x => exact ⟨x, rfl⟩
    simp only [opdOpt, Option.map_eq_some_iff] at h3
    obtain ⟨mo', hmo, hmo'⟩ := h3
    cases hmo'
    split at h
    · rename_i m hm
      split at h
      · rename_i hh hhi
        split at h
        · rename_i ll hll
          split at h
          · rename_i hsome
            cases h
            obtain ⟨e1, e2⟩ := lift (code := .slice3Acap) hmo hm hc0
            obtain ⟨x, rfl⟩ : ∃ x, hi = some x := by
              cases hi with
              | none => simp [opdOpt] at h2; subst h2; simp at hsome
              | some x => exact ⟨x, rfl⟩
            simp only [opdOpt, Option.map_eq_some_iff] at h2
            obtain ⟨o, ho, rfl⟩ := h2
            obtain ⟨e3, e4⟩ := lift (code := .slice3B) ho hhi (Nat.le_refl _)
            have ql : (match lo.map a.eval with | some v => Instr.sliceBound v hh .slice3C | none => pure 0 : Sem Nat).run P w = .ok l w ∧ l ≤ hh := by
              cases lo with
              | none =>
                simp [opdOpt] at h1; subst h1
                simp only [boundOf, Option.some.injEq] at hll
                rw [← hll]; exact ⟨rfl, by omega⟩
              | some x =>
                simp only [opdOpt, Option.map_eq_some_iff] at h1
                obtain ⟨o, ho, rfl⟩ := h1
                obtain ⟨e1, e2⟩ := lift (code := .slice3C) ho hll (Nat.le_refl _)
                exact ⟨e1, by omega⟩
            obtain ⟨ql1, ql2⟩ := ql
            have e : l + (hh - l) = hh := by omega
            refine ⟨m, ?_, by omega, by omega, by omega, fun k hk => by cases hk; rfl, fun h => by rw [h] at e2; have e2' : m ≤ len := e2; omega⟩
            rw [e]
            clear e
            revert ql1
            generalize lo.map a.eval = lv
            intro ql1
            cases lv <;> simp only [Sem.run_pure, Result.ok.injEq, and_true] at ql1 <;> simp [Instr.sliceBounds, e1, e3, ql1]
          · cases h
        · cases h
      · cases h
    · cases h
theorem slice_good (hG : GK σ) (hE : EnvR σ j E a.tmps) {t e es : TypeId} {x : Cl} {vx : Value} {lo hi mx : Option Operand} {lo' hi' mx' : Option Opd} {y : Cl} (ht : P.underlying t = some (.slice e)) (hes : sizeT P e = some es)
    (hx : VC σ j x vx) (h1 : opdOpt lo = some lo') (h2 : opdOpt hi = some hi') (h3 : opdOpt mx = some mx') (h : sliceC E es x lo' hi' mx' = some y) :
    ∃ v, (Instr.sliceAt t vx (lo.map a.eval) (hi.map a.eval) (mx.map a.eval)).run P w = .ok v w ∧ VC σ j y v := by
  unfold sliceC at h
  cases hx with
  | slice _ id g es' off len cap pl ad c hj hl hcap ha =>
    simp only at h
    split at h
    · rename_i hee
      subst hee
      split at h
      · rename_i l n c' hs
        cases h
        obtain ⟨m, hb, q1, q2, q3, q4, q5⟩ := sliceB_good (P := P) (w := w) hG hE h1 h2 h3 hl hcap hs
        refine ⟨.slice (if m = l then ad else ad.map (·.add (l * es'))) (l + n - l) (m - l), ?_, ?_⟩
        · simp [Instr.sliceAt, Instr.slice, run_underlying ht, hb, run_sizeT hes]
        · have e : l + n - l = n := by omega
          rw [e]
          refine .slice _ id g es' (off + l) n c' pl _ (m - l) hj (by omega) (fun k hk => q4 k hk) (fun hne => ?_)
          have hml : m ≠ l := by omega
          obtain ⟨L, rfl, hLe, rfl, hf⟩ := ha (by omega)
          refine ⟨L, rfl, hLe, ?_, ?_⟩
          · rw [if_neg hml]
            simp only [Option.map_some, Addr.add_lit]
            rw [← hLe, Nat.add_mul, Nat.add_assoc]
          · have : (off + l + (m - l)) * L.esz ≤ (off + c) * L.esz := Nat.mul_le_mul_right _ (by omega)
            omega
      · cases h
    · cases h
  | rslice _ esz rows ad c b o val hl ha hr hh1 hh2 =>
    simp only at h
    split at h
    · rename_i l n c' hs
      split at h
      · rename_i hle
        obtain ⟨hle, hemp⟩ := hle
        cases h
        obtain ⟨m, hb, q1, q2, q3, q4, q5⟩ := sliceB_good (P := P) (w := w) hG hE h1 h2 h3 hl (by simp) hs
        have hlen : ((rows.drop l).take n).length = n := by simp; omega
        refine ⟨.slice (if m = l then ad else ad.map (·.add (l * es))) (l + n - l) (m - l), ?_, ?_⟩
        · simp [Instr.sliceAt, Instr.slice, run_underlying ht, hb, run_sizeT hes]
        · have e : l + n - l = n := by omega
          rw [e]
          by_cases hne : (rows.drop l).take n = []
          · rw [hne]
            have hn0 : n = 0 := by rw [← hlen, hne]; rfl
            subst hn0
            exact VC.rslice _ esz [] _ (m - l) 0 0 (fun _ _ => undef) (by simp) (.inl rfl) (by simp) (by simp) (by simp)
          · have hrne : rows ≠ [] := by rintro rfl; simp at hne
            have hee : esz = es := by
              cases rows with
              | nil => exact absurd rfl hrne
              | cons y ys =>
                rw [← hr y (List.mem_cons_self ..)]
                simp only [List.all_cons, Bool.and_eq_true, beq_iff_eq] at hemp
                exact hemp.1
            have had := ha.resolve_left hrne
            subst had
            have hn : n ≠ 0 := by rintro rfl; simp at hne
            have get : ∀ (i : Nat) (row : List Cl), ((rows.drop l).take n)[i]? = some row → rows[l + i]? = some row := by
              intro i row hi
              rw [List.getElem?_take] at hi
              split at hi
              · simpa using hi
              · cases hi
            have := VC.rslice (σ := σ) j esz ((rows.drop l).take n) (some ⟨b, o + l * es, none⟩) (m - l) b (o + l * es) (fun i k => val (l + i) k) (by rw [hlen]; omega) (.inr rfl)
              (fun row hr' => hr row (List.mem_of_mem_drop (List.mem_of_mem_take hr'))) (fun i row k cl hi hk => by
                rw [← hh1 (l + i) row k cl (get i row hi) hk, ← hee, Nat.add_mul]; congr 1; omega) (fun i row k cl hi hk => hh2 (l + i) row k cl (get i row hi) hk)
            rw [hlen] at this
            have hml : m ≠ l := by omega
            rw [if_neg hml]
            simpa [Addr.add_lit] using this
      · cases h
    · cases h
  | nilslice =>
    simp only at h
    split at h
    · rename_i r hs
      cases h
      obtain ⟨l, n, c'⟩ := r
      obtain ⟨m, hb, q1, q2, q3, q4, q5⟩ := sliceB_good (P := P) (w := w) (c := 0) hG hE h1 h2 h3 (Nat.le_refl _) (by simp) hs
      refine ⟨.slice (if m = l then none else none) (l + n - l) (m - l), ?_, ?_⟩
      · simp [Instr.sliceAt, Instr.slice, run_underlying ht, hb, run_sizeT hes]
      · have e1 : l + n - l = 0 := by omega
        have e2 : m - l = 0 := by omega
        rw [e1, e2]
        simp
        exact .nilslice _
    · cases h
  | bsl _ id g i k es' len cap L ad hj hl ha =>
    simp only at h
    split at h
    · rename_i hee
      subst hee
      split at h
      · rename_i l n c hs
        cases h
        obtain ⟨m, hb, q1, q2, q3, q4, q5⟩ := sliceB_good (P := P) (w := w) (c := cap) hG hE h1 h2 h3 hl (fun c' hc' => by cases hc'; rfl) hs
        refine ⟨.slice (if m = l then some ad else (some ad).map (·.add (l * es'))) (l + n - l) (m - l), ?_, ?_⟩
        · simp [Instr.sliceAt, Instr.slice, run_underlying ht, hb, run_sizeT hes]
        · have e : l + n - l = n := by omega
          have ec : m - l = c := q4 c rfl
          rw [e, ec]
          have hh := VC.bsl (σ := σ) j id g i (k + l * es') es' n c L (if m = l then ad else ad.add (l * es')) hj (by omega) (fun hne => by
            have hml : m ≠ l := by omega
            rw [if_neg hml, ha (by omega)]
            simp only [Addr.add_lit]
            congr 1; omega)
          by_cases hml : m = l
          · rw [if_pos hml] at hh ⊢; exact hh
          · rw [if_neg hml] at hh ⊢; exact hh
      · cases h
    · cases h
  | _ => cases h
end
end Go.Eng
namespace Go.Eng
open Go
variable [RecP]
section
variable {own : Nat → Prop} {σ : Stab} {j : Inj} {M : Mem} {w : World} {E : Nat → Option AV} {a : Act} {P : Program} {cf : CallF}
theorem asIdx_some {n : Int} {len i : Nat} (h : asIdx n len = some i) : 0 ≤ n ∧ n < len ∧ n.toNat = i ∧ i < len := by
  unfold asIdx at h
  split at h
  · rename_i hh; cases h; exact ⟨hh.1, hh.2, rfl, by omega⟩
  · cases h
theorem iaddr_good {t e es : TypeId} {x i : Cl} {y : Cl} (ht : P.underlying t = some (.slice e)) (hes : sizeT P e = some es) (h : iaddrC es x i = some y) {vx vi : Value} :
    VC σ j x vx → VC σ j i vi → ∃ v, (Instr.indexAt t vx vi).run P w = .ok v w ∧ VC σ j y v := by
  unfold iaddrC at h
  split at h
  · rename_i id g es' off len cap kk n
    split at h
    · rename_i k hk
      split at h
      · rename_i hee
        subst hee
        cases h
        intro hx hi
        obtain ⟨h1, h2, h3, h4⟩ := asIdx_some hk
        obtain rfl := vc_int hi
        cases hx with
        | slice _ _ _ _ _ _ _ pl ad c hj hl hcap ha =>
          obtain ⟨L, rfl, hLe, rfl, hf⟩ := ha (by omega)
          refine ⟨_, ?_, .ptr _ id g (off + k) 0 L hj⟩
          have : (0 : Int) ≤ n ∧ n < (len : Int) := ⟨h1, h2⟩
          simp [Instr.indexAt, asIntOf, run_underlying ht, this, run_sizeT hes, h3, Addr.add_lit]
          rw [hLe, Nat.add_mul]; omega
      · cases h
    · cases h
  · rename_i rows kk n
    split at h
    · rename_i k hk
      split at h
      · rename_i row hrow
        split at h
        · rename_i hee
          subst hee
          cases h
          intro hx hi
          obtain ⟨h1, h2, h3, h4⟩ := asIdx_some hk
          obtain rfl := vc_int hi
          cases hx with
          | rslice _ e' _ ad c b o val hl ha hr hh1 hh2 =>
            have he' : e' = row.length := (hr row (mem_of_get hrow)).symm
            subst he'
            have had := ha.resolve_left (by rintro rfl; simp at hrow)
            subst had
            refine ⟨_, ?_, .rptr _ row 0 b (o + k * row.length) (fun m => val k m) (fun m c hc => hh1 k row m c hrow hc) (fun m c hc => hh2 k row m c hrow hc)⟩
            have : (0 : Int) ≤ n ∧ n < (rows.length : Int) := ⟨h1, h2⟩
            simp [Instr.indexAt, asIntOf, run_underlying ht, this, run_sizeT hes, h3, Addr.add_lit]
        · cases h
      · cases h
    · cases h
  · rename_i id g i k es' len cap kk n
    split at h
    · rename_i q hq
      split at h
      · rename_i hee
        subst hee
        cases h
        intro hx hi
        obtain ⟨h1, h2, h3, h4⟩ := asIdx_some hq
        obtain rfl := vc_int hi
        cases hx with
        | bsl _ _ _ _ _ _ _ _ L ad hj hl ha =>
          rw [ha (by omega)]
          refine ⟨_, ?_, .ptr _ id g i (k + q * es') L hj⟩
          have : (0 : Int) ≤ n ∧ n < (len : Int) := ⟨h1, h2⟩
          simp [Instr.indexAt, asIntOf, run_underlying ht, this, run_sizeT hes, h3, Addr.add_lit]
          omega
      · cases h
    · cases h
  · cases h
theorem aaddr_good {t e es len : TypeId} {x i : Cl} {y : Cl} (ht : P.underlying t = some (.array len e)) (hes : sizeT P e = some es) (h : aaddrC len es x i = some y) {vx vi : Value} :
    VC σ j x vx → VC σ j i vi → ∃ v, (Instr.indexAt t vx vi).run P w = .ok v w ∧ VC σ j y v := by
  unfold aaddrC at h
  split at h
  · rename_i id g r k kk n
    split at h
    · rename_i q hq
      cases h
      intro hx hi
      obtain ⟨h1, h2, h3, h4⟩ := asIdx_some hq
      obtain rfl := vc_int hi
      cases hx with
      | ptr _ _ _ _ _ L hL =>
        refine ⟨_, ?_, .ptr _ id g r (k + q * es) L hL⟩
        have : (0 : Int) ≤ n ∧ n < (len : Int) := ⟨h1, h2⟩
        simp [Instr.indexAt, asIntOf, run_underlying ht, this, run_sizeT hes, h3, Addr.add_lit, Instr.sureAddr, Nat.add_assoc]
    · cases h
  · rename_i r k kk n
    split at h
    · rename_i q hq
      cases h
      intro hx hi
      obtain ⟨h1, h2, h3, h4⟩ := asIdx_some hq
      obtain rfl := vc_int hi
      cases hx with
      | rptr _ _ _ b o val hh1 hh2 =>
        refine ⟨_, ?_, .rptr _ r (k + q * es) b o val hh1 hh2⟩
        have : (0 : Int) ≤ n ∧ n < (len : Int) := ⟨h1, h2⟩
        simp [Instr.indexAt, asIntOf, run_underlying ht, this, run_sizeT hes, h3, Addr.add_lit, Instr.sureAddr, Nat.add_assoc]
    · cases h
  · cases h
theorem part_good {f : TypeId} {agg : Bool} {n off : Nat} {cs cs' : List Cl} {arr : Array Value} {x : WV} (hn : sizeT P f = some n) (hg : isAggT P f = some agg) (hv : VCs σ j cs arr.toList) (hc : cut cs off (if agg then n else 1) = some cs') (hx : ofCells agg cs' = some x) :
    ∃ v, (Go.part f arr off).run P w = .ok v w ∧ WVR σ j x v := by
  obtain ⟨hl, hk, hget⟩ := cut_get hc
  have hs := (hv.drop off).take (if agg then n else 1)
  unfold cut at hc
  rw [if_pos hk] at hc
  cases hc
  refine ⟨_, ?_, WVR.of_cells _ hs hx⟩
  cases agg with
  | true =>
    have e : arr.extract off (off + n) = (List.take n (List.drop off arr.toList)).toArray := by
      apply Array.ext'
      simp [Array.toList_extract, List.extract_eq_take_drop]
    simp [Go.part, run_isAggT hg, run_sizeT hn, e]
  | false =>
    simp only [Bool.false_eq_true, if_false] at hk hs ⊢
    have hlt : off < arr.size := by have := hv.1; simp at this; omega
    have hlt' : off < arr.toList.length := by simpa using hlt
    rw [List.drop_eq_getElem_cons hlt']
    simp [Go.part, run_isAggT hg, hlt]
theorem fieldPlace_run {b o : Nat} {f : Field} {n : Nat} (hn : sizeT P f.type = some n) (h0 : n ≠ 0) : (fieldPlace ⟨b, o, none⟩ f).run P w = .ok ⟨b, o + f.offset, none⟩ w := by
  simp [fieldPlace, run_sizeT hn, h0, Addr.add_lit]
theorem faddr_good {t : TypeId} {fs : Array Field} {fi : Nat} {f : Field} {n : Nat} {p y : Cl} {vp : Value} (ht : P.underlying t = some (.struct fs)) (hf : fs[fi]? = some f) (hn : sizeT P f.type = some n) (h0 : n ≠ 0)
    (h : faddrC f.offset p = some y) : VC σ j p vp → ∃ v, (Instr.fieldAt t vp fi).run P w = .ok v w ∧ VC σ j y v := by
  unfold faddrC at h
  split at h
  · rename_i id g i k
    cases h
    intro hp
    cases hp with
    | ptr _ _ _ _ _ L hL =>
      refine ⟨_, ?_, .ptr _ id g i (k + f.offset) L hL⟩
      simp [Instr.fieldAt, run_underlying ht, hf, Instr.sureAddr, fieldPlace_run hn h0, Nat.add_assoc]
  · rename_i r k
    cases h
    intro hp
    cases hp with
    | rptr _ _ _ b o val h1 h2 =>
      refine ⟨_, ?_, .rptr _ r (k + f.offset) b o val h1 h2⟩
      simp [Instr.fieldAt, run_underlying ht, hf, Instr.sureAddr, fieldPlace_run hn h0, Nat.add_assoc]
  · cases h
theorem fold_good {mx : Bool} : ∀ {k : IntKind} {n : Int} {xs : List WV} {vs : List Value} {c : Cl}, foldMM mx n k xs = some c → WVRs σ j xs vs →
    ∃ v, (vs.foldlM (if mx then Builtin.max2 else Builtin.min2) (.int k n) : Sem Value).run P w = .ok v w ∧ VC σ j c v
  | k, n, [], vs, c, h, hv => by
    have := hv.unnil; subst this
    simp only [foldMM, Option.some.injEq] at h; subst h
    exact ⟨_, rfl, .int _ _ _⟩
  | k, n, x :: xs, vs, c, h, hv => by
    obtain ⟨v, vs', rfl, h1, h2⟩ := hv.uncons
    unfold foldMM at h
    split at h
    · rename_i heq; cases heq
    · rename_i k' b r heq
      cases heq
      split at h
      · rename_i hk
        subst hk
        have hv1 := vc_int h1
        subst hv1
        obtain ⟨u, q1, q2⟩ := fold_good h h2
        refine ⟨u, ?_, q2⟩
        rw [← q1]
        cases mx <;> simp [Builtin.max2, Builtin.min2, maxI]
      · cases h
    · cases h
end
end Go.Eng
namespace Go.Eng
open Go
variable [RecP]
section
variable {own : Nat → Prop} {σ : Stab} {j : Inj} {M : Mem} {w : World} {P : Program}
theorem run_equal_func {t : TypeId} {ps rs : Array TypeId} {vr : Bool} {v : Value} (h : P.underlying t = some (.func ps rs vr)) (hv : v = .nilFunc ∨ ∃ f a b, v = .func f a b) (w : World) :
    (Op.equal t v .nilFunc).run P w = .ok (match v with | .nilFunc => true | _ => false) w := by
  have key : ∀ d, (Op.equalIn (d + 1) t v .nilFunc).run P w = .ok (match v with | .nilFunc => true | _ => false) w := fun d => by
    rcases hv with rfl | ⟨f, a, b, rfl⟩ <;> simp [Op.equalIn, run_underlying h]
  exact key 9999
theorem isnilf_good {op : BinOp} {neg : Bool} {t : TypeId} {ps rs : Array TypeId} {vr : Bool} {xo yo : Operand} {x : WV} {r : AV} {vx : Value} (ht : P.underlying t = some (.func ps rs vr)) (hop : (op = .eql ∧ neg = false) ∨ (op = .neq ∧ neg = true))
    (h : popF (.isnilf neg) [x] = some r) (hx : WVR σ j x vx) : ∃ v, (do eqGuard op t xo yo vx .nilFunc; binOp op t vx .nilFunc : Sem Value).run P w = .ok v w ∧ AVR σ j r v := by
  cases x with
  | a cs => cases h
  | c x =>
    have hx : VC σ j x vx := hx
    have key : ∀ b : Bool, (vx = .nilFunc ∧ b = true ∨ (∃ f a c, vx = .func f a c) ∧ b = false) → r = .w (.c (.bool (if neg then !b else b))) → ∃ v, (do eqGuard op t xo yo vx .nilFunc; binOp op t vx .nilFunc : Sem Value).run P w = .ok v w ∧ AVR σ j r v := by
      rintro b hb rfl
      refine ⟨_, ?_, show VC σ j _ _ from .bool _ _⟩
      have he := run_equal_func (P := P) ht (hb.imp (·.1) (·.1)) w
      rcases hb with ⟨rfl, rfl⟩ | ⟨⟨f, a, c, rfl⟩, rfl⟩ <;> rcases hop with ⟨rfl, rfl⟩ | ⟨rfl, rfl⟩ <;> simp [eqGuard, binOp, he]
    cases x with
    | nilfn => cases h; cases hx; exact key true (.inl ⟨rfl, rfl⟩) (by cases neg <;> rfl)
    | fn f fi ca => cases h; cases hx; exact key false (.inr ⟨⟨_, _, _, rfl⟩, rfl⟩) (by cases neg <;> rfl)
    | _ => cases h
theorem run_equal_iface {t : TypeId} {ms : _} {v : Value} (h : P.underlying t = some (.interface ms)) (hv : v = .nilIface ∨ ∃ a b, v = .iface a b) (w : World) :
    (Op.equal t v .nilIface).run P w = .ok (match v with | .nilIface => true | _ => false) w := by
  have key : ∀ d, (Op.equalIn (d + 1) t v .nilIface).run P w = .ok (match v with | .nilIface => true | _ => false) w := fun d => by
    rcases hv with rfl | ⟨a, b, rfl⟩ <;> simp [Op.equalIn, run_underlying h]
  exact key 9999
theorem isnili_good {op : BinOp} {neg : Bool} {t : TypeId} {ms : _} {xo : Operand} {c0 : Value} {x : WV} {r : AV} {vx : Value} (ht : P.underlying t = some (.interface ms)) (hop : (op = .eql ∧ neg = false) ∨ (op = .neq ∧ neg = true))
    (h : popF (.isnili neg) [x] = some r) (hx : WVR σ j x vx) : ∃ v, (do eqGuard op t xo (.const c0) vx .nilIface; binOp op t vx .nilIface : Sem Value).run P w = .ok v w ∧ AVR σ j r v := by
  cases x with
  | a cs => cases h
  | c x =>
    have hx : VC σ j x vx := hx
    have key : ∀ b : Bool, (vx = .nilIface ∧ b = true ∨ (∃ a c, vx = .iface a c) ∧ b = false) → r = .w (.c (.bool (if neg then !b else b))) → ∃ v, (do eqGuard op t xo (.const c0) vx .nilIface; binOp op t vx .nilIface : Sem Value).run P w = .ok v w ∧ AVR σ j r v := by
      rintro b hb rfl
      refine ⟨_, ?_, show VC σ j _ _ from .bool _ _⟩
      have he := run_equal_iface (P := P) ht (hb.imp (·.1) (·.1)) w
      rcases hb with ⟨rfl, rfl⟩ | ⟨⟨a, c, rfl⟩, rfl⟩ <;> rcases hop with ⟨rfl, rfl⟩ | ⟨rfl, rfl⟩ <;> simp [eqGuard, binOp, he]
    cases x with
    | niliface => cases h; cases hx; exact key true (.inl ⟨rfl, rfl⟩) (by cases neg <;> rfl)
    | iface t g cs => cases h; cases hx <;> exact key false (.inr ⟨⟨_, _, rfl⟩, rfl⟩) (by cases neg <;> rfl)
    | _ => cases h
theorem asBound_some {n : Int} {top k : Nat} (h : asBound n top = some k) : 0 ≤ n ∧ n ≤ top ∧ n.toNat = k := by
  unfold asBound at h
  split at h
  · rename_i hh; cases h; exact ⟨hh.1, hh.2, rfl⟩
  · cases h
theorem WVRs.one {xs : List WV} {v : Value} (hr : WVRs σ j xs [v]) : ∃ x, xs = [x] ∧ WVR σ j x v := by
  cases xs with
  | nil => have := hr.1; simp at this
  | cons x ys =>
    obtain ⟨_, _, e, hx, hs⟩ := hr.uncons
    cases e
    obtain rfl : ys = [] := List.eq_nil_of_length_eq_zero (by simpa using hs.1)
    exact ⟨x, rfl, hx⟩
theorem WVRs.two {xs : List WV} {v u : Value} (hr : WVRs σ j xs [v, u]) : ∃ x y, xs = [x, y] ∧ WVR σ j x v ∧ WVR σ j y u := by
  cases xs with
  | nil => have := hr.1; simp at this
  | cons x ys =>
    obtain ⟨_, _, e, hx, hs⟩ := hr.uncons
    cases e
    obtain ⟨y, rfl, hy⟩ := WVRs.one hs
    exact ⟨x, y, rfl, hx, hy⟩
theorem bnds_good {lo hi : Option Value} {xs : List WV} {len top l h : Nat} {isS : Bool} (hr : WVRs σ j xs (lo.toList ++ hi.toList)) (hb : bnds len top lo.isSome hi.isSome xs = some (l, h)) (hlt : len ≤ top) :
    (Instr.sliceBounds isS len top lo hi none).run P w = .ok (l, h, top) w ∧ l ≤ h ∧ h ≤ top := by
  have bound : ∀ {x : WV} {v : Value} {t k : Nat} {c : BoundsCode} (hx : WVR σ j x v) {n : Int} {kk : IntKind}, x = .c (.int kk n) → asBound n t = some k → (Instr.sliceBound v t c).run P w = .ok k w ∧ k ≤ t := by
    rintro x v t k c hx n kk rfl h
    have hx : VC σ j (.int kk n) v := hx
    cases hx
    obtain ⟨h1, h2, rfl⟩ := asBound_some h
    exact ⟨by simp [Instr.sliceBound, asIntOf, h1, h2], by omega⟩
  have isInt : ∀ {x : WV}, (∃ k n, x = .c (.int k n)) ∨ ∀ k n, x ≠ .c (.int k n) := by
    intro x
    cases x with
    | a cs => exact .inr (by simp)
    | c c => cases c with
      | int k n => exact .inl ⟨k, n, rfl⟩
      | _ => exact .inr (by simp)
  cases lo with
  | none => cases hi with
    | none =>
      obtain rfl : xs = [] := List.eq_nil_of_length_eq_zero (by simpa using hr.1)
      cases hb
      exact ⟨by simp [Instr.sliceBounds], by omega, hlt⟩
    | some v =>
      obtain ⟨x, rfl, hx⟩ := WVRs.one hr
      rcases isInt (x := x) with ⟨k, n, rfl⟩ | hn
      · simp only [bnds, Option.isSome, Option.map_eq_some_iff] at hb
        obtain ⟨h', hb, e⟩ := hb
        cases e
        obtain ⟨q1, q2⟩ := bound (c := if isS then .sliceAcap else .sliceAlen) hx rfl hb
        exact ⟨by cases isS <;> simp_all [Instr.sliceBounds], by omega, q2⟩
      · exfalso
        simp only [Option.isSome] at hb
        unfold bnds at hb
        split at hb <;> simp_all
  | some u => cases hi with
    | none =>
      obtain ⟨x, rfl, hx⟩ := WVRs.one hr
      rcases isInt (x := x) with ⟨k, n, rfl⟩ | hn
      · simp only [bnds, Option.isSome, Option.map_eq_some_iff] at hb
        obtain ⟨h', hb, e⟩ := hb
        cases e
        obtain ⟨q1, q2⟩ := bound (c := .sliceB) hx rfl hb
        exact ⟨by cases isS <;> simp_all [Instr.sliceBounds], by omega, hlt⟩
      · exfalso
        simp only [Option.isSome] at hb
        unfold bnds at hb
        split at hb <;> simp_all
    | some v =>
      obtain ⟨x, y, rfl, hx, hy⟩ := WVRs.two hr
      rcases isInt (x := x) with ⟨k, n, rfl⟩ | hn
      · rcases isInt (x := y) with ⟨k2, n2, rfl⟩ | hn2
        · simp only [bnds, Option.isSome] at hb
          split at hb
          · rename_i h' hh
            simp only [Option.map_eq_some_iff] at hb
            obtain ⟨l', hl, e⟩ := hb
            cases e
            obtain ⟨q1, q2⟩ := bound (c := if isS then .sliceAcap else .sliceAlen) hy rfl hh
            obtain ⟨p1, p2⟩ := bound (c := .sliceB) hx rfl hl
            exact ⟨by cases isS <;> simp_all [Instr.sliceBounds], by omega, q2⟩
          · cases hb
        · exfalso
          simp only [Option.isSome] at hb
          unfold bnds at hb
          split at hb <;> simp_all
      · exfalso
        simp only [Option.isSome] at hb
        unfold bnds at hb
        split at hb <;> simp_all
theorem sslice_good {t : TypeId} {vx : Value} {lo hi : Option Value} {xs : List WV} {r : AV} (ht : P.underlying t = some .string) (hr : WVRs σ j xs (vx :: (lo.toList ++ hi.toList))) (h : popF (.sslice lo.isSome hi.isSome) xs = some r) :
    ∃ v, (Instr.sliceAt t vx lo hi none).run P w = .ok v w ∧ AVR σ j r v := by
  unfold popF at h
  split at h <;> rename_i e1 <;> first | (cases e1; done) | skip
  · cases e1
    obtain ⟨_, _, e, hx, hs⟩ := hr.uncons
    cases e
    rename_i s xs
    have hx : VC σ j (.str s) vx := hx
    cases hx
    split at h
    · rename_i l h' hb
      cases h
      obtain ⟨q1, q2, q3⟩ := bnds_good (P := P) (w := w) (isS := false) hs hb (Nat.le_refl _)
      exact ⟨.string (s.extract l h'), by simp [Instr.sliceAt, Instr.slice, run_underlying ht, q1], show VC σ j _ _ from .str _ _⟩
    · cases h
  · cases h
theorem aslice_good {t e n es : Nat} {vx : Value} {lo hi : Option Value} {xs : List WV} {r : AV} (ht : P.underlying t = some (.array n e)) (hes : sizeT P e = some es) (hr : WVRs σ j xs (vx :: (lo.toList ++ hi.toList))) (h : popF (.aslice n es lo.isSome hi.isSome) xs = some r) :
    ∃ v, (Instr.sliceAt t vx lo hi none).run P w = .ok v w ∧ AVR σ j r v := by
  unfold popF at h
  split at h <;> rename_i e1 <;> first | (cases e1; done) | skip
  · cases e1
    obtain ⟨_, _, e, hx, hs⟩ := hr.uncons
    cases e
    rename_i id g i k xs
    have hx : VC σ j (.ptr id g i k) vx := hx
    cases hx with
    | ptr _ _ _ _ _ L hL =>
      split at h
      · rename_i l h' hb
        cases h
        obtain ⟨q1, q2, q3⟩ := bnds_good (P := P) (w := w) (isS := false) hs hb (Nat.le_refl _)
        refine ⟨.slice (some (if n = l then ⟨L.blk, L.off + i * L.esz + k, none⟩ else (⟨L.blk, L.off + i * L.esz + k, none⟩ : Addr).add (l * es))) (h' - l) (n - l), ?_, ?_⟩
        · simp [Instr.sliceAt, run_underlying ht, q1, run_sizeT hes, Instr.sureAddr]
        · show VC σ j _ _
          refine .bsl _ _ _ _ _ _ _ _ L _ hL (by omega) (fun hne => ?_)
          rw [if_neg (by omega), Addr.add_lit]
          congr 1; omega
      · cases h
  · cases h
end
end Go.Eng
