/- This text proves parts of an evaluator's soundness: what the evaluator answers, the model's run does; no condition. -/
import Derived.OrdersIn
import Derived.RangeFuncIn
import GoSem.Decode
import Derived.Laws.AppendOwn
import Derived.Laws.CopyRow
import Derived.Laws.Entries
import Derived.Laws.StructEq
import Derived.RangeFuncRecord
import Derived.Laws.BytesArg
set_option linter.defProp false
set_option linter.unusedVariables false
set_option linter.unusedSimpArgs false
set_option linter.unusedSectionVars false
namespace Go
theorem wA{p:Prop}(h:p:=by omega):p:=h
theorem wC{p:Prop}(h:p:=by decide):p:=h
theorem wD{p:Prop}(h:p:=by simp):p:=h
abbrev ja:=@Option.map_eq_some_iff
abbrev je:=@List.nil_append
abbrev jf:=@List.getElem_mem
abbrev jg:=@Int.natCast_zero
abbrev jh:=@List.cons_append
abbrev ji:=@Option.some.injEq
abbrev jk:=@Bool.and_eq_true
abbrev jl:=@List.length_cons
abbrev jm:=@Nat.le_refl
abbrev jo:=@List.getElem?_append_left
abbrev jp:=@List.length_nil
abbrev jq:=@List.getElem?_eq_getElem
abbrev jr:=@Nat.zero_le
abbrev js:=@List.mem_cons_self
abbrev jt:=@Int.natCast_add
abbrev ju:=@Prod.mk.injEq
abbrev jv:=@List.drop_eq_getElem_cons
abbrev jw:=@List.all_eq_true
abbrev jx:=@List.take_of_length_le
abbrev jy:=@List.getElem?_eq_some_iff
abbrev jz:=@List.getElem?_set_ne
abbrev jA:=@Int.eq_ofNat_of_zero_le
abbrev jB:=@List.mem_singleton
abbrev jE:=@List.mem_cons_of_mem
abbrev jF:=@List.length_append
abbrev jG:=@List.getD_eq_getElem?_getD
abbrev jI:=@Bool.false_eq_true
abbrev jJ:=@Nat.zero_add
abbrev jK:=@List.mem_cons
abbrev jL:=@List.mem_append
abbrev jM:=@List.append_assoc
abbrev jN:=@List.eq_nil_of_length_eq_zero
abbrev jQ:=@Int.le_refl
abbrev jS:=@List.getElem?_set_self
abbrev jT:=@Nat.le_trans
abbrev jU:=@Nat.one_ne_zero
abbrev jV:=@Array.getElem?_eq_some_iff
abbrev jW:=@List.mem_map
abbrev jX:=@List.pairwise_cons
abbrev j6:=@List.findIdx?_eq_some_iff_getElem
abbrev j7:=@List.getElem?_of_mem
abbrev j8:=@List.foldl_cons
abbrev ka:=@List.cons.inj
abbrev kc:=@List.length_eq_zero_iff
abbrev kd:=@List.getElem?_take_of_lt
abbrev kg:=@Int.natCast_one
abbrev kh:=@Nat.mul_le_mul_right
abbrev ki:=@List.take_append_drop
abbrev kj:=@List.mem_flatMap
abbrev kl:=@List.length_map
abbrev ko:=@Ne.symm
abbrev ku:=@List.append_nil
abbrev kC:=@List.take_length
abbrev kD:=@List.length_pos_iff
abbrev kE:=@List.pairwise_append
abbrev kF:=@List.mem_of_getElem?
abbrev kG:=@List.flatMap_cons
abbrev kJ:=@List.getElem?_append_right
abbrev kK:=@Nat.le_of_ble_eq_true
abbrev kL:=@Nat.le_succ
abbrev kN:=@List.any_eq_true
abbrev kO:=@List.getElem?_map
abbrev kQ:=@Option.isSome_none
abbrev kR:=@List.map_cons
abbrev kU:=@List.take_succ_eq_append_getElem
abbrev kV:=@List.mem_append_left
abbrev k9:=@Array.getElem?_append_left
abbrev qf:=@Nat.add_assoc
abbrev qg:=@List.not_mem_nil
abbrev qi:=@Nat.add_mul
abbrev qj:=@List.mem_append_right
abbrev qm:=@Bool.not_eq_true'
abbrev qn:=@Array.getD_eq_getD_getElem?
abbrev qo:=@List.mem_of_mem_take
abbrev qp:=@List.mem_of_mem_drop
abbrev qr:=@Int.tdiv_eq_ediv_of_nonneg
abbrev qs:=@List.map_nil
abbrev qt:=@Array.getElem?_extract
abbrev qu:=@Array.getElem?_eq_none
abbrev qw:=@List.ext_getElem?
abbrev qx:=@List.length_filter_le
abbrev qz:=@Array.ext'
abbrev qD:=@List.set_comm
abbrev qF:=@Nat.mod_lt
abbrev qG:=@Nat.lt_or_ge
abbrev qH:=@Int.tmod_eq_emod_of_nonneg
abbrev qI:=@List.mem_map_of_mem
abbrev qK:=@List.nodup_cons
abbrev qL:=@List.mem_of_find?_eq_some
abbrev qM:=@List.findIdx?_eq_none_iff
abbrev qP:=@List.getElem?_drop
abbrev qQ:=@List.eq_nil_iff_forall_not_mem
abbrev qU:=@Nat.le_succ_of_le
abbrev qV:=@Nat.le_mul_of_pos_right
abbrev qW:=@List.filter_cons_of_neg
abbrev qX:=@Option.map_some
abbrev qZ:=@Nat.succ_mul
abbrev ua:=@Nat.mul_comm
abbrev ub:=@List.drop_of_length_le
abbrev uc:=@List.drop_eq_nil_of_le
abbrev ud:=@List.all_cons
abbrev uf:=@Option.getD_some
abbrev ug:=@Option.bind_some
abbrev uh:=@List.filter_cons
abbrev ul:=@List.getElem?_toArray
abbrev uq:=@List.take_add_one
abbrev ur:=@List.set_append_left
abbrev ut:=@List.getElem?_append
abbrev uw:=@Bool.true_and
abbrev ux:=@Bool.false_or
abbrev uy:=@List.getElem_of_mem
abbrev uz:=@List.getD_cons_zero
abbrev uD:=@Nat.le_max_right
abbrev uE:=@Nat.le_add_right
abbrev uF:=@List.mem_range
abbrev uG:=@List.Perm.refl
abbrev uH:=@Array.eq_empty_of_size_eq_zero
abbrev uJ:=@List.take_append_of_le_length
abbrev uL:=@Nat.add_zero
abbrev uM:=@Int.emod_lt_of_pos
abbrev uN:=@Nat.le_max_left
abbrev uO:=@List.mem_filter
abbrev uP:=@List.map_append
abbrev uS:=@List.set_append_right
abbrev uT:=@List.length_replicate
abbrev uU:=@List.getElem?_eq_none
abbrev uV:=@List.eq_nil_or_concat
abbrev uW:=@Array.getElem?_modify
abbrev uX:=@List.size_toArray
abbrev uY:=@Array.getElem?_setIfInBounds_self_of_lt
abbrev u5:=@Nat.pow_le_pow_right
abbrev u6:=@List.exists_cons_of_ne_nil
abbrev u7:=@List.drop_zero
abbrev vn:=@List.pairwise_iff_getElem
abbrev vo:=@List.mem_or_eq_of_mem_set
abbrev vt:=@Array.getElem?_eq_getElem
abbrev vu:=@List.filter_eq_self
abbrev vG:=@Nat.lt_irrefl
abbrev vJ:=@Nat.div_add_mod
abbrev vK:=@Int.emod_nonneg
abbrev vM:=@Nat.lt_of_lt_of_le
abbrev vN:=@Nat.add_sub_cancel
abbrev vO:=@List.getElem?_take
abbrev vP:=@List.findIdx?_cons
abbrev vU:=@List.getElem?_replicate
abbrev vV:=@List.getElem?_cons_zero
abbrev vW:=@List.filter_cons_of_pos
abbrev v8:=@Nat.mul_le_mul
abbrev v9:=@List.take_zero
abbrev ya:=@List.map_map
abbrev yb:=@List.length_eq_one_iff
abbrev yc:=@Int.mul_nonneg
abbrev yd:=@Function.comp_def
abbrev ye:=@Array.getElem?_setIfInBounds_ne
abbrev yg:=@Nat.div_lt_iff_lt_mul
abbrev yh:=@List.concat_eq_append
abbrev yl:=@List.perm_middle
abbrev ym:=@List.map_take
abbrev yr:=@Prod.ext
abbrev yw:=@List.find?_some
abbrev yx:=@Int.natCast_mul
abbrev yF:=@Nat.sub_self
abbrev yG:=@Array.getElem?_append_right
abbrev yM:=@Nat.add_right_comm
abbrev yN:=@Nat.add_mul_mod_self_right
abbrev yO:=@List.drop_drop
abbrev yP:=@Bool.false_and
abbrev yQ:=@Array.mapM_eq_mapM_toList
abbrev yU:=@Nat.succ_le_of_lt
abbrev y8:=@List.any_cons
abbrev y9:=@Bool.and_true
abbrev Ah:=@Option.getD_none
abbrev Ai:=@List.isEmpty_nil
abbrev Aj:=@List.getElem_map
abbrev Ak:=@List.ext_getElem
abbrev Al:=@Bool.not_eq_true
abbrev Ar:=@List.length_set
abbrev As:=@List.cons.injEq
abbrev Au:=@Int.ediv_nonneg
abbrev Av:=@Bool.or_eq_true
abbrev AG:=@Nat.mul_one
abbrev AH:=@List.take_take
end Go
namespace Go.Eng
inductive Cl where
 |bool (b:Bool)
 |int (k:IntKind) (n:Int)
 |str (s:ByteArray)
 |ptr (id g i k:Nat)
 |uQ (row:List Cl) (k:Nat)
 |kX
 |slice (id g esz off len:Nat) (cap:Option Nat)
 |jb (rows:List (List Cl))
 |jc
 |fn (f:FuncId) (first captured:List Cl)
 |qT
 |iface (t:TypeId) (agg:Bool) (cs:List Cl)
 |qA
 |yld (id:Nat) (f:FuncId) (sh:List (Nat×Bool×Nat))
 |qS
 |map (id:Nat) (g:Bool)
 |mit (id:Nat)
 |bsl (id g i k es len cap:Nat)
 deriving Inhabited
inductive WV where
 |c (x:Cl)
 |a (cs:List Cl)
 deriving Inhabited
inductive AV where
 |w (x:WV)
 |t (xs:List WV)
 |u
 deriving Inhabited
structure Blk where
 box:Bool
 esz:Nat
 rows:List (List Cl)
 gen:Nat
 fz:Bool
 ver:Nat
 deriving Inhabited
abbrev Mem:=List (Option Blk)
inductive Opd where
 |s (n:Nat)
 |k (v:WV)
 deriving Inhabited
structure zbz where
 fa:Bool
 deriving Inhabited
inductive P1 where
 |B4 (t:TypeId)
 |BW (ok:Bool) (t:TypeId) (z:WV)
 deriving Inhabited
inductive P2 where
 |str (op:BinOp)
 |sidx
 deriving Inhabited
inductive MK where
 |get (ok g:Bool) (z:WV)
 |set (g:Bool)
 |del
 |len
 |next
 |entry
 |copy (es:Nat)
 |Dl
 deriving Inhabited
inductive PK where
 |Cw (lo hi:Bool)
 |Bh (n es:Nat) (lo hi:Bool)
 |AU (neg:Bool)
 deriving Inhabited
inductive ML where
 |mk (g:Bool)
 |range
 |C7
 |B5 (n:Int)
 deriving Inhabited
inductive CO where
 |mv (x:Opd)
 |pick (c a b:Opd)
 |kx (q esz:Nat)
 |box (q:Nat) (n:Nat) (x:Opd)
 |build (zero:List Cl) (parts:List (Nat×Nat×Opd))
 |lit (q esz:Nat) (zero:List (List Cl)) (parts:List (Nat×Opd))
 |load (agg:Bool) (n:Nat) (p:Opd)
 |store (n:Nat) (p v:Opd)
 |jH (x:Opd)
 |bin (op:BinOp) (x y:Opd)
 |eqb (neg:Bool) (x y:Opd)
 |AA (neg:Bool) (x:Opd)
 |eqa (neg:Bool) (sh:List Bool) (x y:Opd)
 |un (op:UnOp) (x:Opd)
 |conv (k:IntKind) (x:Opd)
 |uR (f:FuncId) (fi ca:List Opd)
 |Am (q esz bytes:Nat) (zero:List Cl) (len cap:Opd)
 |slice (es:Nat) (x:Opd) (lo hi mx:Option Opd)
 |BA (off:Nat) (p:Opd)
 |field (agg:Bool) (off n:Nat) (x:Opd)
 |Bi (esz:Nat) (x i:Opd)
 |yB (len esz:Nat) (x i:Opd)
 |Dk (agg:Bool) (len esz:Nat) (x i:Opd)
 |extract (t i:Nat)
 |len (x:Opd)
 |slen (x:Opd)
 |kr (mx:Bool) (xs:List Opd)
 |append (esz bytes:Nat) (s x:Opd)
 |clear (zero:List Cl) (x:Opd)
 |call (m:zbz) (f:Opd) (args:List Opd)
 |p1 (k:P1) (x:Opd)
 |p2 (k:P2) (x y:Opd)
 |pop (k:PK) (xs:List Opd)
 |mop (k:MK) (xs:List Opd)
 |yV (k:ML) (q:Nat) (xs:List Opd)
 |bad
 deriving Inhabited
structure zaG where
 ix:Nat
 dst:Option Nat
 guard:Option (Nat×Bool)
 op:CO
 deriving Inhabited
inductive CC where
 |skip
 |region (nA:Nat) (ops:List zaG) (prs:List (Nat×Nat)) (ue:Option (List Nat))
 |seq (a b:CC)
 |cond (c:Opd) (a b:CC)
 |block (id:Nat) (b:CC)
 |loop (live:Option (List Nat)) (b:CC)
 |exit (id:Nat)
 |ret
 |rng (f:Opd) (vf:FuncId) (caps:List Nat)
 deriving Inhabited
inductive RC where
 |slot (n:Nat)
 |cell (n:Nat) (agg:Bool) (size:Nat)
 deriving Inhabited
structure CFn where
 frz:Bool
 rnd:Option (List Nat×CC)
 nargs:Nat
 ntmps:Nat
 code:CC
 res:List RC
 deriving Inhabited
abbrev Env:=List (Nat×AV)
def Env.get:Env->Nat->Option AV
 |[],_=>none
 |(m,v)::e,n=>if m=n then some v else Env.get e n
def Env.ue(e:Env):List Nat->Env
 |[]=>[]
 |n::ns=>match e.get n with
  |some v=>(n,v)::e.ue ns
  |none=>e.ue ns
def Opd.ev(E:Nat->Option AV):Opd->Option WV
 |.s n=>match E n with
  |some (.w x)=>some x
  |_=>none
 |.k v=>some v
def Opd.av(E:Nat->Option AV):Opd->Option AV
 |.s n=>E n
 |.k v=>some (.w v)
def evs(E:Nat->Option AV):List Opd->Option (List WV)
 |[]=>some []
 |o::os=>match o.ev E,evs E os with
  |some v,some vs=>some (v::vs)
  |_,_=>none
def WV.cells:WV->List Cl
 |.c x=>[x]
 |.a cs=>cs
def zaI(agg:Bool)(cs:List Cl):Option WV :=
 if agg then some (.a cs) else match cs with
  |[x]=>some (.c x)
  |_=>none
def look(M:Mem)(id g:Nat):Option Blk :=
 match M[id]? with
 |some (some b)=>if g=b.gen then some b else none
 |_=>none
def cut(row:List Cl)(k n:Nat):Option (List Cl) :=
 if k+n<=row.length then some ((row.drop k).take n) else none
def AS(row:List Cl)(k:Nat)(cs:List Cl):Option (List Cl) :=
 if k+cs.length<=row.length then some (row.take k++cs++row.drop (k+cs.length)) else none
inductive FP where
 |no
 |bad
 |ld (id k n:Nat)
 |wr (l:List (Nat×Nat×Nat))
 |mk (l:List Nat)
 deriving Inhabited
def whole:Nat:=1000000
def FP.Ag(id k n:Nat)(w:Nat×Nat×Nat):Bool:=id !=w.1||(w.2.2<whole&&(k+n<=w.2.1||w.2.1+w.2.2<=k))
def FP.apart:FP->FP->Bool
 |.bad,_=>false
 |_,.bad=>false
 |.ld id k n,.wr l=>l.all (FP.Ag id k n)
 |.wr l,.ld id k n=>l.all (FP.Ag id k n)
 |.ld id _ _,.mk l=>!l.contains id
 |.mk _,_=>false
 |_,.mk _=>false
 |_,_=>true
def FP.old(base:Nat):FP->Bool
 |.ld id _ _=>id<base
 |_=>true
def zcl:Cl->Bool
 |.ptr .. |.slice .. |.yld .. |.map .. |.mit .. |.bsl ..=>false
 |.fn _ fi ca=>fi.isEmpty&&ca.isEmpty
 |.iface ..=>false
 |_=>true
def zdR(M:Mem):Cl->Option Cl
 |.slice id g _ off len cap=>match look M id g with
  |some b=>if b.box then none else if off+len<=b.rows.length then some (.jb ((b.rows.drop off).take len)) else none
  |none=>none
 |.jc=>some (.jb [])
 |x=>some x
def yL(M:Mem):List Cl->Option (List Cl)
 |[]=>some []
 |x::xs=>match zdR M x,yL M xs with
  |some y,some ys=>some (y::ys)
  |_,_=>none
def zn7(M:Mem):WV->Option WV
 |.c x=>(zdR M x).map .c
 |.a cs=>(yL M cs).map .a
def zla(M:Mem):List WV->Option (List WV)
 |[]=>some []
 |x::xs=>match zn7 M x,zla M xs with
  |some y,some ys=>some (y::ys)
  |_,_=>none
def zoS(M:Mem):AV->Option AV
 |.w x=>(zn7 M x).map .w
 |.t xs=>(zla M xs).map .t
 |.u=>some .u
def slC:Cl->List Nat
 |.slice id _ _ _ _ _=>[id]
 |_=>[]
def WV.sls(x:WV):List Nat:=x.cells.flatMap slC
def AV.sls:AV->List Nat
 |.w x=>x.sls
 |.t xs=>xs.flatMap WV.sls
 |.u=>[]
def zX(M:Mem)(id:Nat):Mem :=
 match M[id]? with
 |some (some b)=>if b.fz then M else M.set id (some { b with fz:=true,ver:=b.ver+1 })
 |_=>M
def zbg(M:Mem)(ids:List Nat):Mem:=ids.foldl zX M
def CB:Cl->List Nat
 |.ptr id _ _ _=>[id]
 |.slice id _ _ _ _ _=>[id]
 |.yld id _ _=>[id]
 |.map id _=>[id]
 |.mit id=>[id]
 |.bsl id ..=>[id]
 |_=>[]
def zBH:Cl->List Nat
 |.fn _ fi ca=>fi.flatMap CB++ca.flatMap CB
 |.iface _ _ cs=>cs.flatMap CB
 |x=>CB x
def WV.ids(x:WV):List Nat:=x.cells.flatMap zBH
def AV.ids:AV->List Nat
 |.w x=>x.ids
 |.t xs=>xs.flatMap WV.ids
 |.u=>[]
def Blk.ids(b:Blk):List Nat:=if b.box then b.rows.flatMap (fun r=>r.flatMap zBH) else []
def zpw(M:Mem)(id:Nat):List Nat :=
 match M[id]? with
 |some (some b)=>b.ids
 |_=>[]
def collect(M:Mem):Nat->List Nat->List Nat->List Nat
 |0,_,seen=>seen
 |_+1,[],seen=>seen
 |f+1,id::todo,seen=>if seen.contains id then collect M f todo seen else collect M f (zpw M id++todo) (seen++[id])
def qJ(ρ:Nat->Option Nat):Cl->Option Cl
 |.ptr id g i k=>(ρ id).map (.ptr · g i k)
 |.slice id g es off len cap=>(ρ id).map (.slice · g es off len cap)
 |.yld id f sh=>(ρ id).map (.yld · f sh)
 |.map id g=>(ρ id).map (.map · g)
 |.mit id=>(ρ id).map .mit
 |.bsl id g i k es len cap=>(ρ id).map (.bsl · g i k es len cap)
 |.fn f [] []=>some (.fn f [] [])
 |.fn ..=>none
 |.iface ..=>none
 |x=>some x
def Aa(ρ:Nat->Option Nat):List Cl->Option (List Cl)
 |[]=>some []
 |x::xs=>match qJ ρ x,Aa ρ xs with
  |some y,some ys=>some (y::ys)
  |_,_=>none
def zeS(ρ:Nat->Option Nat):Cl->Option Cl
 |.fn f fi ca=>match Aa ρ fi,Aa ρ ca with
  |some fi,some ca=>some (.fn f fi ca)
  |_,_=>none
 |.iface t a cs=>(Aa ρ cs).map (.iface t a)
 |x=>qJ ρ x
def zfe(ρ:Nat->Option Nat):List Cl->Option (List Cl)
 |[]=>some []
 |x::xs=>match zeS ρ x,zfe ρ xs with
  |some y,some ys=>some (y::ys)
  |_,_=>none
def zez(ρ:Nat->Option Nat):List (List Cl)->Option (List (List Cl))
 |[]=>some []
 |x::xs=>match zfe ρ x,zez ρ xs with
  |some y,some ys=>some (y::ys)
  |_,_=>none
def zpM(ρ:Nat->Option Nat):WV->Option WV
 |.c x=>(zeS ρ x).map .c
 |.a cs=>(zfe ρ cs).map .a
def ziU(ρ:Nat->Option Nat):List WV->Option (List WV)
 |[]=>some []
 |x::xs=>match zpM ρ x,ziU ρ xs with
  |some y,some ys=>some (y::ys)
  |_,_=>none
def znn(ρ:Nat->Option Nat):AV->Option AV
 |.w x=>(zpM ρ x).map .w
 |.t xs=>(ziU ρ xs).map .t
 |.u=>some .u
def zhj(ρ:Nat->Option Nat)(b:Blk):Option Blk :=
 if b.box then(zez ρ b.rows).map fun r=>{ b with rows:=r } else some b
def zd3:List Nat->Nat->Option Nat
 |[],_=>none
 |x::xs,n=>if x=n then some 0 else(zd3 xs n).map (· + 1)
def zku:List Nat->Bool
 |[]=>true
 |x::xs=>!xs.contains x&&zku xs
def zck(M:Mem)(ρ:Nat->Option Nat):List Nat->Option Mem
 |[]=>some []
 |id::ids=>match M[id]?,zck M ρ ids with
  |some (some b),some bs=>(zhj ρ b).map fun b=>some b::bs
  |_,_=>none
def yC:Cl->Nat
 |.ptr id _ _ _=>id+1
 |.slice id _ _ _ _ _=>id+1
 |.yld id _ _=>id+1
 |.map id _=>id+1
 |.mit id=>id+1
 |.bsl id ..=>id+1
 |_=>0
def zr:Cl->Bool
 |.fn _ [] []=>true
 |.fn ..=>false
 |.iface ..=>false
 |_=>true
def below(n:Nat):Cl->Bool
 |.fn _ fi ca=>fi.all (fun x=>zr x&&yC x<=n)&&ca.all (fun x=>zr x&&yC x<=n)
 |.iface _ _ cs=>cs.all (fun x=>zr x&&yC x<=n)
 |x=>yC x<=n
def WV.below(n:Nat)(v:WV):Bool:=v.cells.all (Eng.below n)
def AV.below(n:Nat):AV->Bool
 |.w x=>x.below n
 |.t xs=>xs.all (WV.below n)
 |.u=>true
def Blk.below(n:Nat)(b:Blk):Bool:=if b.box then b.rows.all (fun r=>r.all (Eng.below n)) else true
def zH(n:Nat)(M:Mem):Bool:=M.all fun |some b=>b.below n |none=>true
def zfj:Nat:=4096
def finish(k:Nat)(res:AV)(M:Mem):Option (AV×Mem) :=
 if M.length=k then some (res,M) else
 if res.below k&&zH k (M.take k) then some (res,M.take k) else
 let pinned:=List.range k;let new:=collect M zfj (res.ids++pinned.flatMap (zpw M)) pinned
 if zku new&&new.take k==pinned then
  let ρ:=zd3 new
  match znn ρ res,zck M ρ new with
  |some r,some M'=>some (r,M')
  |_,_=>none
 else none
def back(ρ:Nat->Option Nat):List Nat->Mem->Mem->Option (Mem×List Nat)
 |[],_,M=>some (M,[])
 |id::ids,some b::Ms,M=>match M[id]? with
  |some (some b0) =>
   if b.ver=b0.ver then back ρ ids Ms M
   else match zhj ρ b,back ρ ids Ms M with
    |some b',some (M',ch)=>some (M'.set id (some b'),id::ch)
    |_,_=>none
  |_=>none
 |_,_,_=>none
def zgx(ρ:Nat->Option Nat):Mem->Option Mem
 |[]=>some []
 |some b::bs=>match zhj ρ b,zgx ρ bs with
  |some b',some bs'=>some (some b'::bs')
  |_,_=>none
 |none::_=>none
abbrev za4:=FuncId->List WV->Mem->Option (AV×Mem)
def uC(ids:List Nat)(M:Mem)(res:AV)(Ms:Mem):Option (AV×Mem×FP) :=
 let ρ:Nat->Option Nat:=fun j=>match ids[j]? with
  |some id=>some id
  |none=>some (M.length+(j-ids.length))
 match back ρ ids Ms M,zgx ρ (Ms.drop ids.length),znn ρ res with
 |some (M',ch),some new,some r=>some (r,M'++new,if ch.isEmpty then .no else .wr (ch.map fun id=>(id,0,whole)))
 |_,_,_=>none
def zcG(cf:za4)(f:FuncId)(args:List WV)(M:Mem):Option (AV×Mem×FP) :=
 let ids:=collect M zfj (args.flatMap WV.ids) []
 if zku ids then
  match ziU (zd3 ids) args,zck M (zd3 ids) ids with
  |some as,some Ms =>
   match cf f as Ms with
   |none=>none
   |some (r,Ms')=>uC ids M r Ms'
  |_,_=>none
 else none
def ztI:Cl->Bool
 |.bool _ |.int .. |.str _ |.kX |.jc |.qT |.qA |.qS=>true
 |_=>false
def WV.plain(v:WV):Bool:=v.cells.all ztI
def AV.plain:AV->Bool
 |.w x=>x.plain
 |.t xs=>xs.all WV.plain
 |.u=>true
def FP.C8:FP->Bool
 |.no=>true
 |_=>false
def callee:WV->Option (FuncId×List WV×List WV×Bool)
 |.c (.fn f fi ca)=>some (f,fi.map .c,ca.map .c,false)
 |.c (.yld id f sh)=>some (f,[.c (.yld id f sh)],[],true)
 |_=>none
def zl2(f:FuncId):List WV->Bool
 |.c (.yld _ g _)::_=>g !=f
 |_=>true
def zx(cf:za4)(m:zbz)(fv:WV)(args:List WV)(M:Mem):Option (AV×Mem×FP) :=
 match callee fv with
 |some (f,fi,ca,y) =>
  if m.fa then
   match zla M args with
   |none=>none
   |some as =>
    if y||zl2 f (fi++as++ca) then
    let sl:=args.flatMap WV.sls
    if sl.isEmpty then zcG cf f (fi++as++ca) M else
    match zcG cf f (fi++as++ca) (zbg M sl)with
    |none=>none
    |some (r,M2,fp) =>
     if fp.C8&&M2.length==M.length&&r.plain then some (r,M,.no)
     else some (r,M2,match fp with |.wr l=>.wr (sl.map (fun id=>(id,0,whole))++l) |_=>.wr (sl.map fun id=>(id,0,whole)))
    else none
  else if y||zl2 f (fi++args++ca) then zcG cf f (fi++args++ca) M else none
 |none=>none
def zCG(op:BinOp)(k:IntKind)(a b:Int):Option Cl :=
 match op with
 |.add=>some (.int k (k.wrap (a+b)))
 |.sub=>some (.int k (k.wrap (a-b)))
 |.mul=>some (.int k (k.wrap (a*b)))
 |.quo=>if b=0 then none else some (.int k (k.wrap (a.tdiv b)))
 |.rem=>if b=0 then none else some (.int k (a.tmod b))
 |.eql=>some (.bool (a==b))
 |.neq=>some (.bool (a !=b))
 |.lss=>some (.bool (a<b))
 |.leq=>some (.bool (a<=b))
 |.gtr=>some (.bool (a>b))
 |.geq=>some (.bool (a>=b))
 |.and=>some (.int k (k.wrap (BitVec.ofInt k.bits a &&& BitVec.ofInt k.bits b).toNat))
 |.or=>some (.int k (k.wrap (BitVec.ofInt k.bits a ||| BitVec.ofInt k.bits b).toNat))
 |.xor=>some (.int k (k.wrap (BitVec.ofInt k.bits a ^^^ BitVec.ofInt k.bits b).toNat))
 |.andNot=>some (.int k (k.wrap (BitVec.ofInt k.bits a &&& ~~~BitVec.ofInt k.bits b).toNat))
 |_=>none
def zBR(op:BinOp)(x y:Cl):Option Cl :=
 match x,y with
 |.int k a,.int k' b=>match op with
  |.shl=>if b<0 then none else some (.int k (k.wrap (a*2 ^ min b.toNat k.bits)))
  |.shr=>if b<0 then none else some (.int k (a.fdiv (2 ^ min b.toNat k.bits)))
  |op=>if k=k' then zCG op k a b else none
 |_,_=>none
def p1F:P1->WV->Option AV
 |.B4 t,.c x=>some (.w (.c (.iface t false [x])))
 |.B4 t,.a cs=>some (.w (.c (.iface t true cs)))
 |.BW ok t z,.c (.iface t' agg cs)=>if t'=t then match zaI agg cs with
   |some v=>some (if ok then .t [v,.c (.bool true)] else .w v)
   |none=>none
  else if ok then some (.t [z,.c (.bool false)]) else none
 |.BW ok _ z,.c .qA=>if ok then some (.t [z,.c (.bool false)]) else none
 |_,_=>none
def Dn(op:BinOp)(a b:ByteArray):Option Cl :=
 match op with
 |.add=>if((a.size+b.size:Nat):Int)>IntKind.i64.max then none else some (.str (a++b))
 |.eql=>some (.bool (a.toList==b.toList))
 |.neq=>some (.bool (!(a.toList==b.toList)))
 |.lss=>some (.bool (Op.bytesLess a.toList b.toList))
 |.leq=>some (.bool (Op.bytesLess a.toList b.toList||a.toList==b.toList))
 |.gtr=>some (.bool (!(Op.bytesLess a.toList b.toList||a.toList==b.toList)))
 |.geq=>some (.bool (!Op.bytesLess a.toList b.toList))
 |_=>none
def p2F:P2->WV->WV->Option AV
 |.str op,.c (.str a),.c (.str b)=>(Dn op a b).map fun c=>.w (.c c)
 |.sidx,.c (.str s),.c (.int _ n)=>if 0<=n then(s[n.toNat]?).map fun b=>.w (.c (.int .u8 b.toNat)) else none
 |_,_,_=>none
def zBL(neg:Bool)(x y:Cl):Option Cl :=
 match x,y with
 |.bool a,.bool b=>some (.bool (if neg then !(a==b) else(a==b)))
 |_,_=>none
def zBB(neg:Bool)(x:Cl):Option Cl :=
 match x with
 |.kX=>some (.bool (!neg))
 |.ptr .. |.uQ ..=>some (.bool neg)
 |_=>none
def zue:Bool->Cl->Cl->Option Bool
 |false,.int k a,.int k' b=>if k=k' then some (a==b) else none
 |true,.bool a,.bool b=>some (a==b)
 |_,_,_=>none
def zbM:List Bool->List Cl->List Cl->Option Bool
 |[],[],[]=>some true
 |s::ss,x::xs,y::ys=>match zue s x y with
  |some true=>zbM ss xs ys
  |r=>r
 |_,_,_=>none
def unC(op:UnOp)(x:Cl):Option Cl :=
 match op,x with
 |.neg,.int k n=>some (.int k (k.wrap (0-n)))
 |.not,.bool b=>some (.bool (!b))
 |_,_=>none
def zyw(mx:Bool)(a b:Int):Int:=if mx then(if b>a then b else a) else(if b<a then b else a)
def zoU(mx:Bool):Int->IntKind->List WV->Option Cl
 |a,k,[]=>some (.int k a)
 |a,k,.c (.int k' b)::r=>if k=k' then zoU mx (zyw mx a b) k r else none
 |_,_,_=>none
def zt8(cells:List Cl)(off size:Nat)(v:WV):Option (List Cl) :=
 if v.cells.length=size then AS cells off v.cells else none
def zdv(E:Nat->Option AV):List Cl->List (Nat×Nat×Opd)->Option (List Cl)
 |cells,[]=>some cells
 |cells,(off,size,o)::r=>match o.ev E with
  |some v=>match zt8 cells off size v with
   |some A4=>zdv E A4 r
   |none=>none
  |none=>none
def zdS(E:Nat->Option AV)(M:Mem)(esz:Nat):List (List Cl)->List (Nat×Opd)->Option (List (List Cl))
 |rows,[]=>some rows
 |rows,(i,o)::r=>match o.ev E with
  |some v=>match yL M v.cells with
   |some cs=>if cs.all zcl&&cs.length=esz&&i<rows.length then zdS E M esz (rows.set i cs) r else none
   |none=>none
  |none=>none
def zcf(E:Nat->Option AV)(parts:List (Nat×Opd)):List Nat :=
 parts.flatMap fun p=>match p.2.ev E with
  |some v=>v.sls
  |none=>[]
def zmk(n:Int)(len:Nat):Option Nat:=if 0<=n/\n<len then some n.toNat else none
def zgN(n:Int)(top:Nat):Option Nat:=if 0<=n/\n<=top then some n.toNat else none
def zcy(E:Nat->Option AV)(o:Option Opd)(dflt top:Nat):Option Nat :=
 match o with
 |none=>some dflt
 |some x=>match x.ev E with
  |some (.c (.int _ n))=>zgN n top
  |_=>none
def zxn(len:Nat):Option Nat->Nat
 |some c=>c
 |none=>len
def sliceB(E:Nat->Option AV)(len:Nat)(cap:Option Nat)(lo hi mx:Option Opd):Option (Nat×Nat×Option Nat) :=
 match mx with
 |none =>
  match zcy E hi len (zxn len cap)with
  |some h=>match zcy E lo 0 h with
   |some l=>some (l,h-l,cap.map (· - l))
   |none=>none
  |none=>none
 |some _ =>
  match zcy E mx len (zxn len cap)with
  |some m=>match zcy E hi len m with
   |some h=>match zcy E lo 0 h with
    |some l=>if hi.isSome then some (l,h-l,some (m-l)) else none
    |none=>none
   |none=>none
  |none=>none
def zt9(off:Nat):Cl->Option Cl
 |.ptr id g i k=>some (.ptr id g i (k+off))
 |.uQ r k=>some (.uQ r (k+off))
 |_=>none
def zt5(es:Nat):Cl->Cl->Option Cl
 |.slice id g es' off len _,.int _ n=>match zmk n len with
  |some k=>if es'=es then some (.ptr id g (off+k) 0) else none
  |none=>none
 |.jb rows,.int _ n=>match zmk n rows.length with
  |some k=>match rows[k]? with
   |some row=>if row.length=es then some (.uQ row 0) else none
   |none=>none
  |none=>none
 |.bsl id g i k es' len _,.int _ n=>match zmk n len with
  |some q=>if es'=es then some (.ptr id g i (k+q*es)) else none
  |none=>none
 |_,_=>none
def zus(len es:Nat):Cl->Cl->Option Cl
 |.ptr id g r k,.int _ n=>match zmk n len with
  |some q=>some (.ptr id g r (k+q*es))
  |none=>none
 |.uQ r k,.int _ n=>match zmk n len with
  |some q=>some (.uQ r (k+q*es))
  |none=>none
 |_,_=>none
def znj(E:Nat->Option AV)(es:Nat)(x:Cl)(lo hi mx:Option Opd):Option Cl :=
 match x with
 |.slice id g es' off len cap=>if es'=es then
   match sliceB E len cap lo hi mx with
   |some (l,n,c)=>some (.slice id g es (off+l) n c)
   |none=>none
  else none
 |.jb rows=>match sliceB E rows.length none lo hi mx with
  |some (l,n,_)=>if l+n<=rows.length/\rows.all (fun r=>r.length==es)=true then some (.jb ((rows.drop l).take n)) else none
  |none=>none
 |.jc=>match sliceB E 0 (some 0) lo hi mx with
  |some _=>some .jc
  |none=>none
 |.bsl id g i k es' len cap=>if es'=es then
   match sliceB E len (some cap) lo hi mx with
   |some (l,n,some c)=>some (.bsl id g i (k+l*es) es n c)
   |_=>none
  else none
 |_=>none
def zeF(M:Mem)(esz:Nat):Cl->Option (List (List Cl))
 |.jc=>some []
 |.jb rows=>if rows.all (fun r=>r.length==esz) then some rows else none
 |.slice id g _ off len _=>match look M id g with
  |some b=>if !b.box&&b.esz=esz&&off+len<=b.rows.length then some ((b.rows.drop off).take len) else none
  |none=>none
 |_=>none
def roomy(n bytes:Nat):Bool:=n*bytes<=140737488355328
def zcB(M:Mem)(esz bytes:Nat)(s x:Cl):Option (AV×Mem×FP) :=
 match zeF M esz x with
 |none=>none
 |some ys =>
  let fresh:Option (AV×Mem×FP) :=
   if roomy ys.length bytes&&0<esz then
    some (.w (.c (.slice M.length ys.length esz 0 ys.length none)),M++[some { box:=false,esz,rows:=ys,gen:=ys.length,fz:=false,ver:=ys.length }],.no)
   else none
  match s with
  |.jc=>if ys.isEmpty then some (.w (.c .jc),M,.no) else fresh
  |.jb rows=>if ys.isEmpty then some (.w (.c (.jb rows)),M,.no) else none
  |.slice id g es off len cap=>match look M id g with
   |some b =>
    if !b.box&&b.esz=esz&&0<esz&&off+len<=b.rows.length&&(!b.fz||off+len=b.rows.length)&&roomy (len+ys.length) bytes then
     if ys.isEmpty then some (.w (.c (.slice id g es off len cap)),M,.wr [(id,0,whole)]) else
     some (.w (.c (.slice id (g+ys.length) esz 0 (len+ys.length) none)),
      M.set id (some { b with rows:=(b.rows.drop off).take len++ys,gen:=g+ys.length,ver:=b.ver+ys.length }),.wr [(id,0,whole)])
    else none
   |none=>none
  |_=>none
def storeAt(M:Mem)(id g i k:Nat)(cs:List Cl):Option Mem :=
 match look M id g with
 |some b =>
  if b.fz then none else
  match b.rows[i]? with
  |some row=>match AS row k cs with
   |some A6=>some (M.set id (some { b with rows:=b.rows.set i A6,ver:=b.ver+1 }))
   |none=>none
  |none=>none
 |none=>none
def zfJ(M:Mem)(id g:Nat):Bool:=match look M id g with
 |some b=>b.box
 |none=>false
def zhT(M:Mem)(n:Nat)(p:Cl)(v:WV):Option (AV×Mem×FP) :=
 match p with
 |.ptr id g i k =>
  if v.cells.length=n then
   if zfJ M id g then
    (storeAt M id g i k v.cells).map fun M'=>(.u,M',.wr [(id,k,n)])
   else match yL M v.cells with
    |some cs=>if cs.all zcl then
      (storeAt (zbg M v.sls) id g i k cs).map fun M'=>(.u,M',.wr ((id,k,n)::v.sls.map fun x=>(x,0,whole)))
     else none
    |none=>none
  else none
 |_=>none
def zdZ(M:Mem)(agg:Bool)(n:Nat)(p:Cl):Option (AV×Mem×FP) :=
 match p with
 |.ptr id g i k=>match look M id g with
  |some b=>match b.rows[i]? with
   |some row=>match cut row k n with
    |some cs=>(zaI agg cs).map fun v=>(.w v,M,.ld id k n)
    |none=>none
   |none=>none
  |none=>none
 |.uQ row k=>match cut row k n with
  |some cs=>(zaI agg cs).map fun v=>(.w v,M,.no)
  |none=>none
 |_=>none
def zgI(M:Mem)(zero:List Cl)(x:Cl):Option (AV×Mem×FP) :=
 match x with
 |.jc=>some (.t [],M,.no)
 |.slice id g _ off len _ =>
  if len=0 then some (.t [],M,.no) else
  match look M id g with
  |some b =>
   if !b.box && !b.fz&&off+len<=b.rows.length&&zero.length=b.esz&&zero.all zcl then
    some (.t [],M.set id (some { b with rows:=b.rows.take off++List.replicate len zero++b.rows.drop (off+len),ver:=b.ver+1 }),.wr [(id,0,whole)])
   else none
  |none=>none
 |_=>none
def zhN(x:Option Cl)(M:Mem):Option (AV×Mem×FP):=x.map fun v=>(.w (.c v),M,.no)
def zg(M:Mem)(id:Nat)(b:Blk):Option Mem :=
 match M[id]? with
 |some none=>some (M.set id (some b))
 |_=>none
def BC(len top:Nat):Bool->Bool->List WV->Option (Nat×Nat)
 |false,false,[]=>some (0,len)
 |true,false,[.c (.int _ n)]=>(zgN n len).map (·,len)
 |false,true,[.c (.int _ n)]=>(zgN n top).map (0,·)
 |true,true,[.c (.int _ n),.c (.int _ m)]=>match zgN m top with
  |some h=>(zgN n h).map (·,h)
  |none=>none
 |_,_,_=>none
def ztH:PK->List WV->Option AV
 |.Cw lo hi,.c (.str s)::xs=>match BC s.size s.size lo hi xs with
  |some (l,h)=>some (.w (.c (.str (s.extract l h))))
  |none=>none
 |.Bh n es lo hi,.c (.ptr id g i k)::xs=>match BC n n lo hi xs with
  |some (l,h)=>some (.w (.c (.bsl id g i (k+l*es) es (h-l) (n-l))))
  |none=>none
 |.AU neg,[.c .qT]=>some (.w (.c (.bool (!neg))))
 |.AU neg,[.c (.fn ..)]=>some (.w (.c (.bool neg)))
 |_,_=>none
def zo4:List Cl->Option (List UInt8)
 |[]=>some []
 |.int .u8 n::r=>(zo4 r).map (UInt8.ofNat n.toNat :: ·)
 |_=>none
def ziB(M:Mem)(id g i k n:Nat):Option (List Cl):=match look M id g with
 |some b=>match b.rows[i]? with
  |some row=>cut row k n
  |none=>none
 |none=>none
def zta(k:IntKind)(n:Int):List (List Cl)->Nat->Option (Option (Nat×List Cl))
 |[],_=>some none
 |(_::.int k' m::vs)::r,i=>if k'=k then(if n=m then some (some (i,vs)) else zta k n r (i+1)) else none
 |_::_,_=>none
def zi4(M:Mem)(id:Nat):Option (Blk×Int×List (List Cl)):=match look M id 0 with
 |some b=>match b.rows with
  |[.int .i64 c]::r=>some (b,c,r)
  |_=>none
 |none=>none
def okW(g:Bool):WV->Bool
 |.a _=>g
 |.c _=>!g
def zlW(M:Mem)(id:Nat)(b:Blk)(rows:List (List Cl)):Mem:=M.set id (some { b with rows,ver:=b.ver+1 })
def zAl:List Cl->Option (List Int)
 |[]=>some []
 |.int .i64 n::r=>(zAl r).map (n :: ·)
 |_=>none
def zoY(M:Mem)(es:Nat):List WV->Option (AV×Mem×FP)
 |[.c (.bsl id g i k es' len _),.c src]=>if es'=es then match src with
  |.jc=>some (.w (.c (.int .i64 0)),M,.no)
  |.bsl id2 g2 i2 k2 es2 Ce _=>if es2=es then match ziB M id2 g2 i2 k2 (min Ce len*es)with
   |some cs=>if zfJ M id g then(storeAt M id g i k cs).map fun M'=>(.w (.c (.int .i64 ((min Ce len:Nat):Int))),M',.wr [(id,0,whole),(id2,0,whole)]) else none
   |none=>none
   else none
  |_=>none
  else none
 |_=>none
def zkf(M:Mem):List WV->Option (AV×Mem×FP)
 |[.c (.bsl id g i k es len _)]=>if es=1 then match ziB M id g i k len with
  |some cs=>match zo4 cs with
   |some bs=>some (.w (.c (.str ⟨bs.toArray⟩)),M,.no)
   |none=>none
  |none=>none
  else none
 |[.c x]=>match zeF M 1 x with
  |some ys=>match zo4 (ys.map fun r=>r.headD .kX)with
   |some bs=>some (.w (.c (.str ⟨bs.toArray⟩)),M,.no)
   |none=>none
  |none=>none
 |_=>none
def znp(M:Mem)(ok g:Bool)(z:WV):List WV->Option (AV×Mem×FP)
 |[.c m,.c (.int k n)]=>match m with
  |.qS=>some (if ok then .t [z,.c (.bool false)] else .w z,M,.no)
  |.map id g'=>if g'=g then match zi4 M id with
   |some (_,_,r)=>match zta k n r 0 with
    |some (some (_,vs))=>match zaI g vs with
     |some v=>some (if ok then .t [v,.c (.bool true)] else .w v,M,.no)
     |none=>none
    |some none=>some (if ok then .t [z,.c (.bool false)] else .w z,M,.no)
    |none=>none
   |none=>none else none
  |_=>none
 |_=>none
def zoJ(M:Mem)(g:Bool):List WV->Option (AV×Mem×FP)
 |[.c (.map id g'),.c (.int k n),v]=>if g'=g/\okW g v=true then match zi4 M id with
    |some (b,c,r)=>match zta k n r 0 with
     |some (some (i,_))=>some (.u,zlW M id b ([.int .i64 c]::r.modify i fun row=>row.take 1++.int k n::v.cells),.wr [(id,0,whole)])
     |some none=>some (.u,zlW M id b ([.int .i64 (c+1)]::(r++[.int .i64 c::.int k n::v.cells])),.wr [(id,0,whole)])
     |none=>none
    |none=>none else none
 |_=>none
def Zig(M:Mem)(g:Bool):List WV->Option (AV×Mem×FP)
 |[m,k,v]=>match zn7 M v with
  |some v'=>match zoJ (zbg M v.sls) g [m,k,v']with
   |some (a,M',.wr l)=>some (a,M',.wr (v.sls.map (fun x=>(x,0,whole))++l))
   |_=>none
  |none=>none
 |_=>none
def zoK(M:Mem)  : List WV->Option (AV×Mem×FP)
 |[.c m,.c (.int k n)]=>match m with
  |.qS=>some (.t [],M,.no)
  |.map id _=>match zi4 M id with
   |some (b,c,r)=>match zta k n r 0 with
    |some (some (i,_))=>some (.t [],zlW M id b ([.int .i64 c]::r.eraseIdx i),.wr [(id,0,whole)])
    |some none=>some (.t [],M,.no)
    |none=>none
   |none=>none
  |_=>none
 |_=>none
def zno(M:Mem)  : List WV->Option (AV×Mem×FP)
 |[.c m]=>match m with
  |.qS=>some (.w (.c (.int .i64 0)),M,.no)
  |.map id _=>match zi4 M id with
   |some (_,_,r)=>some (.w (.c (.int .i64 r.length)),M,.no)
   |none=>none
  |_=>none
 |_=>none
def zmG(M:Mem)  : List WV->Option (AV×Mem×FP)
 |[.c (.mit it)]=>match look M it 0 with
  |some b=>match b.rows with
   |[[.qS]]=>some (.t [.c (.bool false)],M,.no)
   |[.map id g::.int .i64 since::seen]=>match zi4 M id,zAl seen with
    |some (_,c,r),some seen=>match seen,r with
     |[],[]=>some (.t [.c (.bool false)],M,.no)
     |[],[.int .i64 born::k::vs]=>if born<since then match zaI g vs with
      |some v=>some (.t [.c (.bool true),.c k,v],M.set it (some { b with rows:=[[.map id g,.int .i64 since,.int .i64 born,.int .i64 c]],ver:=b.ver+1 }),.wr [(it,0,whole)])
      |none=>none
      else none
     |[_,_],[]=>some (.t [.c (.bool false)],M,.no)
     |[s,last],[.int .i64 born::_]=>if born=s/\born<last then some (.t [.c (.bool false)],M,.no) else none
     |_,_=>none
    |_,_=>none
   |_=>none
  |none=>none
 |_=>none
def zil(M:Mem)  : List WV->Option (AV×Mem×FP)
 |[.c (.mit it)]=>match look M it 0 with
  |some b=>match b.rows with
   |[[.map id g,.int .i64 _,.int .i64 s,.int .i64 last]]=>match zi4 M id with
    |some (_,c,[.int .i64 born::k::vs])=>if born=s/\c=last then match zaI g vs with
     |some v=>some (.t [.c k,v],M,.no)
     |none=>none
     else none
    |_=>none
   |_=>none
  |none=>none
 |_=>none
def zCC(M:Mem):MK->List WV->Option (AV×Mem×FP)
 |.copy es,xs=>zoY M es xs
 |.Dl,xs=>zkf M xs
 |.get ok g z,xs=>znp M ok g z xs
 |.set g,xs=>Zig M g xs
 |.del,xs=>zoK M xs
 |.len,xs=>zno M xs
 |.next,xs=>zmG M xs
 |.entry,xs=>zil M xs
def zi2(M:Mem)(id:Nat):ML->List WV->Option (AV×Mem×FP)
 |.mk g,[]=>(zg M id { box:=true,esz:=1,rows:=[[.int .i64 0]],gen:=0,fz:=false,ver:=0 }).map fun M'=>(.w (.c (.map id g)),M',.no)
 |.range,[.c .qS]=>(zg M id { box:=true,esz:=1,rows:=[[.qS]],gen:=0,fz:=false,ver:=0 }).map fun M'=>(.w (.c (.mit id)),M',.bad)
 |.range,[.c (.map m g)]=>match zi4 M m with
  |some (_,c,_)=>(zg M id { box:=true,esz:=1,rows:=[[.map m g,.int .i64 c]],gen:=0,fz:=false,ver:=0 }).map fun M'=>(.w (.c (.mit id)),M',.bad)
  |none=>none
 |.C7,xs=>if xs.all (okW false)=true/\0<xs.length then
   (zg M id { box:=true,esz:=1,rows:=xs.map WV.cells,gen:=xs.length,fz:=false,ver:=xs.length }).map fun M'=>(.w (.c (.slice id xs.length 1 0 xs.length none)),M',.no)
  else none
 |.B5 n,[]=>(zg M id { box:=false,esz:=1,rows:=[[.int .i64 n]],gen:=1,fz:=true,ver:=2 }).map fun M'=>(.w (.c (.jb [[.int .i64 n]])),M',.no)
 |_,_=>none
def opF(cf:za4)(n0:Nat)(E:Nat->Option AV)(M:Mem):CO->Option (AV×Mem×FP)
 |.mv x=>match x.av E with
  |some v=>some (v,M,.no)
  |none=>none
 |.pick c a b=>match c.ev E with
  |some (.c (.bool t))=>match (if t then a else b).ev E with
   |some v=>some (.w v,M,.no)
   |none=>none
  |_=>none
 |.kx q esz=>(zg M (n0+q) { box:=false,esz,rows:=[],gen:=0,fz:=false,ver:=0 }).map fun M'=>(.w (.c (.slice (n0+q) 0 esz 0 0 none)),M',.no)
 |.box q n x=>match x.ev E with
  |some v=>if v.cells.length=n&&0<n then
    (zg M (n0+q) { box:=true,esz:=n,rows:=[v.cells],gen:=0,fz:=false,ver:=0 }).map fun M'=>(.w (.c (.ptr (n0+q) 0 0 0)),M',.no)
   else none
  |none=>none
 |.build zero parts=>(zdv E zero parts).map fun cs=>(.w (.a cs),M,.no)
 |.lit q esz zero parts=>match zdS E M esz zero parts with
  |some rows=>if 0<esz then
    (zg (zbg M (zcf E parts)) (n0+q) { box:=false,esz,rows,gen:=rows.length,fz:=false,ver:=rows.length }).map fun M' =>
     (.w (.c (.slice (n0+q) rows.length esz 0 rows.length none)),M',if(zcf E parts).isEmpty then .no else .mk (zcf E parts))
   else none
  |none=>none
 |.load agg n p=>match p.ev E with
  |some (.c x)=>zdZ M agg n x
  |_=>none
 |.store n p v=>match p.ev E,v.ev E with
  |some (.c x),some v=>zhT M n x v
  |_,_=>none
 |.jH x=>match x.ev E with
  |some (.c (.ptr id g i k))=>some (.w (.c (.ptr id g i k)),M,.no)
  |some (.c (.uQ r k))=>some (.w (.c (.uQ r k)),M,.no)
  |some (.c (.fn f fi ca))=>some (.w (.c (.fn f fi ca)),M,.no)
  |_=>none
 |.bin op x y=>match x.ev E,y.ev E with
  |some (.c a),some (.c b)=>zhN (zBR op a b) M
  |_,_=>none
 |.eqb neg x y=>match x.ev E,y.ev E with
  |some (.c a),some (.c b)=>zhN (zBL neg a b) M
  |_,_=>none
 |.AA neg x=>match x.ev E with
  |some (.c a)=>zhN (zBB neg a) M
  |_=>none
 |.bad=>none
 |.eqa neg sh x y=>match x.ev E,y.ev E with
  |some (.a as),some (.a bs)=>if as.length=sh.length/\bs.length=sh.length then zhN ((zbM sh as bs).map fun r=>.bool (if neg then !r else r)) M else none
  |_,_=>none
 |.un op x=>match x.ev E with
  |some (.c a)=>zhN (unC op a) M
  |_=>none
 |.conv k x=>match x.ev E with
  |some (.c (.int _ n))=>some (.w (.c (.int k (k.wrap n))),M,.no)
  |_=>none
 |.uR f fi ca=>match evs E fi,evs E ca with
  |some a,some b =>
   if a.all (fun |.c _=>true |.a _=>false)&&b.all (fun |.c _=>true |.a _=>false) then
    some (.w (.c (.fn f (a.flatMap WV.cells) (b.flatMap WV.cells))),M,.no)
   else none
  |_,_=>none
 |.Am q esz bytes zero l c=>match l.ev E,c.ev E with
  |some (.c (.int _ l)),some (.c (.int _ c)) =>
   if 0<=l/\l=c/\roomy l.toNat bytes=true/\zero.length=esz/\0<esz/\zero.all zcl=true then
    (zg M (n0+q) { box:=false,esz,rows:=List.replicate l.toNat zero,gen:=l.toNat,fz:=false,ver:=l.toNat }).map fun M' =>
     (.w (.c (.slice (n0+q) l.toNat esz 0 l.toNat none)),M',.no)
   else none
  |_,_=>none
 |.slice es x lo hi mx=>match x.ev E with
  |some (.c c)=>zhN (znj E es c lo hi mx) M
  |_=>none
 |.BA off p=>match p.ev E with
  |some (.c c)=>zhN (zt9 off c) M
  |_=>none
 |.field agg off n x=>match x.ev E with
  |some (.a cs)=>match cut cs off n with
   |some cs'=>(zaI agg cs').map fun v=>(.w v,M,.no)
   |none=>none
  |_=>none
 |.Bi esz x i=>match x.ev E,i.ev E with
  |some (.c a),some (.c b)=>zhN (zt5 esz a b) M
  |_,_=>none
 |.yB len esz x i=>match x.ev E,i.ev E with
  |some (.c a),some (.c b)=>zhN (zus len esz a b) M
  |_,_=>none
 |.Dk agg len esz x i=>match x.ev E,i.ev E with
  |some (.a cs),some (.c (.int _ n))=>match zmk n len with
   |some j=>match cut cs (j*esz) esz with
    |some cs'=>(zaI agg cs').map fun v=>(.w v,M,.no)
    |none=>none
   |none=>none
  |_,_=>none
 |.extract t i=>match E t with
  |some (.t xs)=>match xs[i]? with
   |some v=>some (.w v,M,.no)
   |none=>none
  |_=>none
 |.len x=>match x.ev E with
  |some (.c (.slice _ _ _ _ len _))=>some (.w (.c (.int .i64 len)),M,.no)
  |some (.c (.jb rows))=>some (.w (.c (.int .i64 rows.length)),M,.no)
  |some (.c .jc)=>some (.w (.c (.int .i64 0)),M,.no)
  |some (.c (.bsl _ _ _ _ _ len _))=>some (.w (.c (.int .i64 len)),M,.no)
  |_=>none
 |.slen x=>match x.ev E with
  |some (.c (.str s))=>some (.w (.c (.int .i64 s.size)),M,.no)
  |_=>none
 |.kr mx xs=>match evs E xs with
  |some (.c (.int k a)::r)=>zhN (zoU mx a k r) M
  |_=>none
 |.append esz bytes s x=>match s.ev E,x.ev E with
  |some (.c a),some (.c b)=>zcB M esz bytes a b
  |_,_=>none
 |.clear zero x=>match x.ev E with
  |some (.c a)=>zgI M zero a
  |_=>none
 |.call m f args=>match f.ev E,evs E args with
  |some fv,some as=>zx cf m fv as M
  |_,_=>none
 |.p1 k x=>match x.ev E with
  |some v=>match p1F k v with
   |some r=>some (r,M,.no)
   |none=>none
  |none=>none
 |.p2 k x y=>match x.ev E,y.ev E with
  |some v,some u=>match p2F k v u with
   |some r=>some (r,M,.no)
   |none=>none
  |_,_=>none
 |.pop k xs=>match evs E xs with
  |some vs=>match ztH k vs with
   |some r=>some (r,M,.no)
   |none=>none
  |none=>none
 |.mop k xs=>match evs E xs with
  |some vs=>zCC M k vs
  |none=>none
 |.yV k q xs=>match evs E xs with
  |some vs=>zi2 M (n0+q) k vs
  |none=>none
def zke(E:Nat->Option AV)(g:Nat×Bool):Option Bool :=
 match E g.1 with
 |some (.w (.c (.bool b)))=>some (b==g.2)
 |some .u=>some false
 |_=>none
def zbm(cf:za4)(n0:Nat)(o:zaG)(E:Nat->Option AV)(M:Mem):Option (AV×Mem×FP) :=
 match o.guard with
 |none=>opF cf n0 E M o.op
 |some g=>match zke E g with
  |some true=>opF cf n0 E M o.op
  |some false=>some (.u,M,.no)
  |none=>none
def Env.put(E:Env)(dst:Option Nat)(v:AV):Env:=match dst with
 |some d=>(d,v)::E
 |none=>E
def zks(cf:za4)(n0:Nat):List zaG->Env->Mem->Option (Env×Mem×List FP)
 |[],E,M=>some (E,M,[])
 |o::os,E,M=>match zbm cf n0 o E.get M with
  |some (v,M',fp)=>match zks cf n0 os (E.put o.dst v) M' with
   |some (E2,M2,fs)=>some (E2,M2,fp::fs)
   |none=>none
  |none=>none
def zyi(base:Nat)(fs:List FP)(p:Nat×Nat):Bool:=match fs[p.1]?,fs[p.2]? with
 |some a,some b=>a.apart b&&b.old base
 |_,_=>false
inductive EX where
 |normal
 |exit (id:Nat)
 |ret
 deriving Inhabited,DecidableEq
def qC(n:Nat):Mem:=List.replicate n none
def Env.kept(E:Env):Option (List Nat)->Env
 |none=>E
 |some l=>E.ue l
def km(n:Nat)(E:Env)(M:Mem):Mem :=
 if M.length<=n then M else
 if E.all (fun x=>x.2.below n)&&zH n (M.take n) then M.take n else M
def canon(n:Nat)(live:Option (List Nat))(E:Env)(M:Mem):Env×Mem :=
 match live with
 |none=>(E,M)
 |some l=>let E':=E.ue l;(E',km n E' M)
def iter(body:Env->Mem->Option (EX×Env×Mem))(live:Option (List Nat))(n0:Nat):Nat->Env->Mem->Option (EX×Env×Mem)
 |0,_,_=>none
 |n+1,E,M=>match body E M with
  |some (.normal,E',M')=>let s:=canon n0 live E' M';iter body live n0 n s.1 s.2
  |r=>r
def zeN(E:Env):List Nat->List (Nat×Bool×Nat)×List Cl
 |[]=>([],[])
 |n::ns=>match E.get n with
  |some (.w (.c x))=>((n,false,1)::(zeN E ns).1,x::(zeN E ns).2)
  |some (.w (.a cs))=>((n,true,cs.length)::(zeN E ns).1,cs++(zeN E ns).2)
  |_=>zeN E ns
def AI:List (Nat×Bool×Nat)->List Cl->Option Env
 |[],_=>some []
 |(n,g,k)::sh,cs=>match zaI g (cs.take k),AI sh (cs.drop k)with
  |some v,some E=>some ((n,.w v)::E)
  |_,_=>none
def znr(s:Int):Option EX:=if s=0 then some .normal else if s=2 then some .ret else if 3<=s then some (.exit (s-3).toNat) else none
def zxZ:EX->Int
 |.normal=>0
 |.ret=>2
 |.exit id=>3+id
def ghost(cells:List Cl):Blk:={ box:=true,esz:=1+cells.length,rows:=[.int .i64 0::cells],gen:=0,fz:=false,ver:=0 }
def zsR(M:Mem)(id:Nat)(s s':Int):Option Mem:=match look M id 0 with
 |some b=>match b.rows with
  |[.int .i64 t::cells]=>if t=s then some (M.set id (some { b with rows:=[.int .i64 s'::cells],ver:=b.ver+1 })) else none
  |_=>none
 |none=>none
def kM(M:Mem)(id:Nat):Option Int:=match look M id 0 with
 |some b=>match b.rows with
  |[.int .i64 t::_]=>some t
  |_=>none
 |none=>none
def zxb(M:Mem)(id:Nat):Option (List Cl):=match look M id 0 with
 |some b=>match b.rows with
  |[.int .i64 _::cells]=>some cells
  |_=>none
 |none=>none
def zaV(cf:za4)(n:Nat):CC->Env->Mem->Option (EX×Env×Mem)
 |.skip,E,M=>some (.normal,E,M)
 |.region nA ops prs ue,E,M=>match zks cf M.length ops E (M++qC nA)with
  |some (E',M',fs)=>if prs.all (zyi (M.length+nA) fs) then some (.normal,E'.kept ue,M') else none
  |none=>none
 |.seq a b,E,M=>match zaV cf n a E M with
  |some (.normal,E',M')=>zaV cf n b E' M'
  |r=>r
 |.cond c a b,E,M=>match c.ev E.get with
  |some (.c (.bool t))=>if t then zaV cf n a E M else zaV cf n b E M
  |_=>none
 |.block id b,E,M=>match zaV cf n b E M with
  |some (.exit id',E',M')=>if id'=id then some (.normal,E',M') else some (.exit id',E',M')
  |r=>r
 |.loop live b,E,M=>let s:=canon M.length live E M;iter (zaV cf n b) live M.length n s.1 s.2
 |.exit id,E,M=>some (.exit id,E,M)
 |.ret,E,M=>some (.ret,E,M)
 |.rng f vf caps,E,M=>match f.ev E.get with
  |some (.c (.fn g fi ca))=>match zx cf ⟨true⟩ (.c (.fn g fi ca)) [.c (.yld M.length vf (zeN E caps).1)] (M++[some (ghost (zeN E caps).2)])with
   |some (_,M',_)=>match kM M' M.length with
    |some s=>match znr s,zsR M' M.length s (-1)with
     |some ex,some M2=>some (ex,E,M2)
     |_,_=>none
    |none=>none
   |none=>none
  |_=>none
def zoD(E:Env)(M:Mem):RC->Option WV
 |.slot n=>match E.get n with
  |some (.w v)=>some v
  |_=>none
 |.cell n agg size=>match E.get n with
  |some (.w (.c p))=>match zdZ M agg size p with
   |some (.w v,_,_)=>some v
   |_=>none
  |_=>none
def zlQ(E:Env)(M:Mem):List RC->Option (List WV)
 |[]=>some []
 |r::rs=>match zoD E M r,zlQ E M rs with
  |some v,some vs=>some (v::vs)
  |_,_=>none
def zpk(E:Env)(M:Mem)(l:List RC):Option AV :=
 match zlQ E M l with
 |some [v]=>some (.w v)
 |some vs=>some (.t vs)
 |none=>none
def vT:Nat->List WV->Env
 |_,[]=>[]
 |i,v::vs=>(i,.w v)::vT (i+1) vs
def leave(frz:Bool)(k:Nat)(r:AV)(M:Mem):Option (AV×Mem) :=
 if frz then match zoS M r with
  |some r'=>finish k r' (zbg M r.sls)
  |none=>none
 else finish k r M
def zv3:List Nat->List WV->Env
 |p::ps,v::vs=>(p,.w v)::zv3 ps vs
 |_,_=>[]
def zoC(cf:za4)(n:Nat)(f:FuncId)(ps:List Nat)(pre code:CC)(args:List WV)(M:Mem):Option (AV×Mem) :=
 match args with
 |.c (.yld id g sh)::as =>
  if g=f/\as.length=ps.length/\kM M id=some 0 then
   match zxb M id with
   |some cells=>match AI sh cells with
    |some E0=>match zaV cf n pre (zv3 ps as++E0) M with
     |some (.normal,E1,M1)=>match zsR M1 id 0 1 with
      |some M2=>match zaV cf n code E1 M2 with
       |some (ex,_,M3)=>match zsR M3 id 1 (zxZ ex)with
        |some M4=>finish M.length (.w (.c (.bool (ex==.normal)))) M4
        |none=>none
       |none=>none
      |none=>none
     |_=>none
    |none=>none
   |none=>none
  else none
 |_=>none
def zfk(T:FuncId->Option CFn)(X:za4):Nat->za4
 |0,_,_,_=>none
 |n+1,f,args,M=>match T f with
  |none=>X f args M
  |some fn =>
   match fn.rnd with
   |some (ps,pre)=>zoC (zfk T X n) n f ps pre fn.code args M
   |none =>
   if args.length=fn.nargs then
    match zaV (zfk T X n) n fn.code (vT 0 args) M with
    |some (.normal,E,M') |some (.ret,E,M')=>match zpk E M' fn.res with
     |some r=>leave fn.frz M.length r M'
     |none=>none
    |_=>none
   else none
open Go
def zAA:Value->Option Cl
 |.bool b=>some (.bool b)
 |.int k n=>some (.int k n)
 |.string s=>some (.str s)
 |.pointer none=>some .kX
 |.slice none 0 0=>some .jc
 |.nilFunc=>some .qT
 |.nilIface=>some .qA
 |.map none=>some .qS
 |_=>none
def zpz:List Value->Option (List Cl)
 |[]=>some []
 |v::vs=>match zAA v,zpz vs with
  |some c,some cs=>some (c::cs)
  |_,_=>none
def zzh:Value->Option WV
 |.agg cs=>(zpz cs.toList).map .a
 |v=>(zAA v).map .c
class GlobP where
 row:Nat->Option (List Cl)
variable[GlobP]
def za5:Operand->Option Opd
 |.tmp t=>some (.s t)
 |.const v=>(zzh v).map .k
 |.global g=>(GlobP.row g).map fun r=>.k (.c (.uQ r 0))
 |.func f=>some (.k (.c (.fn f [] [])))
def zdB:List Operand->Option (List Opd)
 |[]=>some []
 |v::vs=>match za5 v,zdB vs with
  |some c,some cs=>some (c::cs)
  |_,_=>none
def zeh:Option Operand->Option (Option Opd)
 |none=>some none
 |some x=>(za5 x).map some
def zeU(P:Program)(t:TypeId):Option Bool :=
 match P.underlying t with
 |some (.struct _) |some (.array _ _)=>some true
 |some _=>some false
 |none=>none
def zbL(P:Program)(t:TypeId):Option Nat:=(P.info? t).map (·.size)
def zmi(P:Program)(t:TypeId):Option Nat:=(P.info? t).map (·.bytes)
def zhL(P:Program)(t:TypeId):Option (List Cl) :=
 match P.info? t with
 |some i=>match i.zero with
  |some z=>zpz z.cells.toList
  |none=>none
 |none=>none
def znJ(P:Program)(t:TypeId):Option WV :=
 match P.info? t with
 |some i=>match i.zero with
  |some z=>zzh z
  |none=>none
 |none=>none
def zmD(P:Program):List Field->Option (List (Nat×Nat))
 |[]=>some []
 |f::fs=>match zbL P f.type,zmD P fs with
  |some n,some l=>some ((f.offset,n)::l)
  |_,_=>none
def ziZ(place:Nat->Option (Nat×Nat)):List (Nat×Operand)->Option (List (Nat×Nat×Opd))
 |[]=>some []
 |(i,o)::r=>match place i,za5 o,ziZ place r with
  |some p,some x,some l=>some ((p.1,p.2,x)::l)
  |_,_,_=>none
def zgZ:List (Nat×Operand)->Option (List (Nat×Opd))
 |[]=>some []
 |(i,o)::r=>match za5 o,zgZ r with
  |some x,some l=>some ((i,x)::l)
  |_,_=>none
def zrc(flat:TypeId->Option (List Bool)):List Field->Nat->Option (List Bool)
 |[],_=>some []
 |f::fs,off=>match flat f.type with
  |some sh=>if f.name !="_" && f.offset=off then(zrc flat fs (off+sh.length)).map (sh ++ ·) else none
  |none=>none
def zvm(P:Program):Nat->TypeId->Option (List Bool)
 |0,_=>none
 |d+1,t=>match P.underlying t with
  |some (.int _)=>some [false]
  |some .bool=>some [true]
  |some (.struct fs)=>if P.stoodInHeld t then none else
   match zrc (zvm P d) fs.toList 0 with
   |some sh=>if zbL P t=some sh.length/\0<sh.length then some sh else none
   |none=>none
  |_=>none
def zq1:Operand->Bool
 |.const (.pointer none)=>true
 |_=>false
def zmI:Operand->Bool
 |.const (.slice none 0 0)=>true
 |_=>false
def zpP(P:Program)(t:TypeId):Option Bool:=match P.underlying t with
 |some (.map kt e)=>match P.underlying kt with
  |some (.int _)=>zeU P e
  |_=>none
 |_=>none
def zCD(P:Program)(t:TypeId):Option WV:=match P.underlying t with
 |some (.map _ e)=>znJ P e
 |_=>none
def zq3(P:Program)(t:TypeId):Bool:=match P.underlying t with
 |some (.slice e)=>(match P.underlying e with
  |some (.int .u8)=>true
  |_=>false)
 |_=>false
def zAk(P:Program)(t:TypeId):Bool:=match P.underlying t with
 |some (.func ..)=>true
 |some (.pointer _)=>true
 |_=>false
def zxA:Operand->Bool
 |.const .nilFunc=>true
 |_=>false
def cSl(P:Program)(q:Nat)(t:TypeId)(len:Nat)(parts:Array (Nat×Operand)):Option CO :=
 match P.underlying t with
  |some (.slice e)=>if zAk P e=true then(if parts.toList.map (·.1)=List.range len/\zbL P e=some 1/\len<=1000/\(zhL P e).isSome=true then(zdB (parts.toList.map (·.2))).map (.yV .C7 q) else none) else
   match zbL P e,zhL P e,zgZ parts.toList with
   |some n,some z,some ps=>if len*n<=16777216/\z.length=n/\z.all zcl then some (.lit q n (List.replicate len z) ps) else none
   |_,_,_=>none
  |_=>none
def Zlx(m:zbz)(r:Option CO):Option CO:=match m.fa,r with
 |false,some (.lit q 1 [[_]] [(0,.k (.c (.int .i64 n)))])=>some (.yV (.B5 n) q [])
 |_,r=>r
def zA(P:Program)(q:Nat)(m:zbz)(o:Oper):Option CO :=
 match o.op with
 |.move x |.assign x=>if zmI x then match P.underlying o.type with
   |some (.slice e)=>(zbL P e).map (.kx q)
   |_=>(za5 x).map .mv
  else(za5 x).map .mv
 |.pick c a b=>match za5 c,za5 a,za5 b with
  |some c,some a,some b=>some (.pick c a b)
  |_,_,_=>none
 |.alloc t=>match zhL P t with
  |some zs=>some (.box q zs.length (.k (.a zs)))
  |none=>none
 |.box t x=>match za5 x,zbL P t with
  |some x,some n=>some (.box q n x)
  |_,_=>none
 |.build t parts=>match P.underlying t,zhL P t with
  |some (.struct fs),some z=>match zmD P fs.toList with
   |some ps=>(ziZ (ps[·]?) parts.toList).map (.build z)
   |none=>none
  |some (.array _ e),some z=>match zbL P e with
   |some n=>(ziZ (fun i=>some (i*n,n)) parts.toList).map (.build z)
   |none=>none
  |_,_=>none
 |.buildSlice t len parts=>Zlx m (cSl P q t len parts)
 |.load t a=>match za5 a,zeU P t,zbL P t with
  |some a,some g,some n=>some (.load g (if g then n else 1) a)
  |_,_,_=>none
 |.store t a v=>match za5 a,za5 v,zbL P t with
  |some a,some v,some n=>some (.store n a v)
  |_,_,_=>none
 |.nilCheck x=>(za5 x).map .jH
 |.binOp op t x y _=>match za5 x,za5 y with
  |some x',some y'=>match P.underlying t with
   |some (.int _)=>some (.bin op x' y')
   |some .bool=>(match op with
    |.eql=>some (.eqb false x' y')
    |.neq=>some (.eqb true x' y')
    |_=>none)
   |some .string=>some (.p2 (.str op) x' y')
   |some (.pointer _)=>if zq1 y then(match op with
    |.eql=>some (.AA false x')
    |.neq=>some (.AA true x')
    |_=>none) else none
   |some (.struct _)=>match zvm P 10000 t with
    |some sh=>if P.eqGuardType P.depth t then none else(match op with
     |.eql=>some (.eqa false sh x' y')
     |.neq=>some (.eqa true sh x' y')
     |_=>none)
    |none=>none
   |some (.func ..)=>if zxA y then(match op with
    |.eql=>some (.pop (.AU false) [x'])
    |.neq=>some (.pop (.AU true) [x'])
    |_=>none) else none
   |_=>none
  |_,_=>none
 |.unOp op _ x=>(za5 x).map (.un op)
 |.makeInterface t x=>match P.underlying t,za5 x with
  |some (.interface _),_=>none
  |some _,some x=>some (.p1 (.B4 t) x)
  |_,_=>none
 |.typeAssert x _ t ok=>match P.underlying t,znJ P t,za5 x with
  |some (.interface _),_,_=>none
  |some _,some z,some x=>some (.p1 (.BW ok t z) x)
  |_,_,_=>none
 |.convert s d x=>match P.underlying s,P.underlying d,za5 x with
  |some (.int _),some (.int k),some x=>some (.conv k x)
  |some (.slice _),some .string,some x=>if zq3 P s then some (.mop .Dl [x]) else none
  |_,_,_=>none
 |.makeFunc (.func f) fi ca=>match zdB fi.toList,zdB ca.toList with
  |some a,some b=>some (.uR f a b)
  |_,_=>none
 |.makeSlice t l c=>match P.underlying t with
  |some (.slice e)=>match zbL P e,zmi P e,zhL P e,za5 l,za5 c with
   |some n,some b,some z,some l,some c=>if 0<b then some (.Am q n b z l c) else none
   |_,_,_,_,_=>none
  |_=>none
 |.slice t x lo hi mx=>match P.underlying t with
  |some (.slice e)=>match zbL P e,za5 x,zeh lo,zeh hi,zeh mx with
   |some n,some x,some lo,some hi,some mx=>some (.slice n x lo hi mx)
   |_,_,_,_,_=>none
  |some .string=>match mx,zdB (x::(lo.toList++hi.toList))with
   |none,some xs=>some (.pop (.Cw lo.isSome hi.isSome) xs)
   |_,_=>none
  |some (.array n e)=>match mx,zdB (x::(lo.toList++hi.toList))with
   |none,some xs=>(zbL P e).map fun es=>.pop (.Bh n es lo.isSome hi.isSome) xs
   |_,_=>none
  |_=>none
 |.fieldAddr t x f=>match P.underlying t,za5 x with
  |some (.struct fs),some x=>match fs[f]? with
   |some fd=>match zbL P fd.type with
    |some n=>if n=0 then none else some (.BA fd.offset x)
    |none=>none
   |none=>none
  |_,_=>none
 |.field t x f=>match P.underlying t,za5 x with
  |some (.struct fs),some x=>match fs[f]? with
   |some fd=>match zbL P fd.type,zeU P fd.type with
    |some n,some g=>some (.field g fd.offset (if g then n else 1) x)
    |_,_=>none
   |none=>none
  |_,_=>none
 |.indexAddr t x i=>match P.underlying t,za5 x,za5 i with
  |some (.slice e),some x,some i=>match zbL P e with
   |some n=>some (.Bi n x i)
   |none=>none
  |some (.array len e),some x,some i=>match zbL P e with
   |some n=>some (.yB len n x i)
   |none=>none
  |_,_,_=>none
 |.index t x i=>match P.underlying t,za5 x,za5 i with
  |some (.array len e),some x,some i=>match zbL P e,zeU P e with
   |some n,some g=>if g||n=1 then some (.Dk g len n x i) else none
   |_,_=>none
  |some .string,some x,some i=>some (.p2 .sidx x i)
  |_,_,_=>none
 |.extract t i=>match t with
  |.tmp t=>some (.extract t i)
  |_=>none
 |.call c=>match c.callee with
  |.value f=>match za5 f,zdB c.args.toList with
   |some f,some as=>some (.call m f as)
   |_,_=>none
  |.builtin .len=>match c.argTypes.toList,c.args.toList with
   |[t],[x]=>match P.underlying t,za5 x with
    |some (.slice _),some x=>some (.len x)
    |some .string,some x=>some (.slen x)
    |some (.map ..),some x=>some (.mop .len [x])
    |_,_=>none
   |_,_=>none
  |.builtin .delete=>match c.argTypes.toList,zdB c.args.toList with
   |[t,_],some [m,k]=>(zpP P t).map fun _=>.mop .del [m,k]
   |_,_=>none
  |.builtin .copy=>match c.argTypes.toList,zdB c.args.toList with
   |[t,u],some [d,s]=>match P.underlying t,P.underlying u with
    |some (.slice e),some (.slice _)=>(zbL P e).map fun n=>.mop (.copy n) [d,s]
    |_,_=>none
   |_,_=>none
  |.builtin .max=>(zdB c.args.toList).map (.kr true)
  |.builtin .min=>(zdB c.args.toList).map (.kr false)
  |.builtin .append=>match c.argTypes.toList,c.args.toList with
   |[t,u],[s,x]=>match P.underlying t,P.underlying u with
    |some (.slice e),some (.slice _)=>match zbL P e,zmi P e,zhL P e,za5 s,za5 x with
     |some n,some b,some z,some s,some x=>if 0<b/\z.length=n then some (.append n b s x) else none
     |_,_,_,_,_=>none
    |_,_=>none
   |_,_=>none
  |.builtin .clear=>match c.argTypes.toList,c.args.toList with
   |[t],[x]=>match P.underlying t with
    |some (.slice e)=>match zhL P e,za5 x with
     |some z,some x=>some (.clear z x)
     |_,_=>none
    |_=>none
   |_,_=>none
  |_=>none
 |.makeMap t none=>(zpP P t).map fun g=>.yV (.mk g) q []
 |.lookup t x i ok=>match zpP P t,zCD P t,zdB [x,i]with
  |some g,some z,some xs=>if okW g z then some (.mop (.get ok g z) xs) else none
  |_,_,_=>none
 |.mapUpdate t m k v |.insert t m k v=>match zpP P t,zdB [m,k,v]with
  |some g,some xs=>some (.mop (.set g) xs)
  |_,_=>none
 |.range t x=>match zpP P t,zdB [x]with
  |some _,some xs=>some (.yV .range q xs)
  |_,_=>none
 |.next it false=>(zdB [it]).map (.mop .next)
 |.entry it=>(zdB [it]).map (.mop .entry)
 |_=>none
inductive Cls where
 |pure |alloc |load |yT
 deriving DecidableEq,Inhabited
def CO.cls:CO->Cls
 |.box .. |.lit .. |.Am .. |.kx .. |.yV ..=>.alloc
 |.load ..=>.load
 |.store .. |.append .. |.clear .. |.call .. |.mop .. |.bad=>.yT
 |_=>.pure
def Opd.slots:Opd->List Nat
 |.s n=>[n]
 |.k _=>[]
def CO.slots:CO->List Nat
 |.bad |.kx _ _=>[]
 |.mv x |.box _ _ x |.load _ _ x |.AA _ x |.jH x |.un _ x |.conv _ x |.BA _ x |.field _ _ _ x |.len x |.slen x |.clear _ x=>x.slots
 |.pick c a b=>c.slots++a.slots++b.slots
 |.build _ ps=>ps.flatMap fun p=>p.2.2.slots
 |.lit _ _ _ ps=>ps.flatMap fun p=>p.2.slots
 |.store _ a b |.bin _ a b |.eqb _ a b |.eqa _ _ a b |.Am _ _ _ _ a b |.Bi _ a b |.yB _ _ a b |.Dk _ _ _ a b |.append _ _ a b=>a.slots++b.slots
 |.uR _ a b=>a.flatMap Opd.slots++b.flatMap Opd.slots
 |.slice _ x l h m=>x.slots++(l.toList++h.toList++m.toList).flatMap Opd.slots
 |.extract t _=>[t]
 |.kr _ xs=>xs.flatMap Opd.slots
 |.call _ f as=>f.slots++as.flatMap Opd.slots
 |.p1 _ x=>x.slots
 |.p2 _ x y=>x.slots++y.slots
 |.pop _ xs |.mop _ xs |.yV _ _ xs=>xs.flatMap Opd.slots
def zaG.slots(o:zaG):List Nat:=(match o.guard with |some g=>[g.1] |none=>[])++o.op.slots
def zaG.cls(o:zaG):Cls:=o.op.cls
def zyP:Op->Bool
 |.alloc _ |.box .. |.buildSlice .. |.makeSlice .. |.makeMap .. |.range ..=>true
 |.move x |.assign x=>zmI x
 |_=>false
def zgO(ops:List Oper)(i:Nat):Nat:=((ops.take i).filter fun o=>zyP o.op).length
def zqf(ops:List Oper):Option (Nat×Bool)->Option (Option (Nat×Bool))
 |none=>some none
 |some (j,b)=>match ops[j]? with
  |some o=>o.dst.map fun d=>some (d,b)
  |none=>none
def zdT(P:Program)(ops:List Oper)(m:Oper->zbz)(ntmps i:Nat):Option zaG :=
 match ops[i]? with
 |some o=>match some ((zA P (zgO ops i) (m o) o).getD .bad),zqf ops o.guard with
  |some c,some g=>match o.dst with
   |some d=>if d<ntmps then some { ix:=i,dst:=some d,guard:=g,op:=c } else none
   |none=>some { ix:=i,dst:=none,guard:=g,op:=c }
  |_,_=>none
 |none=>none
def zcL(P:Program)(ops:List Oper)(m:Oper->zbz)(ntmps:Nat):List Nat->Option (List zaG)
 |[]=>some []
 |i::is=>match zdT P ops m ntmps i,zcL P ops m ntmps is with
  |some c,some cs=>some (c::cs)
  |_,_=>none
def zkJ(o:Oper):List Nat:=(o.after.toList.filter (Region.binds .any)).map (·.on)
def v6:List Oper->List Nat->List Nat
 |[],acc=>acc
 |o::os,acc=>v6 os (acc++[(zkJ o).foldl (fun s j=>s ||| 2 ^ j ||| acc.getD j 0) 0])
def znW(a b:zaG):Bool :=
 (match a.dst with |some d=>!(b.slots).contains d&&b.dst !=some d |none=>true) &&
 (match b.dst with |some d=>!(a.slots).contains d |none=>true) &&
 match a.cls,b.cls with
 |.pure,_ |_,.pure=>true
 |.load,.load=>true
 |.load,.alloc |.yT,.alloc |.alloc,.alloc=>true
 |.load,.yT |.yT,.load=>true
 |.alloc,.load |.alloc,.yT=>false
 |.yT,.yT=>false
def zqg(bef:List Nat):List zaG->Bool
 |[]=>true
 |a::r=>r.all (fun b=>(bef.getD b.ix 0).testBit a.ix||znW a b)&&zqg bef r
def znU(bef:List Nat)(a:zaG)(i:Nat):Nat->List zaG->List (Nat×Nat)
 |_,[]=>[]
 |j,b::r =>
  let rest:=znU bef a i (j+1) r
  if(bef.getD b.ix 0).testBit a.ix then rest
  else match a.cls,b.cls with
   |.pure,_ |_,.pure |.load,.load=>rest
   |_,_=>(i,j)::rest
def zxr(bef:List Nat):Nat->List zaG->List (Nat×Nat)
 |_,[]=>[]
 |i,a::r=>znU bef a i (i+1) r++zxr bef (i+1) r
def ztq(ops:List Oper):List Nat->List Nat->Bool
 |[],_=>true
 |i::is,done=>(match ops[i]? with |some o=>(zkJ o).all (done.contains ·) |none=>false)&&ztq ops is (i::done)
def zCA:Op->Nat
 |.alloc _ |.box .. |.buildSlice .. |.makeSlice .. |.makeMap .. |.range ..=>3
 |.move x |.assign x=>if zmI x then 3 else 0
 |.load ..=>1
 |.store .. |.call _ |.mapUpdate .. |.insert ..=>2
 |.lookup ..=>1
 |_=>0
def schedule(ops:List Oper):Nat->List Nat->List Nat
 |0,done=>done.reverse
 |n+1,done =>
  let ready:=(List.range ops.length).filter fun i=>!done.contains i&&(match ops[i]? with |some o=>(zkJ o).all (done.contains ·) |none=>false)
  let BE:=fun r=>ready.find? fun i=>match ops[i]? with |some o=>zCA o.op==r |none=>false
  match BE 0<|>BE 1<|>BE 2<|>BE 3 with
  |some i=>schedule ops n (i::done)
  |none=>done.reverse
structure Ann where
 mode:Oper->zbz
 frz:FuncId->Bool
def zeP(P:Program)(an:Ann)(ntmps id:Nat)(ops:List Oper)(draw:Bool):Option (Nat×List zaG×List (Nat×Nat)) :=
 let nA:=zgO ops ops.length
 if draw then
  let ord:=schedule ops ops.length [];let bef:=v6 ops []
  match zcL P ops an.mode ntmps ord with
  |some cs =>
   if ord.length=ops.length&&zku ord&&ztq ops ord []&&zqg bef cs then some (nA,cs,zxr bef 0 cs) else none
  |none=>none
 else match zcL P ops an.mode ntmps (List.range ops.length)with
  |some cs=>some (nA,cs,[])
  |none=>none
def zDm(l:List Nat)(x:Nat):List Nat:=if l.contains x then l else x::l
def union(a b:List Nat):List Nat:=b.foldl zDm a
def zCf:List zaG->List Nat->List Nat
 |[],l=>l
 |o::os,l =>
  let l':=zCf os l
  union (match o.dst with |some d=>l'.filter (· !=d) |none=>l') o.slots
def lvC:CC->List Nat->List (Nat×List Nat)->List Nat->List Nat
 |.skip,l,_,_=>l
 |.region _ ops _ _,l,_,_=>zCf ops l
 |.seq a b,l,ex,rt=>lvC a (lvC b l ex rt) ex rt
 |.cond c a b,l,ex,rt=>union (union (lvC a l ex rt) (lvC b l ex rt)) c.slots
 |.block id b,l,ex,rt=>lvC b l ((id,l)::ex) rt
 |.loop _ b,_,ex,rt =>
  let l1:=lvC b [] ex rt;let l2:=lvC b l1 ex rt
  lvC b l2 ex rt
 |.exit id,_,ex,_=>(ex.lookup id).getD []
 |.ret,_,_,rt=>rt
 |.rng f _ caps,l,ex,rt=>union (union (union l caps) f.slots) (union rt (ex.flatMap (·.2)))
def annot:CC->List Nat->List (Nat×List Nat)->List Nat->CC
 |.skip,_,_,_=>.skip
 |.region nA ops prs _,l,_,_=>.region nA ops prs (some l)
 |.seq a b,l,ex,rt=>.seq (annot a (lvC b l ex rt) ex rt) (annot b l ex rt)
 |.cond c a b,l,ex,rt=>.cond c (annot a l ex rt) (annot b l ex rt)
 |.block id b,l,ex,rt=>.block id (annot b l ((id,l)::ex) rt)
 |.loop _ b,l,ex,rt =>
  let l3:=lvC (.loop none b) l ex rt
  .loop (some l3) (annot b l3 ex rt)
 |.exit id,_,_,_=>.exit id
 |.ret,_,_,_=>.ret
 |.rng f v caps,_,_,_=>.rng f v caps
def zeV:Code->Nat
 |.seq a b |.cond _ a b=>zeV a+zeV b
 |.block _ b |.loop b |.scope b=>zeV b
 |.rangeFunc ..=>1
 |_=>0
def rfs:Code->List (Array Tmp×Code×Code)
 |.seq a b |.cond _ a b=>rfs a++rfs b
 |.block _ b |.loop b |.scope b=>rfs b
 |.rangeFunc _ ps a b=>[(ps,a,b)]
 |_=>[]
def zbj(P:Program)(an:Ann)(ntmps:Nat):Option FuncId->Code->Option CC
 |_,.skip=>some .skip
 |_,.region id ops draw=>match zeP P an ntmps id ops.toList draw with
  |some (nA,cs,prs)=>some (.region nA cs prs none)
  |none=>none
 |vf,.seq a b=>match zbj P an ntmps vf a,zbj P an ntmps (vf.map (· + zeV a)) b with
  |some a,some b=>some (.seq a b)
  |_,_=>none
 |vf,.cond c a b=>match za5 c,zbj P an ntmps vf a,zbj P an ntmps (vf.map (· + zeV a)) b with
  |some c,some a,some b=>some (.cond c a b)
  |_,_,_=>none
 |vf,.block id b=>(zbj P an ntmps vf b).map (.block id)
 |vf,.loop b=>(zbj P an ntmps vf b).map (.loop none)
 |vf,.scope b=>(zbj P an ntmps vf b).map fun b'=>.seq b' .skip
 |_,.exit id=>some (.exit id)
 |_,.ret=>some .ret
 |_,.label _=>some .skip
 |vf,.rangeFunc g ps a b=>match vf,za5 g,zbj P an ntmps none a,zbj P an ntmps none b with
  |some v,some f,some a',some b'=>some (.rng f v ((lvC (.seq a' b') [] [] []).filter (!ps.contains ·)))
  |_,_,_,_=>none
 |_,_=>none
def zBn(P:Program):ResultVar->Option RC
 |.tmp t=>some (.slot t)
 |.cell a t=>match zeU P t,zbL P t with
  |some g,some n=>some (.cell a g (if g then n else 1))
  |_,_=>none
def znS(P:Program):List ResultVar->Option (List RC)
 |[]=>some []
 |r::rs=>match zBn P r,znS P rs with
  |some x,some xs=>some (x::xs)
  |_,_=>none
def RC.slots:RC->Nat
 |.slot n=>n
 |.cell n _ _=>n
def zoZ(P:Program)(an:Ann)(ann:Bool)(f:FuncId):Option CFn :=
 match P.funcs[f]? with
 |some fn=>match fn.body,znS P fn.results.toList with
  |some c,some rs =>
   if fn.name == "runtime.NumGoroutine" then none else
   match zbj P an fn.ntmps (some (P.funcs.size+16*f)) c with
   |some cc =>
    if fn.params.size+fn.nfree<=fn.ntmps/\zeV c<=16 then
     let rt:=rs.map RC.slots
     some { frz:=an.frz f,rnd:=none,nargs:=fn.params.size+fn.nfree,ntmps:=fn.ntmps,code:=if ann then annot cc rt [] rt else cc,res:=rs }
    else none
   |none=>none
  |_,_=>none
 |none=>none
def Zlv(nofa nofrz:List Nat):Ann:={ mode:=fun o=>match o.op with |.call c=>(match c.callee with |.value (.func f)=>⟨!nofa.contains f⟩ |_=>⟨true⟩) |.buildSlice _ 1 _=>⟨false⟩ |_=>⟨true⟩,frz:=fun f=>!nofrz.contains f }
def zho(P:Program)(an:Ann)(ann:Bool)(v:FuncId):Option CFn :=
 match P.funcs[(v-P.funcs.size) / 16]? with
 |some fn=>match fn.body with
  |some c=>match (rfs c)[(v-P.funcs.size) % 16]? with
   |some (ps,a,b)=>match zbj P an fn.ntmps none a,zbj P an fn.ntmps none b with
    |some a',some b' =>
     if zku ps.toList&&ps.toList.all (· < fn.ntmps) then
      some { frz:=false,rnd:=some (ps.toList,if ann then annot a' (lvC b' [] [] []) [] [] else a'),nargs:=ps.size+1,ntmps:=fn.ntmps,code:=if ann then annot b' [] [] [] else b',res:=[] }
     else none
    |_,_=>none
   |none=>none
  |none=>none
 |none=>none
def zcF(P:Program)(an:Ann)(ann:Bool)(f:FuncId):Option CFn:=if f<P.funcs.size then zoZ P an ann f else zho P an ann f
end Go.Eng
namespace Go.Eng
open Go
structure Loc where
 blk:Nat
 off:Nat
 esz:Nat
 tot:Nat
inductive Pl where
 |loc (L:Loc)
 |empty
 |rnd (l:Nat) (r:Loop) (f:FuncId) (sh:List (Nat×Bool×Nat))
 |mp (l:Nat) (g:Bool)
 |mi (l:Nat)
def Pl.at:Pl->Option Nat
 |.loc L=>some L.blk
 |.rnd l _ _ _=>some l
 |.mp l _=>some l
 |.mi l=>some l
 |.empty=>none
class zb0 extends GlobP where
 base:Nat
 okc:FuncId->Array Tmp->Code->Code->Nat->Prop
 le:∀f ps a b n,okc f ps a b n->base<=f
 asc:Prop
def zb0.ok [zb0](f:FuncId)(r:Loop):Prop:=zb0.okc f r.params r.assign r.body r.tmps.size
def Pl.OK [zb0](g:Nat):Pl->Prop
 |.rnd _ r f _=>zb0.ok f r
 |.loc L=>g=0->L.off=0
 |_=>True
abbrev Inj:=Nat->Nat->Option Pl
abbrev zP:=Nat->Nat->Option Value
def zb1:Inj:=fun _ _=>none
def Inj.atk(j:Inj)(id g:Nat):Option Nat:=(j id g).bind Pl.at
theorem Inj.vI{j:Inj}{id g:Nat}{L:Loc}(h:j id g=some (.loc L)):j.atk id g=some L.blk:=by simp[Inj.atk,h,Pl.at]
theorem Inj.CX{j:Inj}{id g l:Nat}{r:Loop}{f:FuncId}{sh:List (Nat×Bool×Nat)}(h:j id g=some (.rnd l r f sh)):j.atk id g=some l:=by simp[Inj.atk,h,Pl.at]
theorem Inj.v7{j:Inj}{id g k:Nat}{pl:Pl}(h:j id g=some pl)(hk:pl.at=some k):j.atk id g=some k:=by grind [Inj.atk]
theorem Inj.BD{j:Inj}{id g k:Nat}(h:j.atk id g=some k):∃pl,j id g=some pl/\pl.at=some k:=by grind [Inj.atk,Option.bind_eq_some_iff]
inductive VC (σ:zP):Inj->Cl->Value->Prop where
 |bool (j:Inj) (b:Bool):VC σ j (.bool b) (.bool b)
 |int (j:Inj) (k:IntKind) (n:Int):VC σ j (.int k n) (.int k n)
 |str (j:Inj) (s:ByteArray):VC σ j (.str s) (.string s)
 |ptr (j:Inj) (id g i k:Nat) (L:Loc) (h:j id g=some (.loc L)):VC σ j (.ptr id g i k) (.pointer (some ⟨L.blk,L.off+i*L.esz+k,none⟩))
 |uQ (j:Inj) (row:List Cl) (k b o:Nat) (val:Nat->Value) (h1:∀(n:Nat) (c:Cl),row[n]?=some c->σ b (o+n)=some (val n))
   (h2:∀(n:Nat) (c:Cl),row[n]?=some c->VC σ zb1 c (val n)):VC σ j (.uQ row k) (.pointer (some ⟨b,o+k,none⟩))
 |kX (j:Inj):VC σ j .kX (.pointer none)
 |slice (j:Inj) (id g es off len:Nat) (cap:Option Nat) (pl:Pl) (a:Option Addr) (c:Nat) (h:j id g=some pl) (hl:len<=c) (hc:∀c',cap=some c'->c=c')
   (ha:c≠0->∃L,pl=.loc L/\L.esz=es/\a=some ⟨L.blk,L.off+off*L.esz,none⟩/\L.off+(off+c)*L.esz<=L.tot):VC σ j (.slice id g es off len cap) (.slice a len c)
 |jb (j:Inj) (esz:Nat) (rows:List (List Cl)) (a:Option Addr) (c b o:Nat) (val:Nat->Nat->Value)
   (hl:rows.length<=c) (ha:rows=[]\/a=some ⟨b,o,none⟩) (hr:∀row∈rows,row.length=esz)
   (h1:∀(i:Nat) (row:List Cl) (n:Nat) (cl:Cl),rows[i]?=some row->row[n]?=some cl->σ b (o+i*esz+n)=some (val i n))
   (h2:∀(i:Nat) (row:List Cl) (n:Nat) (cl:Cl),rows[i]?=some row->row[n]?=some cl->VC σ zb1 cl (val i n)):VC σ j (.jb rows) (.slice a rows.length c)
 |jc (j:Inj):VC σ j .jc (.slice none 0 0)
 |fn (j:Inj) (f:FuncId) (fi ca:List Cl) (fi' ca':Array Value) (l1:fi.length=fi'.toList.length) (l2:ca.length=ca'.toList.length)
   (h1:∀(n:Nat) (c:Cl) (v:Value),fi[n]?=some c->fi'.toList[n]?=some v->VC σ j c v) (h2:∀(n:Nat) (c:Cl) (v:Value),ca[n]?=some c->ca'.toList[n]?=some v->VC σ j c v) :
   VC σ j (.fn f fi ca) (.func (.func f) fi' ca')
 |qT (j:Inj):VC σ j .qT .nilFunc
 |yv (j:Inj) (t:TypeId) (c:Cl) (v:Value) (h:VC σ j c v):VC σ j (.iface t false [c]) (.iface t v)
 |yu (j:Inj) (t:TypeId) (cs:List Cl) (vs:Array Value) (l:cs.length=vs.toList.length) (h:∀(n:Nat) (c:Cl) (v:Value),cs[n]?=some c->vs.toList[n]?=some v->VC σ j c v) :
   VC σ j (.iface t true cs) (.iface t (.agg vs))
 |qA (j:Inj):VC σ j .qA .nilIface
 |yld (j:Inj) (id:Nat) (f:FuncId) (sh:List (Nat×Bool×Nat)) (l:Nat) (r:Loop) (h:j id 0=some (.rnd l r f sh)):VC σ j (.yld id f sh) (.func (.yield l) #[] #[])
 |qS (j:Inj):VC σ j .qS (.map none)
 |map (j:Inj) (id:Nat) (g:Bool) (l:Nat) (h:j id 0=some (.mp l g)):VC σ j (.map id g) (.map (some l))
 |mit (j:Inj) (id l:Nat) (h:j id 0=some (.mi l)):VC σ j (.mit id) (.pointer (some ⟨l,0,none⟩))
 |bsl (j:Inj) (id g i k es len cap:Nat) (L:Loc) (a:Addr) (h:j id g=some (.loc L)) (hl:len<=cap) (ha:cap≠0->a=⟨L.blk,L.off+i*L.esz+k,none⟩) :
   VC σ j (.bsl id g i k es len cap) (.slice (some a) len cap)
def zP.le(σ σ':zP):Prop:=∀b o v,σ b o=some v->σ' b o=some v
def Inj.le(j j':Inj):Prop:=∀id g pl,j id g=some pl->j' id g=some pl
theorem zP.le_refl(σ:zP):σ.le σ:=fun _ _ _ h=>h
theorem Inj.le_refl(j:Inj):j.le j:=fun _ _ _ h=>h
theorem zP.le_trans{a b c:zP}(h:a.le b)(h':b.le c):a.le c:=fun _ _ _ x=>h' _ _ _ (h _ _ _ x)
theorem Inj.le_trans{a b c:Inj}(h:a.le b)(h':b.le c):a.le c:=fun _ _ _ x=>h' _ _ _ (h _ _ _ x)
def zzX(j:Inj):zb1.le j:=fun _ _ _ h=>by grind [zb1]
theorem VC.mono{σ σ':zP}{j:Inj}{c:Cl}{v:Value}(hσ:σ.le σ')(h:VC σ j c v):∀{j':Inj},j.le j'->VC σ' j' c v:=by
 induction h with
 |bool=>grind [bool]
 |int=>intro j' _;exact .int _ _ _
 |str=>intro j' _;exact .str _ _
 |ptr j id g i k L h=>intro j' hj;exact .ptr _ _ _ _ _ _ (hj _ _ _ h)
 |uQ j row k b o val h1 h2 ih=>intro j' _;exact .uQ _ _ _ _ _ val (fun n c hn=>hσ _ _ _ (h1 n c hn)) (fun n c hn=>ih n c hn (Inj.le_refl _))
 |kX=>intro j' _;exact .kX _
 |slice j id g es off len cap pl a c h hl hc ha=>intro j' hj;exact .slice _ _ _ _ _ _ _ pl _ _ (hj _ _ _ h) hl hc ha
 |jb j esz rows a c b o val hl ha hr h1 h2 ih =>
  intro j' _;exact .jb _ esz _ _ _ b o val hl ha hr (fun i row n cl hi hn=>hσ _ _ _ (h1 i row n cl hi hn)) (fun i row n cl hi hn=>ih i row n cl hi hn (Inj.le_refl _))
 |jc=>intro j' _;exact .jc _
 |fn j f fi ca fi' ca' l1 l2 h1 h2 ih1 ih2=>intro j' hj;exact .fn _ _ _ _ _ _ l1 l2 (fun n c v hc hv=>ih1 n c v hc hv hj) (fun n c v hc hv=>ih2 n c v hc hv hj)
 |qT=>intro j' _;exact .qT _
 |yv j t c v h ih=>intro j' hj;exact .yv _ _ _ _ (ih hj)
 |yu j t cs vs l h ih=>intro j' hj;exact .yu _ _ _ _ l (fun n c v hc hv=>ih n c v hc hv hj)
 |qA=>intro j' _;exact .qA _
 |yld j id f sh l r h=>intro j' hj;exact .yld _ _ _ _ l r (hj _ _ _ h)
 |qS=>intro j' _;exact .qS _
 |map j id g l h=>intro j' hj;exact .map _ _ _ l (hj _ _ _ h)
 |mit j id l h=>intro j' hj;exact .mit _ _ l (hj _ _ _ h)
 |bsl j id g i k es len cap L a h hl ha=>intro j' hj;exact .bsl _ _ _ _ _ _ _ _ L a (hj _ _ _ h) hl ha
theorem VC.Bq{σ:zP}{j:Inj}{c:Cl}{v:Value}(h:VC σ zb1 c v):VC σ j c v:=h.mono (zP.le_refl _) (zzX _)
def VC.yH{σ:zP}{j:Inj}{c:Cl}{v:Value}(hn:zcl c=true)(h:VC σ j c v):VC σ zb1 c v:=by
 cases h with
 |bool=>grind [bool]
 |int=>exact .int _ _ _
 |str=>exact .str _ _
 |ptr=>grind [zcl]
 |uQ _ row k b o val h1 h2=>exact .uQ _ _ _ _ _ val h1 h2
 |kX=>exact .kX _
 |slice=>grind [zcl]
 |jb _ esz rows a c b o val hl ha hr h1 h2=>exact .jb _ esz _ _ _ b o val hl ha hr h1 h2
 |jc=>exact .jc _
 |fn _ f fi ca fi' ca' l1 l2 h1 h2 =>
  simp[zcl]at hn;exact .fn _ _ _ _ _ _ l1 l2 (fun n c v hc _=>by grind) (fun n c v hc _=>by grind)
 |qT=>exact .qT _
 |yv=>grind [zcl]
 |yu=>grind [zcl]
 |qA=>exact .qA _
 |yld=>grind [zcl]
 |qS=>exact .qS _
 |map=>grind [zcl]
 |mit=>grind [zcl]
 |bsl=>grind [zcl]
def VC.plain{σ σ':zP}{j j':Inj}{c:Cl}{v:Value}(hn:ztI c=true)(h:VC σ j c v):VC σ' j' c v:=by
 cases h<;>first |(simp[ztI]at hn;done) |constructor
def VC.one{σ:zP}{j:Inj}{c:Cl}{v:Value}(h:VC σ j c v):v.cells = #[v]:=by
 cases h<;>rfl
def VCs(σ:zP)(j:Inj)(cs:List Cl)(vs:List Value):Prop:=cs.length=vs.length/\∀(n:Nat) (c:Cl) (v:Value),cs[n]?=some c->vs[n]?=some v->VC σ j c v
theorem VCs.nil{σ:zP}{j:Inj}:VCs σ j [] []:=⟨rfl,fun n c v h=>by grind⟩
theorem VCs.cons{σ:zP}{j:Inj}{c:Cl}{cs:List Cl}{v:Value}{vs:List Value}(h:VC σ j c v)(hs:VCs σ j cs vs):VCs σ j (c::cs) (v::vs):=by
 refine⟨by simp[hs.1],fun n c' v' hc hv=>?_⟩;cases n with
 |zero=>grind
 |succ n=>exact hs.2 n c' v' hc hv
def VCs.kP{σ:zP}{j:Inj}{c:Cl}{cs:List Cl}{vs:List Value}(h:VCs σ j (c::cs) vs):∃v vs',vs=v::vs'/\VC σ j c v/\VCs σ j cs vs':=by
 obtain⟨hl,hh⟩:=h;cases vs with
 |nil=>grind
 |cons v vs'=>exact⟨v,vs',rfl,hh 0 c v rfl rfl,by grind,fun n c' v' hc hv=>hh (n+1) c' v' (by grind) (by grind)⟩
def VCs.vQ{σ:zP}{j:Inj}{vs:List Value}(h:VCs σ j [] vs):vs=[]:=by
 have:=h.1;grind
theorem VCs.mono{σ σ':zP}{j j':Inj}{cs:List Cl}{vs:List Value}(hσ:σ.le σ')(hj:j.le j')(h:VCs σ j cs vs):VCs σ' j' cs vs :=
 ⟨h.1,fun n c v hc hv=>(h.2 n c v hc hv).mono hσ hj⟩
theorem VCs.get{σ:zP}{j:Inj}{cs:List Cl}{vs:List Value}(h:VCs σ j cs vs){n:Nat}{c:Cl}(hc:cs[n]?=some c):∃v,vs[n]?=some v/\VC σ j c v:=by
 have hn':n<vs.length:=by rw[<-h.1];grind
 exact⟨vs[n],jq hn',h.2 n c _ hc (jq hn')⟩
def VCs.B0{σ:zP}{j:Inj}{cs:List Cl}{vs:List Value}(hl:cs.length=vs.length)(h:∀(n:Nat) (c:Cl),cs[n]?=some c->∃v,vs[n]?=some v/\VC σ j c v):VCs σ j cs vs :=
 ⟨hl,fun n c v hc hv=>by grind⟩
def VCs.append{σ:zP}{j:Inj}{cs ds:List Cl}{vs us:List Value}(h:VCs σ j cs vs)(h':VCs σ j ds us):VCs σ j (cs++ds) (vs++us):=by
 induction cs generalizing vs with
 |nil=>have:=h.vQ;grind
 |cons c cs ih =>
  obtain⟨v,vs',rfl,hv,hs⟩:=h.kP
  grind [VCs.cons]
def VCs.drop{σ:zP}{j:Inj}{cs:List Cl}{vs:List Value}(h:VCs σ j cs vs)(k:Nat):VCs σ j (cs.drop k) (vs.drop k) :=
 ⟨by simp[h.1],fun n c v hc hv=>h.2 (k+n) c v (by grind) (by grind)⟩
def VCs.take{σ:zP}{j:Inj}{cs:List Cl}{vs:List Value}(h:VCs σ j cs vs)(k:Nat):VCs σ j (cs.take k) (vs.take k):=by
 refine⟨by simp[h.1],fun n c v hc hv=>?_⟩;rw[vO]at hc hv;split at hc
 ·rename_i hn;rw[if_pos hn]at hv;exact h.2 n c v hc hv
 grind
def WVR(σ:zP)(j:Inj):WV->Value->Prop
 |.c x,v=>VC σ j x v
 |.a cs,v=>∃arr:Array Value,v=.agg arr/\VCs σ j cs arr.toList
theorem WVR.mono{σ σ':zP}{j j':Inj}{x:WV}{v:Value}(hσ:σ.le σ')(hj:j.le j')(h:WVR σ j x v):WVR σ' j' x v:=by
 cases x with
 |c x=>exact VC.mono hσ h hj
 |a cs=>obtain⟨arr,rfl,h⟩:=h;exact⟨arr,rfl,h.mono hσ hj⟩
theorem WVR.cells{σ:zP}{j:Inj}{x:WV}{v:Value}(h:WVR σ j x v):VCs σ j x.cells v.cells.toList:=by
 cases x with
 |c x=>rw[h.one];exact VCs.cons h VCs.nil
 |a cs=>obtain⟨arr,rfl,h⟩:=h;exact h
def WVR.BB{σ:zP}{j:Inj}{x:WV}{v:Value}(h:WVR σ j x v):v.cells.size=x.cells.length:=by
 have:=h.cells.1;grind
def WVR.Az{σ:zP}{j:Inj}{agg:Bool}{cs:List Cl}{x:WV}(vs:List Value)(h:VCs σ j cs vs)(hx:zaI agg cs=some x) :
  WVR σ j x (if agg then .agg vs.toArray else vs.headD undef):=by
 cases agg with
 |true=>simp[zaI]at hx;subst hx;exact⟨vs.toArray,wD,by grind⟩
 |false =>
  match cs,h,hx with
  |[c],h,hx =>
   simp[zaI]at hx;obtain⟨v,vs',rfl,hv,hs⟩:=h.kP
   grind [WVR]
def zac(σ:zP)(j:Inj)(xs:List WV)(vs:List Value):Prop:=xs.length=vs.length/\∀(n:Nat) (x:WV) (v:Value),xs[n]?=some x->vs[n]?=some v->WVR σ j x v
theorem zac.nil{σ:zP}{j:Inj}:zac σ j [] []:=⟨rfl,fun n c v h=>by grind⟩
theorem zac.cons{σ:zP}{j:Inj}{c:WV}{cs:List WV}{v:Value}{vs:List Value}(h:WVR σ j c v)(hs:zac σ j cs vs):zac σ j (c::cs) (v::vs):=by
 refine⟨by simp[hs.1],fun n c' v' hc hv=>?_⟩;cases n with
 |zero=>grind
 |succ n=>exact hs.2 n c' v' hc hv
def zac.kP{σ:zP}{j:Inj}{c:WV}{cs:List WV}{vs:List Value}(h:zac σ j (c::cs) vs):∃v vs',vs=v::vs'/\WVR σ j c v/\zac σ j cs vs':=by
 obtain⟨hl,hh⟩:=h;cases vs with
 |nil=>grind
 |cons v vs'=>exact⟨v,vs',rfl,hh 0 c v rfl rfl,by grind,fun n c' v' hc hv=>hh (n+1) c' v' (by grind) (by grind)⟩
def zac.vQ{σ:zP}{j:Inj}{vs:List Value}(h:zac σ j [] vs):vs=[]:=by
 have:=h.1;grind
theorem zac.mono{σ σ':zP}{j j':Inj}{cs:List WV}{vs:List Value}(hσ:σ.le σ')(hj:j.le j')(h:zac σ j cs vs):zac σ' j' cs vs :=
 ⟨h.1,fun n c v hc hv=>(h.2 n c v hc hv).mono hσ hj⟩
def zac.append{σ:zP}{j:Inj}{cs ds:List WV}{vs us:List Value}(h:zac σ j cs vs)(h':zac σ j ds us):zac σ j (cs++ds) (vs++us):=by
 induction cs generalizing vs with
 |nil=>have:=h.vQ;grind
 |cons c cs ih =>
  obtain⟨v,vs',rfl,hv,hs⟩:=h.kP
  grind [zac.cons]
theorem zac.get{σ:zP}{j:Inj}{cs:List WV}{vs:List Value}(h:zac σ j cs vs){n:Nat}{c:WV}(hc:cs[n]?=some c):∃v,vs[n]?=some v/\WVR σ j c v:=by
 have hn':n<vs.length:=by rw[<-h.1];grind
 exact⟨vs[n],jq hn',h.2 n c _ hc (jq hn')⟩
def AVR(σ:zP)(j:Inj):AV->Value->Prop
 |.w x,v=>WVR σ j x v
 |.t xs,v=>∃arr:Array Value,v=.tuple arr/\zac σ j xs arr.toList
 |.u,v=>v=undef
theorem AVR.mono{σ σ':zP}{j j':Inj}{x:AV}{v:Value}(hσ:σ.le σ')(hj:j.le j')(h:AVR σ j x v):AVR σ' j' x v:=by
 cases x with
 |w x=>exact WVR.mono hσ hj h
 |t xs=>obtain⟨arr,rfl,h⟩:=h;exact⟨arr,rfl,h.mono hσ hj⟩
 |u=>exact h
def GK [GlobP](σ:zP):Prop:=∀(g:Nat) (row:List Cl),GlobP.row g=some row->∀(n:Nat) (c:Cl),row[n]?=some c->∃v,σ g n=some v/\VC σ zb1 c v
theorem GK.mono [GlobP]{σ σ':zP}(h:GK σ)(hσ:σ.le σ'):GK σ':=fun g row hg n c hc=>by
 obtain⟨v,h1,h2⟩:=h g row hg n c hc;exact⟨v,hσ _ _ _ h1,h2.mono hσ (Inj.le_refl _)⟩
def zcs(σ:zP)(j:Inj)(E:Nat->Option AV)(tmps:Array Value):Prop:=∀n x,E n=some x->∃v,tmps[n]?=some v/\AVR σ j x v
theorem zcs.mono{σ σ':zP}{j j':Inj}{E:Nat->Option AV}{t:Array Value}(hσ:σ.le σ')(hj:j.le j')(h:zcs σ j E t):zcs σ' j' E t :=
 fun n x hx=>let ⟨v,hv,hr⟩:=h n x hx;⟨v,hv,hr.mono hσ hj⟩
def zDq(σ:zP)(jj:Inj)(b:Blk)(L:Loc)(C:Array Value):Prop :=
 ∀(i:Nat) (row:List Cl) (n:Nat) (cl:Cl),b.rows[i]?=some row->row[n]?=some cl->∃v,C[L.off+i*b.esz+n]?=some v/\VC σ jj cl v
structure BL(σ:zP)(j:Inj)(b:Blk)(L:Loc)(w:World):Prop where
 esz:L.esz=b.esz
 pos:0<b.esz
 len:∀row∈b.rows,row.length=b.esz
 fit:L.off+b.rows.length*b.esz<=L.tot
 heap:∃C T,w.heap[L.blk]?=some (.cells C T (0,0))/\C.size=L.tot/\zDq σ (if b.box then j else zb1) b L C
 A5:∀o,L.off<=o->(b.fz=true->L.off+b.rows.length*b.esz<=o)->σ L.blk o=none
def zfS(s:Int):LoopState:=if s=0 then .ready else if s=1 then .busy else if s=-1 then .exhausted else .done
def zqM(s:Int):Option Code:=match znr s with
 |some .ret=>some .ret
 |some (.exit id)=>some (.exit id)
 |_=>none
def zCb(tmps:Array Value):List (Nat×Bool×Nat)->List Value->Prop
 |[],_=>True
 |(n,g,k)::sh,vs=>(if g then tmps[n]?=some (.agg (vs.take k).toArray) else k=1/\tmps[n]?=vs[0]?)/\zCb tmps sh (vs.drop k)
structure RB [zb0](σ:zP)(j:Inj)(b:Blk)(l:Nat)(r:Loop)(f:FuncId)(sh:List (Nat×Bool×Nat))(w:World):Prop where
 box:b.box=true
 ok:zb0.ok f r
 st:∃s cells pd vs,b.rows=[.int .i64 s::cells]/\w.heap[l]?=some (.loop { r with state:=zfS s,pending:=pd })/\(s≠-1->pd=zqM s)/\VCs σ j cells vs/\zCb r.tmps sh vs
structure MB(σ:zP)(j:Inj)(b:Blk)(l:Nat)(g:Bool)(w:World):Prop where
 box:b.box=true
 st:∃(es:Array MapEntry) (clock:Nat) (R:List (List Cl)),w.heap[l]?=some (.map es clock)/\b.rows=[.int .i64 clock]::R/\R.length=es.toList.length /\
  ∀(i:Nat) (row:List Cl) (e:MapEntry),R[i]?=some row->es.toList[i]?=some e->∃k n vc x,row=.int .i64 e.born::.int k n::vc/\e.key=.int k n/\zaI g vc=some x/\WVR σ j x e.val
structure IB(σ:zP)(j:Inj)(b:Blk)(l:Nat)(w:World):Prop where
 box:b.box=true
 st:(w.heap[l]?=some (.mapIter none 0 #[] 0)/\b.rows=[[.qS]]) \/
  ∃id g m since last,j id 0=some (.mp m g)/\((w.heap[l]?=some (.mapIter (some m) since #[] last)/\b.rows=[[.map id g,.int .i64 since]]) \/
   ∃s:Nat,w.heap[l]?=some (.mapIter (some m) since #[s] last)/\b.rows=[[.map id g,.int .i64 since,.int .i64 s,.int .i64 last]])
theorem MB.mono{σ σ':zP}{j j':Inj}{b:Blk}{l:Nat}{g:Bool}{w w':World}(h:MB σ j b l g w)(hσ:σ.le σ')(hj:j.le j')(hw:w'.heap[l]?=w.heap[l]?):MB σ' j' b l g w':=by
 obtain⟨es,clock,R,h1,h2,h3,h4⟩:=h.st;refine⟨h.box,es,clock,R,by grind,h2,h3,fun i row e hi he=>?_⟩;obtain⟨k,n,vc,x,q1,q2,q3,q4⟩:=h4 i row e hi he;exact⟨k,n,vc,x,q1,q2,q3,q4.mono hσ hj⟩
theorem IB.mono{σ σ':zP}{j j':Inj}{b:Blk}{l:Nat}{w w':World}(h:IB σ j b l w)(hj:j.le j')(hw:w'.heap[l]?=w.heap[l]?):IB σ' j' b l w':=by
 refine⟨h.box,?_⟩;rcases h.st with⟨h1,h2⟩ |⟨id,g,m,since,last,h0,h⟩
 ·grind
 ·exact .inr ⟨id,g,m,since,last,hj _ _ _ h0,by grind⟩
def BR [zb0](σ:zP)(j:Inj)(b:Blk)(pl:Pl)(w:World):Prop :=
 match pl with
 |.empty=>b.rows=[]/\b.box=false
 |.loc L=>BL σ j b L w
 |.rnd l r f sh=>RB σ j b l r f sh w
 |.mp l g=>MB σ j b l g w
 |.mi l=>IB σ j b l w
structure MR [zb0](own:Nat->Prop)(σ:zP)(j:Inj)(M:Mem)(w:World):Prop where
 vF:∀(id:Nat) (b:Blk),M[id]?=some (some b)->∃pl,j id b.gen=some pl/\BR σ j b pl w/\(∀k,pl.at=some k->own k)
 vz:∀(id id':Nat) (b b':Blk) (k:Nat),M[id]?=some (some b)->M[id']?=some (some b')->j.atk id b.gen=some k->j.atk id' b'.gen=some k->id=id'
 dom:∀id g pl,j id g=some pl->∃b,M[id]?=some (some b)/\g<=b.gen
 okP:∀id g pl,j id g=some pl->pl.OK g
def MR.blk [zb0]{own:Nat->Prop}{σ:zP}{j:Inj}{M:Mem}{w:World}(hm:MR own σ j M w)(id:Nat)(b:Blk)(h:M[id]?=some (some b)):∃pl,j id b.gen=some pl/\BR σ j b pl w/\(∀L,pl=.loc L->own L.blk):=by
 obtain⟨pl,h1,h2,h3⟩:=hm.vF id b h;exact⟨pl,h1,h2,fun L e=>h3 _ (by rw[e];rfl)⟩
theorem MR.inj [zb0]{own:Nat->Prop}{σ:zP}{j:Inj}{M:Mem}{w:World}(hm:MR own σ j M w)(id id':Nat)(b b':Blk)(L L':Loc)(h1:M[id]?=some (some b))(h2:M[id']?=some (some b'))(h3:j id b.gen=some (.loc L))(h4:j id' b'.gen=some (.loc L'))(h5:L.blk=L'.blk):id=id' :=
 hm.vz id id' b b' L.blk h1 h2 (Inj.vI h3) (by grind [Inj.vI])
structure zM [zb0](σ:zP)(w:World):Prop where
 cells:∀b o v,σ b o=some v->w.cell? ⟨b,o,none⟩=some v
 kZ:GK σ
structure zd9 [zb0](w w':World):Prop where
 os:w'.os=w.os
 output:w'.output=w.output
 tape:w'.tape=w.tape
 drawn:zb0.asc->w.drawn<=w'.drawn
theorem zd9.refl [zb0](w:World):zd9 w w:=⟨rfl,rfl,rfl,fun _=>jm _⟩
theorem zd9.trans [zb0]{a b c:World}(h:zd9 a b)(h':zd9 b c):zd9 a c:=⟨by rw[h'.os,h.os],by rw[h'.output,h.output],by rw[h'.tape,h.tape],fun q=>jT (h.drawn q) (h'.drawn q)⟩
structure za2 [zb0](own:Nat->Prop)(k:Nat)(σ:zP)(j:Inj)(M:Mem)(w:World)(σ':zP)(j':Inj)(M':Mem)(w':World):Prop where
 sle:σ.le σ'
 jle:∀id g pl,id<k->j id g=some pl->j' id g=some pl
 size:w.heap.size<=w'.heap.size
 frame:∀b,b<w.heap.size->¬own b->w'.heap[b]?=w.heap[b]?
 BX:∀b o v,σ' b o=some v->σ b o=some v\/own b
 ue:∀(id:Nat) (b:Blk),id<k->M[id]?=some (some b)->∃b',M'[id]?=some (some b')/\b.ver<=b'.ver /\
  (b'.ver=b.ver->b'=b/\∀k,j.atk id b.gen=some k->w'.heap[k]?=w.heap[k]?)
 side:zd9 w w'
theorem za2.refl [zb0]{own:Nat->Prop}{k:Nat}{σ:zP}{j:Inj}{M:Mem}{w:World}:za2 own k σ j M w σ j M w :=
 ⟨zP.le_refl _,fun _ _ _ _ h=>h,jm _,fun _ _ _=>rfl,fun _ _ _ h=>.inl h,fun _ b _ h=>⟨b,h,jm _,fun _=>⟨rfl,fun _ _=>rfl⟩⟩,zd9.refl _⟩
theorem za2.trans [zb0]{own:Nat->Prop}{k:Nat}{σ σ' σ'':zP}{j j' j'':Inj}{M M' M'':Mem}{w w' w'':World}
  (h:za2 own k σ j M w σ' j' M' w') (h':za2 own k σ' j' M' w' σ'' j'' M'' w''):za2 own k σ j M w σ'' j'' M'' w'':=by
 refine⟨zP.le_trans h.sle h'.sle,fun id g pl hk hj=>h'.jle _ _ _ hk (h.jle _ _ _ hk hj),jT h.size h'.size,fun b hb ho=>?_,fun b o v hv=>?_,fun id b hk hb=>?_,h.side.trans h'.side⟩
 ·rw[h'.frame b (vM hb h.size) ho,h.frame b hb ho]
 ·rcases h'.BX b o v hv with h1|h1
  ·exact h.BX b o v h1
  grind
 ·obtain⟨b1,hb1,hv1,he1⟩:=h.ue id b hk hb;obtain⟨b2,hb2,hv2,he2⟩:=h'.ue id b1 hk hb1;refine⟨b2,hb2,jT hv1 hv2,fun hv=>?_⟩;have e1:b1.ver=b.ver:=wA
  have e2:b2.ver=b1.ver:=wA
  obtain⟨rfl,hh1⟩:=he1 e1;obtain⟨rfl,hh2⟩:=he2 e2;refine⟨rfl,fun L hL=>?_⟩;obtain⟨pl,hpl,hat⟩:=Inj.BD hL;rw[hh2 L (Inj.v7 (h.jle _ _ _ hk hpl) hat),hh1 L hL]
def za2.le [zb0]{own:Nat->Prop}{k k':Nat}{σ σ':zP}{j j':Inj}{M M':Mem}{w w':World}(hk:k'<=k)(h:za2 own k σ j M w σ' j' M' w'):za2 own k' σ j M w σ' j' M' w' :=
 ⟨h.sle,fun id g pl hi hj=>h.jle _ _ _ (vM hi hk) hj,h.size,h.frame,h.BX,fun id b hi hb=>h.ue id b (vM hi hk) hb,h.side⟩
def za2.uB [zb0]{own AN:Nat->Prop}{k:Nat}{σ σ':zP}{j j':Inj}{M M':Mem}{w w':World}(ho:∀b,own b->AN b)(h:za2 own k σ j M w σ' j' M' w'):za2 AN k σ j M w σ' j' M' w' :=
 ⟨h.sle,h.jle,h.size,fun b hb hn=>h.frame b hb (fun x=>hn (ho b x)),fun b o v hv=>(h.BX b o v hv).imp id (ho b),h.ue,h.side⟩
def za2.jle' [zb0]{own:Nat->Prop}{k:Nat}{σ σ':zP}{j j':Inj}{M M':Mem}{w w':World}(h:za2 own k σ j M w σ' j' M' w')(hm:MR own σ j M w)(hk:M.length<=k):j.le j':=by
 intro id g pl hj;obtain⟨b,hb,_⟩:=hm.dom id g pl hj;refine h.jle _ _ _ ?_ hj
 grind
def MR.lt [zb0]{own:Nat->Prop}{σ:zP}{j:Inj}{M:Mem}{w:World}(hm:MR own σ j M w){id g:Nat}{pl:Pl}(h:j id g=some pl):id<M.length:=by
 obtain⟨b,hb,_⟩:=hm.dom id g pl h
 grind
theorem zaz{M:Mem}{id g:Nat}{b:Blk}(h:look M id g=some b):M[id]?=some (some b)/\g=b.gen:=by
 grind [look]
theorem MR.cell [zb0]{own:Nat->Prop}{σ:zP}{j:Inj}{M:Mem}{w:World}(hm:MR own σ j M w){id:Nat}{b:Blk}{L:Loc}(hb:M[id]?=some (some b))(hL:j id b.gen=some (.loc L))
  {i n:Nat} {row:List Cl} {cl:Cl} (hi:b.rows[i]?=some row) (hn:row[n]?=some cl) :
  ∃v,w.cell? ⟨L.blk,L.off+i*L.esz+n,none⟩=some v/\VC σ j cl v/\VC σ (if b.box then j else zb1) cl v:=by
 obtain⟨pl,hpl,hbr,_⟩:=hm.blk id b hb;rw[hL]at hpl;cases hpl;obtain⟨C,T,hC,hs,hrow⟩:=hbr.heap;obtain⟨v,hv,hvc⟩:=hrow i row n cl hi hn;refine⟨v,?_,?_,hvc⟩
 ·simp[World.cell?,hC,hbr.esz,hv]
 grind [VC.Bq]
variable[zb0]
theorem BR.mono{σ σ':zP}{j j':Inj}{b:Blk}{pl:Pl}{w w':World}(h:BR σ j b pl w)(hσ:σ.le σ')(hj:j.le j')
  (hw:∀k,pl.at=some k->w'.heap[k]?=w.heap[k]?) (hs:∀L,pl=.loc L->∀o,σ L.blk o=none->L.off<=o->(b.fz=true->L.off+b.rows.length*b.esz<=o)->σ' L.blk o=none):BR σ' j' b pl w':=by
 cases pl with
 |empty=>exact h
 |loc L =>
  obtain⟨C,T,hC,hsz,hrow⟩:=h.heap;refine(⟨h.esz,h.pos,h.len,h.fit,⟨C,T,by rw[hw L.blk rfl];grind,hsz,?_⟩,fun o h1 h2=>hs L rfl o (h.A5 o h1 h2) h1 h2⟩:BL σ' j' b L w');intro i row n cl hi hn;obtain⟨v,hv,hvc⟩:=hrow i row n cl hi hn
  grind [VC.mono,Inj.le_refl]
 |rnd l r f sh =>
  obtain⟨s,cells,pd,vs,h1,h2,h3,h4,h5⟩:=h.st;exact(⟨h.box,h.ok,s,cells,pd,vs,h1,by rw[hw l rfl];grind,h3,h4.mono hσ hj,h5⟩:RB σ' j' b l r f sh w')
 |mp l g=>exact MB.mono (h:MB σ j b l g w) hσ hj (hw l rfl)
 |mi l=>exact IB.mono (h:IB σ j b l w) hj (hw l rfl)
def BR.OK{σ:zP}{j:Inj}{b:Blk}{pl:Pl}{w:World}(h:BR σ j b pl w)(h0:b.gen=0->∀L,pl=.loc L->L.off=0):pl.OK b.gen:=by
 cases pl with
 |rnd l r f sh=>exact(h:RB σ j b l r f sh w).ok
 |loc L=>exact fun q=>h0 q L rfl
 |_=>trivial
def MR.qY{own:Nat->Prop}{σ:zP}{j:Inj}{M:Mem}{w:World}(hm:MR own σ j M w){id:Nat}{b:Blk}{k:Nat}(hb:M[id]?=some (some b))(hk:j.atk id b.gen=some k):k<w.heap.size:=by
 obtain⟨pl,hpl,hbr,_⟩:=hm.vF id b hb;obtain⟨pl',yW,hat⟩:=Inj.BD hk;rw[hpl]at yW;cases yW;cases pl with
 |empty=>cases hat
 |loc L =>
  obtain⟨C,T,hC,_⟩:=(hbr:BL σ j b L w).heap;cases hat
  grind
 |rnd l r f sh =>
  obtain⟨s,cells,pd,vs,h1,h2,_⟩:=(hbr:RB σ j b l r f sh w).st;cases hat
  grind
 |mp l g =>
  obtain⟨es,clock,R,h2,_⟩:=(hbr:MB σ j b l g w).st;cases hat
  grind
 |mi l =>
  have hib:IB σ j b l w:=hbr;cases hat;rcases hib.st with⟨h1,_⟩ |⟨id,g,m,since,last,_,⟨h1,_⟩ |⟨s,h1,_⟩⟩<;>exact(jV.1 h1).1
def MR.Cy{own:Nat->Prop}{σ:zP}{j:Inj}{M:Mem}{w:World}(hm:MR own σ j M w){id:Nat}{b:Blk}{k:Nat}(hb:M[id]?=some (some b))(hk:j.atk id b.gen=some k):own k:=by
 obtain⟨pl,hpl,_,h⟩:=hm.vF id b hb
 grind [Inj.BD]
theorem MR.same{own:Nat->Prop}{σ:zP}{j:Inj}{M:Mem}{w w':World}(hm:MR own σ j M w)(h:w'.heap=w.heap):MR own σ j M w':=by
 refine⟨fun id b hb=>?_,hm.vz,hm.dom,hm.okP⟩;obtain⟨pl,h1,h2,h3⟩:=hm.vF id b hb;exact⟨pl,h1,h2.mono (zP.le_refl _) (Inj.le_refl _) (fun L _=>by rw[h]) (fun _ _ _ h _ _=>h),h3⟩
theorem zM.same{σ:zP}{w w':World}(hm:zM σ w)(h:w'.heap=w.heap):zM σ w':=by
 refine⟨?_,hm.kZ⟩;intro b o v hv;have:=hm.cells b o v hv;grind [World.cell?]
def zM.lt{σ:zP}{w:World}(hm:zM σ w){b o:Nat}{v:Value}(h:σ b o=some v):b<w.heap.size:=by
 have:=hm.cells b o v h
 grind [World.cell?,Array.getElem?_eq_some_iff]
def zM.AM{σ:zP}{w w':World}(hm:zM σ w)(h:∀b o v,σ b o=some v->w'.heap[b]?=w.heap[b]?):zM σ w':=by
 refine⟨?_,hm.kZ⟩;intro b o v hv;have:=hm.cells b o v hv
 grind [World.cell?]
def MR.write{own:Nat->Prop}{σ:zP}{j:Inj}{M:Mem}{w w':World}(hm:MR own σ j M w){id:Nat}{b b':Blk}{L:Loc}
  (hb:M[id]?=some (some b)) (hL:j id b.gen=some (.loc L)) (hg:b'.gen=b.gen) (hw:∀k,k≠L.blk->w'.heap[k]?=w.heap[k]?) (hbl:BL σ j b' L w') :
  MR own σ j (M.set id (some b')) w':=by
 have get:∀k x,(M.set id (some b'))[k]?=some (some x)->(k=id/\x=b')\/(k≠id/\M[k]?=some (some x)):=by
  grind
 refine⟨fun k x hx=>?_,fun k k' x x' q hx hx' hj hj'=>?_,fun k g pl hj=>?_,hm.okP⟩
 ·rcases get k x hx with⟨rfl,rfl⟩ |⟨hk,hx⟩
  ·obtain⟨pl,hpl,_,ho⟩:=hm.vF k b hb;rw[hL]at hpl;cases hpl;exact⟨.loc L,by grind,hbl,ho⟩
  ·obtain⟨pl,hpl,hbr,ho⟩:=hm.vF k x hx;refine⟨pl,hpl,hbr.mono (zP.le_refl _) (Inj.le_refl _) (fun q e=>?_) (fun _ _ _ h _ _=>h),ho⟩;refine hw _ (fun e'=>hk (hm.vz k id x b q hx hb (Inj.v7 hpl e) (by grind [Inj.vI])))
 ·rcases get k x hx with⟨rfl,rfl⟩ |⟨hk,hx1⟩<;>rcases get k' x' hx' with⟨rfl,rfl⟩ |⟨hk',B6⟩
  ·rfl
  ·rw[hg]at hj;exact hm.vz k k' b x' q hb B6 hj hj'
  ·rw[hg]at hj';exact hm.vz k k' x b q hx1 hb hj hj'
  ·exact hm.vz k k' x x' q hx1 B6 hj hj'
 ·obtain⟨x,hx,hgx⟩:=hm.dom k g pl hj
  grind
def Inj.put(j:Inj)(id g:Nat)(pl:Pl):Inj:=fun id' g'=>if id'=id/\g'=g then some pl else j id' g'
theorem Inj.uZ(j:Inj)(id g:Nat)(pl:Pl):j.put id g pl id g=some pl:=by simp[Inj.put]
theorem Inj.Bn(j:Inj){id g id' g':Nat}(pl:Pl)(h:¬(id'=id/\g'=g)):j.put id g pl id' g'=j id' g':=by simp[Inj.put,h]
def Inj.An{j:Inj}{id g:Nat}{pl:Pl}(h:j id g=none):j.le (j.put id g pl):=by
 intro id' g' pl' hh;rw[Inj.Bn]
 ·grind
 grind
def MR.renew{own:Nat->Prop}{σ:zP}{j:Inj}{M:Mem}{w w':World}(hm:MR own σ j M w){id:Nat}{b':Blk}{pl':Pl}(hlt:id<M.length)
  (hg:∀b,M[id]?=some (some b)->b.gen<b'.gen)
  (hw:∀k b q,k≠id->M[k]?=some (some b)->j.atk k b.gen=some q->w'.heap[q]?=w.heap[q]?/\pl'.at≠some q)
  (hbr:BR σ (j.put id b'.gen pl') b' pl' w') (ho:∀k,pl'.at=some k->own k) (h0:b'.gen=0->∀L,pl'=.loc L->L.off=0:=by intro q L e;cases e;try rfl) :
  j id b'.gen=none/\MR own σ (j.put id b'.gen pl') (M.set id (some b')) w':=by
 have u4:j id b'.gen=none:=by
  cases h:j id b'.gen with
  |none=>rfl
  |some pl =>
   obtain⟨b,hb,hgb⟩:=hm.dom id _ pl h
   grind
 have hle:=Inj.An (pl:=pl') u4;have get:∀k x,(M.set id (some b'))[k]?=some (some x)->(k=id/\x=b')\/(k≠id/\M[k]?=some (some x)):=by
  grind
 refine⟨u4,fun k x hx=>?_,fun k k' x x' q hx hx' hj hj'=>?_,fun k g pl hj=>?_,fun k g pl hj=>by
  by_cases hk:k=id/\g=b'.gen
  ·obtain⟨e1,e2⟩:=hk;subst e1 e2;rw[Inj.uZ]at hj;cases hj;exact hbr.OK h0
  ·rw[Inj.Bn _ _ hk]at hj;exact hm.okP k g pl hj⟩
 ·rcases get k x hx with⟨rfl,rfl⟩ |⟨hk,hx⟩
  ·grind [Inj.uZ]
  ·obtain⟨pl,hpl,hbx,hox⟩:=hm.vF k x hx;refine⟨pl,hle _ _ _ hpl,hbx.mono (zP.le_refl _) hle (fun q e=>?_) (fun _ _ _ h _ _=>h),hox⟩
   grind [Inj.v7]
 ·have ne:∀k,k≠id->∀g,(j.put id b'.gen pl').atk k g=j.atk k g:=fun k hk g=>by grind [Inj.atk,Inj.Bn]
  have same:(j.put id b'.gen pl').atk id b'.gen=pl'.at:=by simp[Inj.atk,Inj.uZ]
  rcases get k x hx with⟨rfl,rfl⟩ |⟨hk,hx1⟩<;>rcases get k' x' hx' with⟨rfl,rfl⟩ |⟨hk',B6⟩
  ·rfl
  ·grind
  ·grind
  ·rw[ne _ hk]at hj;rw[ne _ hk']at hj';exact hm.vz k k' x x' q hx1 B6 hj hj'
 ·by_cases hk:id=k
  ·subst hk;refine⟨b',by grind,?_⟩;by_cases hgg:g=b'.gen
   ·omega
   ·rw[Inj.Bn _ _ (fun h=>hgg h.2)]at hj;obtain⟨b,hb,hgb⟩:=hm.dom id g pl hj
    grind
  ·rw[Inj.Bn _ _ (fun h=>hk h.1.symm)]at hj;obtain⟨x,hx,hgx⟩:=hm.dom k g pl hj
   grind
theorem MR.qC{own:Nat->Prop}{σ:zP}{j:Inj}{M:Mem}{w:World}(hm:MR own σ j M w)(n:Nat):MR own σ j (M++qC n) w:=by
 have get:∀(k:Nat) (x:Blk),(M++Eng.qC n)[k]?=some (some x)->M[k]?=some (some x):=by
  grind [Eng.qC]
 refine⟨fun k x hx=>hm.vF k x (get k x hx),fun k k' x x' q hx hx'=>hm.vz k k' x x' q (get k x hx) (get k' x' hx'),fun k g pl hj=>?_,hm.okP⟩;obtain⟨b,hb,hgb⟩:=hm.dom k g pl hj
 grind
def zzu{M:Mem}{b:Blk}:(M++qC 1).set M.length (some b)=M++[some b]:=by
 simp[qC]
def MR.uB{own AN:Nat->Prop}{σ:zP}{j:Inj}{M:Mem}{w:World}(ho:∀b,own b->AN b)(hm:MR own σ j M w):MR AN σ j M w :=
 ⟨fun id b hb=>let ⟨pl,h1,h2,h3⟩:=hm.vF id b hb;⟨pl,h1,h2,fun L e=>ho _ (h3 L e)⟩,hm.vz,hm.dom,hm.okP⟩
def zd9.AK{w w':World}{C:Array Value}{T:TypeId}(h:w'.heap=w.heap.push (.cells C T (0,0)))(ho:w'.os=w.os)(hp:w'.output=w.output)(ht:w'.tape=w.tape:=by rfl)(hd:w.drawn<=w'.drawn:=by first |exact jm _ |exact kL _):zd9 w w':=by
 exact⟨ho,hp,ht,fun _=>hd⟩
def zd9.setRow(w:World)(g:Nat)(cs:Array Value):zd9 w (w.setRow g cs):=by
 exact⟨rfl,rfl,rfl,fun _=>jm _⟩
end Go.Eng
namespace Go.Eng
open Go
variable[zb0]
def za0(own:Nat->Prop)(σ:zP)(j:Inj)(M:Mem)(w:World)(av:AV)(M':Mem)(r:Result Value):Prop :=
 ∃v w' σ' j',r=.ok v w'/\AVR σ' j' av v/\zM σ' w'/\MR own σ' j' M' w'/\za2 own M.length σ j M w σ' j' M' w'
theorem za0.same{own:Nat->Prop}{σ:zP}{j:Inj}{M:Mem}{w:World}{av:AV}{v:Value}{r:Result Value}(hr:r=.ok v w)(ha:AVR σ j av v)(hg:zM σ w)(hm:MR own σ j M w) :
  za0 own σ j M w av M r:=⟨v,w,σ,j,hr,ha,hg,hm,za2.refl⟩
def za0.map{own:Nat->Prop}{σ:zP}{j:Inj}{M:Mem}{w:World}{av:AV}{M':Mem}{P:Program}{s:Sem Value}
  (h:za0 own σ j M w av M' (s.run P w)):∃v w' σ' j',(s.run P w)=.ok v w'/\AVR σ' j' av v/\zM σ' w'/\MR own σ' j' M' w'/\za2 own M.length σ j M w σ' j' M' w':=h
def zfc{P:Program}{t:TypeId}{g:Bool}(h:zeU P t=some g)(w:World):(isAgg t).run P w=.ok g w:=by
 unfold zeU at h;cases hd:P.underlying t with
 |none=>grind
 |some d=>rw[hd]at h;cases d<;>simp at h<;>subst h<;>simp[isAgg,run_underlying hd]
def zaJ{P:Program}{t:TypeId}{n:Nat}(h:zbL P t=some n)(w:World):(sizeOf t).run P w=.ok n w:=by
 unfold zbL at h;cases hd:P.info? t with
 |none=>grind
 |some d=>simp_all [sizeOf,typeInfo]
def ztA{P:Program}{t:TypeId}{i:TypeInfo}(h:P.info? t=some i)(w:World):(typeInfo t).run P w=.ok i w:=by
 simp[typeInfo,h]
def zru{σ:zP}{j:Inj}{v:Value}{c:Cl}(h:zAA v=some c):VC σ j c v:=by
 unfold zAA at h;split at h<;>first
  |(cases h;constructor)
  |grind
def zdu{σ:zP}{j:Inj}:∀{vs:List Value} {cs:List Cl},zpz vs=some cs->VCs σ j cs vs
 |[],cs,h=>by grind [zpz,VCs.nil]
 |v::vs,cs,h=>by
  unfold zpz at h;split at h
  ·rename_i c cs' hc hcs;cases h;exact VCs.cons (zru hc) (zdu hcs)
  grind
def zkd{σ:zP}{j:Inj}{v:Value}{x:WV}(h:zzh v=some x):WVR σ j x v:=by
 unfold zzh at h;split at h
 ·rename_i cs;cases hc:zpz cs.toList with
  |none=>grind
  |some l=>rw[hc]at h;cases h;exact⟨cs,rfl,zdu hc⟩
 ·cases hc:zAA v with
  |none=>grind
  |some l=>rw[hc]at h;cases h;exact zru hc
section
variable{own:Nat->Prop}{σ:zP}{j:Inj}{M:Mem}{w:World}{E:Nat->Option AV}{a:Act}{P:Program}
def zqt(hE:zcs σ j E a.tmps){n:Nat}{x:AV}(h:E n=some x):AVR σ j x (a.eval (.tmp n)):=by
 obtain⟨v,hv,hr⟩:=hE n x h;have:a.eval (.tmp n)=v:=by simp[Act.eval,qn,hv]
 grind
def zq7(hG:GK σ){g:Nat}{row:List Cl}(h:GlobP.row g=some row):VC σ j (.uQ row 0) (a.eval (.global g)):=by
 have hk:=hG g row h;have:=VC.uQ (σ:=σ) j row 0 g 0 (fun n=>(σ g (0+n)).getD undef) (fun n c hc=>by grind) (fun n c hc=>by grind);exact this
theorem zWl(hG:GK σ)(hE:zcs σ j E a.tmps){x:Operand}{o:Opd}{y:WV}(ho:za5 x=some o)(hy:o.ev E=some y):WVR σ j y (a.eval x):=by
 cases x with
 |tmp t =>
  simp only[za5,ji]at ho;subst ho;simp only[Opd.ev]at hy;split at hy
  ·rename_i x hx;cases hy;exact zqt hE hx
  grind
 |const v =>
  simp only[za5,ja]at ho;obtain⟨z,hz,rfl⟩:=ho;simp only[Opd.ev,ji]at hy;subst hy;exact zkd hz
 |global g =>
  simp only[za5,ja]at ho;obtain⟨row,hrow,rfl⟩:=ho;simp only[Opd.ev,ji]at hy;subst hy;exact zq7 hG hrow
 |func f =>
  simp only[za5,ji]at ho;subst ho;simp only[Opd.ev,ji]at hy;subst hy;exact .fn _ _ _ _ _ _ rfl rfl (fun n c v hc _=>by grind) (fun n c v hc _=>by grind)
def ztM(hG:GK σ)(hE:zcs σ j E a.tmps){x:Operand}{o:Opd}{y:AV}(ho:za5 x=some o)(hy:o.av E=some y):AVR σ j y (a.eval x):=by
 cases x with
 |tmp t =>
  simp only[za5,ji]at ho;subst ho;obtain⟨v,hv,hr⟩:=hE t y hy;have:a.eval (.tmp t)=v:=by simp[Act.eval,qn,hv]
  grind
 |const v =>
  simp only[za5,ja]at ho;obtain⟨z,hz,rfl⟩:=ho;simp only[Opd.av,ji]at hy;subst hy;exact zkd hz
 |global g =>
  simp only[za5,ja]at ho;obtain⟨row,hrow,rfl⟩:=ho;simp only[Opd.av,ji]at hy;subst hy;exact zq7 (σ:=σ) hG hrow
 |func f =>
  simp only[za5,ji]at ho;subst ho;simp only[Opd.av,ji]at hy;subst hy;exact .fn _ _ _ _ _ _ rfl rfl (fun n c v hc _=>by grind) (fun n c v hc _=>by grind)
def zbr(hG:GK σ)(hE:zcs σ j E a.tmps):∀{xs:List Operand} {os:List Opd} {ys:List WV},zdB xs=some os->evs E os=some ys->zac σ j ys (xs.map a.eval)
 |[],os,ys,ho,hy=>by grind [zdB,Option.some.injEq,evs,zac.nil]
 |x::xs,os,ys,ho,hy=>by
  simp only[zdB]at ho;split at ho
  ·rename_i c cs hc hcs;cases ho;simp only[evs]at hy;split at hy
   ·rename_i v vs hv hvs;cases hy;exact zac.cons (zWl hG hE hc hv) (zbr hG hE hcs hvs)
   grind
  grind
def zh1{cs:List Cl}{f:Nat->Option Value}(h:∀(m:Nat) (c:Cl),cs[m]?=some c->∃v,f m=some v/\VC σ j c v) :
  ∃vs,VCs σ j cs vs/\∀(m:Nat) (v:Value),vs[m]?=some v->f m=some v:=by
 refine⟨(List.range cs.length).map fun m=>(f m).getD undef,VCs.B0 wD (fun n c hc=>?_),fun m v hv=>?_⟩
 ·grind
 ·rcases qG m cs.length with hm|hm
  ·obtain⟨v',hv',_⟩:=h m _ (jq hm)
   grind
  grind
def zmL{row cs:List Cl}{k n:Nat}(h:cut row k n=some cs):cs.length=n/\k+n<=row.length/\∀(m:Nat) (c:Cl),cs[m]?=some c->row[k+m]?=some c:=by
 grind [cut]
def ze3{t:TypeId}{agg:Bool}{size:Nat}{cs:List Cl}{vs:List Value}{x:WV}(hg:zeU P t=some agg)(hs:zbL P t=some size)
  (hn:cs.length=if agg then size else 1) (hv:VCs σ j cs vs) (hx:zaI agg cs=some x) {b o:Nat} (hc:∀(m:Nat) (v:Value),vs[m]?=some v->w.cell? ⟨b,o+m,none⟩=some v) :
  (loadVar t ⟨b,o,none⟩).run P w=.ok (if agg then .agg vs.toArray else vs.headD undef) w:=by
 cases agg with
 |true =>
  simp only[if_true]at hn;have hl:vs.length=size:=by rw[<-hv.1,hn]
  have:=run_loadCells_list (P:=P) w ⟨b,o,none⟩ vs (fun m v h=>by grind [Addr.add_lit])
  simp_all [loadVar,zfc,zaJ]
 |false =>
  match cs,hv,hx with
  |[c],hv,hx =>
   obtain⟨v,vs',rfl,h1,h2⟩:=hv.kP;have h0:=hc 0 v rfl
   simp_all [uL,loadVar,zfc]
def zyC{t:TypeId}{agg:Bool}{size:Nat}{p:Cl}{v:Value}{av:AV}{M':Mem}{fp:FP}(hg:zeU P t=some agg)(hs:zbL P t=some size)
  (h:zdZ M agg (if agg then size else 1) p=some (av,M',fp)) (hv:VC σ j p v) (hag:zM σ w) (hm:MR own σ j M w) :
  za0 own σ j M w av M' ((Instr.loadAt t v).run P w):=by
 unfold zdZ at h;split at h
 ·rename_i id g i k;cases hv with
  |ptr _ _ _ _ _ L hL =>
   split at h
   ·rename_i b hb0;obtain⟨hb,Bb⟩:=zaz hb0;subst Bb;split at h
    ·rename_i row hrow;split at h
     ·rename_i cs hcs;obtain⟨hl,hk,kY⟩:=zmL hcs;simp only[ja]at h;obtain⟨x,hx,he⟩:=h;cases he;obtain⟨vs,hvs,hcell⟩:=zh1 (σ:=σ) (j:=j) (cs:=cs) (f:=fun m=>w.cell? ⟨L.blk,L.off+i*L.esz+k+m,none⟩) (fun m c hc=>by
       obtain⟨v,h1,h2,_⟩:=hm.cell hb hL hrow (kY m c hc)
       grind)
      have:=ze3 (P:=P) (w:=w) hg hs hl hvs hx hcell;exact za0.same (by grind [Instr.loadAt,Instr.sureAddr]) (WVR.Az vs hvs hx) hag hm
     grind
    grind
   grind
 ·rename_i row k;cases hv with
  |uQ _ _ _ b o val h1 h2 =>
   split at h
   ·rename_i cs hcs;obtain⟨hl,hk,kY⟩:=zmL hcs;simp only[ja]at h;obtain⟨x,hx,he⟩:=h;cases he;obtain⟨vs,hvs,hcell⟩:=zh1 (σ:=σ) (j:=j) (cs:=cs) (f:=fun m=>w.cell? ⟨b,o+k+m,none⟩) (fun m c hc=>by
     refine⟨val (k+m),?_,VC.Bq (h2 _ _ (kY m c hc))⟩;rw[qf];exact hag.cells _ _ _ (h1 _ _ (kY m c hc)))
    have:=ze3 (P:=P) (w:=w) hg hs hl hvs hx hcell;exact za0.same (by grind [Instr.loadAt,Instr.sureAddr]) (WVR.Az vs hvs hx) hag hm
   grind
 grind
end
end Go.Eng
namespace Go.Eng
open Go
variable[zb0]
section
variable{own:Nat->Prop}{σ:zP}{j:Inj}{M:Mem}{w:World}{E:Nat->Option AV}{a:Act}{P:Program}
theorem zef{k:IntKind}{n:Int}{v:Value}(h:VC σ j (.int k n) v):v=.int k n:=by cases h;rfl
def zmx{b:Bool}{v:Value}(h:VC σ j (.bool b) v):v=.bool b:=by cases h;rfl
def zAI{op:BinOp}{t:TypeId}{xo yo:Operand}{x y c:Cl}{vx vy:Value}(h:zBR op x y=some c)(hx:VC σ j x vx)(hy:VC σ j y vy) :
  ∃v,(do eqGuard op t xo yo vx vy;binOp op t vx vy:Sem Value).run P w=.ok v w/\VC σ j c v:=by
 unfold zBR at h;split at h
 ·obtain rfl:=zef hx;obtain rfl:=zef hy;split at h
  ·split at h
   ·grind
   ·rename_i h0;cases h;refine⟨_,?_,.int _ _ _⟩;simp[eqGuard,binOp,Op.shift,h0]
  ·split at h
   ·grind
   ·rename_i h0;cases h;refine⟨_,?_,.int _ _ _⟩;simp[eqGuard,binOp,Op.shift,h0]
  ·rename_i hs1 hs2;split at h
   ·rename_i hk;subst hk;cases op<;>simp only[zCG]at h<;>first
     |(done)
     |(exact absurd rfl hs1)
     |(exact absurd rfl hs2)
     |(cases h;refine⟨_,?_,.int _ _ _⟩;simp[eqGuard,binOp,Op.intArith];done)
     |(cases h;refine⟨_,?_,.bool _ _⟩;simp[eqGuard,binOp,Op.intCmp])
     |(cases h;refine⟨_,?_,.int _ _ _⟩;simp[eqGuard,binOp,Op.intBits])
     |(split at h
       ·grind
       ·rename_i h0;cases h;refine⟨_,?_,.int _ _ _⟩;simp[eqGuard,binOp,Op.intDiv,h0])
   grind
 grind
def Dm{op:BinOp}{t:TypeId}{xo yo:Operand}{x y:ByteArray}{c:Cl}(h:Dn op x y=some c) :
  ∃v,(do eqGuard op t xo yo (.string x) (.string y);binOp op t (.string x) (.string y):Sem Value).run P w=.ok v w/\VC σ j c v:=by
 unfold Dn at h;split at h
 ·split at h
  ·grind
  ·cases h;refine⟨_,?_,.str _ _⟩;have hm:IntKind.i64.max=9223372036854775807:=rfl;simp[eqGuard,binOp,Op.stringOp];omega
 all_goals first
  |(cases h;done)
  |(cases h;refine⟨_,?_,.bool _ _⟩;simp[eqGuard,binOp,Op.stringOp])
def zxt{k:P1}{v:WV}{r:AV}{u:Value}(h:p1F k v=some r)(hv:WVR σ j v u):match (generalizing:=false) k with
  |.B4 t=>r≠.u/\AVR σ j r (.iface t u)
  |.BW ok t z=>∃t' u',(u=.iface t' u'/\((t'=t/\AVR σ j r (if ok then .tuple #[u',.bool true] else u'))\/(t'≠t/\ok=true/\r=.t [z,.c (.bool false)])))\/(u=.nilIface/\ok=true/\r=.t [z,.c (.bool false)]):=by
 cases k with
 |B4 t =>
  cases v with
  |c x=>cases h;exact⟨wD,VC.yv _ t x u hv⟩
  |a cs =>
   cases h;obtain⟨arr,rfl,hs⟩:=hv;exact⟨wD,VC.yu _ t cs arr hs.1 hs.2⟩
 |BW ok t z =>
  cases v with
  |a cs=>cases h
  |c x =>
   cases x with
   |iface t' agg cs =>
    have key:∃u',u=.iface t' u'/\∀x,zaI agg cs=some x->WVR σ j x u':=by
     cases hv with
     |yv _ _ c v hc=>exact⟨v,rfl,fun x hx=>by simp[zaI]at hx;subst hx;exact hc⟩
     |yu _ _ _ vs l hs=>exact⟨.agg vs,rfl,fun x hx=>by simp[zaI]at hx;subst hx;exact⟨vs,rfl,l,hs⟩⟩
    obtain⟨u',rfl,hk⟩:=key;simp only[p1F]at h;split at h
    ·rename_i ht;split at h
     ·rename_i x hx;cases h;refine⟨t',u',.inl ⟨rfl,.inl ⟨ht,?_⟩⟩⟩;cases ok with
      |true=>exact⟨_,rfl,zac.cons (hk x hx) (zac.cons (show WVR σ j (.c (.bool true)) _ from .bool _ _) zac.nil)⟩
      |false=>exact hk x hx
     grind
    grind
   |qA =>
    cases hv;simp only[p1F]at h;split at h
    ·rename_i hok;cases h;exact⟨0,.nilIface,.inr ⟨rfl,hok,rfl⟩⟩
    ·cases h
   |_=>cases h
def zqx(t:TypeId)(a b:Bool)(w:World)(h:P.underlying t=some .bool):(Op.equal t (.bool a) (.bool b)).run P w=.ok (a==b) w :=
 run_equalIn_bool' w 9999 t a b h
def zpL(d:Nat)(t e:TypeId)(p:Option Addr)(w:World)(h:P.underlying t=some (.pointer e)):(Op.equalIn (d+1) t (.pointer p) (.pointer none)).run P w=.ok p.isNone w:=by
 cases p<;>simp[Op.equalIn,run_underlying h]
def zjb(t e:TypeId)(p:Option Addr)(w:World)(h:P.underlying t=some (.pointer e)):(Op.equal t (.pointer p) (.pointer none)).run P w=.ok p.isNone w :=
 zpL 9999 t e p w h
def zvo{op:BinOp}{neg:Bool}{t:TypeId}{xo yo:Operand}{x y c:Cl}{vx vy:Value}(ht:P.underlying t=some .bool)(hop:(op=.eql/\neg=false)\/(op=.neq/\neg=true))(h:zBL neg x y=some c)
  (hx:VC σ j x vx) (hy:VC σ j y vy):∃v,(do eqGuard op t xo yo vx vy;binOp op t vx vy:Sem Value).run P w=.ok v w/\VC σ j c v:=by
 unfold zBL at h;split at h
 ·cases h;obtain rfl:=zmx hx;obtain rfl:=zmx hy;refine⟨_,?_,.bool _ _⟩;rcases hop with⟨rfl,rfl⟩ |⟨rfl,rfl⟩<;>simp[eqGuard,binOp,zqx _ _ _ _ ht]
 grind
def zq0{op:BinOp}{neg:Bool}{t e:TypeId}{xo yo:Operand}{x c:Cl}{vx:Value}(ht:P.underlying t=some (.pointer e))(hop:(op=.eql/\neg=false)\/(op=.neq/\neg=true))(h:zBB neg x=some c)
  (hx:VC σ j x vx):∃v,(do eqGuard op t xo yo vx (.pointer none);binOp op t vx (.pointer none):Sem Value).run P w=.ok v w/\VC σ j c v:=by
 unfold zBB at h;split at h
 ·cases h;cases hx;refine⟨_,?_,.bool _ _⟩;rcases hop with⟨rfl,rfl⟩ |⟨rfl,rfl⟩<;>simp[eqGuard,binOp,zjb _ _ _ _ ht]
 ·cases h;cases hx;refine⟨_,?_,.bool _ _⟩;rcases hop with⟨rfl,rfl⟩ |⟨rfl,rfl⟩<;>simp[eqGuard,binOp,zjb _ _ _ _ ht]
 ·cases h;cases hx;refine⟨_,?_,.bool _ _⟩;rcases hop with⟨rfl,rfl⟩ |⟨rfl,rfl⟩<;>simp[eqGuard,binOp,zjb _ _ _ _ ht]
 grind
def zmc:∀(ss:List Bool) (as bs:List Cl) (ss':List Bool) (as' bs':List Cl),as.length=ss.length->bs.length=ss.length->zbM (ss++ss') (as++as') (bs++bs')=match zbM ss as bs with
  |some true=>zbM ss' as' bs'
  |r=>r
 |[],[],[],ss',as',bs',_,_=>by simp[zbM]
 |s::ss,x::as,y::bs,ss',as',bs',h,h'=>by
  simp only[jh,zbM];cases zue s x y with
  |none=>rfl
  |some r=>cases r with
   |true=>exact zmc ss as bs ss' as' bs' (by grind) (by grind)
   |false=>rfl
 |[],[],_::_,_,_,_,_,h=>by grind
 |[],_::_,_,_,_,_,h,_=>by grind
 |_::_,[],_,_,_,_,h,_=>by grind
 |_::_,_::_,[],_,_,_,_,h=>by grind
def ztc{t:TypeId}{d:Nat}{s:Bool}{x y:Cl}{vx vy:Value}{r:Bool}(ht:if s then P.underlying t=some .bool else ∃k,P.underlying t=some (.int k))(h:zue s x y=some r)
  (hx:VC σ j x vx) (hy:VC σ j y vy):(Op.equalIn (d+1) t vx vy).run P w=.ok r w:=by
 unfold zue at h;split at h
 ·split at h
  ·obtain rfl:=zef hx;obtain rfl:=zef hy
   grind [run_equalIn_int]
  grind
 ·obtain rfl:=zmx hx;obtain rfl:=zmx hy
  grind [run_equalIn_bool']
 grind
def VCs.split{ss:Nat}{cs:List Cl}{vs:List Value}(h:VCs σ j cs vs)(hl:ss<=cs.length):VCs σ j (cs.take ss) (vs.take ss)/\VCs σ j (cs.drop ss) (vs.drop ss):=⟨h.take ss,h.drop ss⟩
def zA8(P:Program)(d:Nat)(t:TypeId)(sh:List Bool):Prop :=
 0<sh.length/\((zeU P t=some true/\zbL P t=some sh.length/\∀(σ:zP) (j:Inj) (w:World) (as bs:List Cl) (va vb:List Value) (r:Bool),VCs σ j as va->VCs σ j bs vb->as.length=sh.length->bs.length=sh.length->zbM sh as bs=some r ->
  (Op.equalIn d t (.agg va.toArray) (.agg vb.toArray)).run P w=.ok r w) \/
 (zeU P t=some false/\∃s,sh=[s]/\∀(σ:zP) (j:Inj) (w:World) (x y:Cl) (vx vy:Value) (r:Bool),VC σ j x vx->VC σ j y vy->zue s x y=some r->(Op.equalIn d t vx vy).run P w=.ok r w))
def znb{d:Nat}{flat:TypeId->Option (List Bool)}(hflat:∀t sh,flat t=some sh->zA8 P d t sh):∀(fs:List Field) (off:Nat) (sh:List Bool),zrc flat fs off=some sh ->
  ∀(as bs:List Cl) (va vb:List Value) (r:Bool) (w:World),VCs σ j as va->VCs σ j bs vb->as.length=off+sh.length->bs.length=off+sh.length->zbM sh (as.drop off) (bs.drop off)=some r ->
  (Op.eqFields d va.toArray vb.toArray fs).run P w=.ok r w
 |[],off,sh,h,as,bs,va,vb,r,w,ha,hb,hla,hlb,he=>by
  simp_all [zrc,ji,uc,zbM,Op.eqFields]
 |f::fs,off,sh,h,as,bs,va,vb,r,w,ha,hb,hla,hlb,he=>by
  simp only[zrc]at h;split at h
  ·rename_i s1 hs1;split at h
   ·rename_i yJ;simp only[jk,bne_iff_ne,ne_eq,decide_eq_true_eq]at yJ;obtain⟨CS,CG⟩:=yJ;simp only[ja]at h;obtain⟨s2,hs2,rfl⟩:=h;obtain⟨uo,hok⟩:=hflat _ _ hs1;simp only[jF]at hla hlb;have e1:as.drop off=(as.drop off).take s1.length++as.drop (off+s1.length):=by rw[<-yO,ki]
    have e2:bs.drop off=(bs.drop off).take s1.length++bs.drop (off+s1.length):=by rw[<-yO,ki]
    have l1:((as.drop off).take s1.length).length=s1.length:=by grind
    have l2:((bs.drop off).take s1.length).length=s1.length:=by grind
    rw[e1,e2,zmc _ _ _ _ _ _ l1 l2]at he;have q1:=(ha.drop off).take s1.length;have q2:=(hb.drop off).take s1.length;have hrest:∀w,zbM s2 (as.drop (off+s1.length)) (bs.drop (off+s1.length))=some r->(Op.eqFields d va.toArray vb.toArray fs).run P w=.ok r w :=
     fun w h=>znb hflat fs (off+s1.length) s2 hs2 as bs va vb r w ha hb wA wA h
    have key:∃x y b,(part f.type va.toArray f.offset).run P w=.ok x w/\(part f.type vb.toArray f.offset).run P w=.ok y w/\zbM s1 ((as.drop off).take s1.length) ((bs.drop off).take s1.length)=some b /\
      (Op.equalIn d f.type x y).run P w=.ok b w:=by
     have hb':∃b,zbM s1 ((as.drop off).take s1.length) ((bs.drop off).take s1.length)=some b:=by
      grind
     obtain⟨b,hb'⟩:=hb';rcases hok with⟨hg,hsz,ve⟩ |⟨hg,s,rfl,ve⟩
     ·refine⟨_,_,b,?_,?_,hb',ve σ j w _ _ _ _ b q1 q2 l1 l2 hb'⟩
      ·simp[part,zfc hg,zaJ hsz,CG]
      ·simp[part,zfc hg,zaJ hsz,CG]
     ·have la:off<as.length:=by simp at hla;omega
      have lb:off<bs.length:=by simp at hlb;omega
      have ea:(as.drop off).take 1=[as[off]]:=by rw[jv la];rfl
      have eb:(bs.drop off).take 1=[bs[off]]:=by rw[jv lb];rfl
      obtain⟨x,hx,hxr⟩:=ha.get (jq la);obtain⟨y,hy,hyr⟩:=hb.get (jq lb);have hb2:=hb';simp only[List.length_singleton,ea,eb,zbM]at hb2;have hb3:zue s as[off] bs[off]=some b:=by
       cases hq:zue s as[off] bs[off]with
       |none=>rw[hq]at hb2;cases hb2
       |some q=>rw[hq]at hb2;cases q<;>simpa using hb2
      refine⟨x,y,b,?_,?_,hb',ve σ j w _ _ _ _ b hxr hyr hb3⟩
      ·simp[part,zfc hg,CG,hx]
      ·simp[part,zfc hg,CG,hy]
    obtain⟨x,y,b,k1,k2,k3,k4⟩:=key;rw[k3]at he;simp only[Op.eqFields,ne_eq,CS,not_false_eq_true,if_true,Sem.run_bind,k1,k2,k4,Result.andThen_ok];cases b with
    |true=>simpa using hrest w he
    |false=>simp only[ji]at he;subst he;simp
   grind
  grind
def zs8:∀(d:Nat) (t:TypeId) (sh:List Bool),zvm P d t=some sh->zA8 P d t sh
 |0,t,sh,h=>by grind [zvm]
 |d+1,t,sh,h=>by
  simp only[zvm]at h;split at h
  ·cases h;exact⟨wD,.inr ⟨by grind [zeU],false,rfl,fun σ j w x y vx vy r hx hy he=>ztc (by grind) he hx hy⟩⟩
  ·cases h;exact⟨wD,.inr ⟨by grind [zeU],true,rfl,fun σ j w x y vx vy r hx hy he=>ztc (by grind) he hx hy⟩⟩
  ·rename_i fs hk;split at h
   ·grind
   ·split at h
    ·rename_i s hs;split at h
     ·rename_i hsz;cases h;have hfo:P.fieldsOf t=fs:=by grind [Program.fieldsOf]
      refine⟨hsz.2,.inl ⟨by grind [zeU],hsz.1,fun σ j w as bs va vb r ha hb hla hlb he=>?_⟩⟩;rw[run_equalIn_struct w d t _ _ (by grind) (by grind),hfo];exact znb (fun t sh h=>zs8 d t sh h) fs.toList 0 sh hs as bs va vb r w ha hb (by grind) (by grind) (by grind)
     grind
    grind
  grind
end
end Go.Eng
namespace Go.Eng
open Go
variable[zb0]
theorem zdb{α:Type}(l vs:List α)(o:Nat)(h:o+vs.length<=l.length)(p:Nat) :
  (l.take o++vs++l.drop (o+vs.length))[p]?=if p<o then l[p]? else if p<o+vs.length then vs[p-o]? else l[p]?:=by
 grind
def znl{i i' esz n n':Nat}(hne:i≠i')(hn:n<esz)(hn':n'<esz):i*esz+n≠i'*esz+n':=by
 rcases Nat.lt_or_gt_of_ne hne with hlt|hlt
 ·have:=kh esz (yU hlt)
  grind
 ·have:=kh esz (yU hlt)
  grind
def zjf{i k esz:Nat}(h:i<k):i*esz+esz<=k*esz:=by
 have:=kh esz (yU h)
 grind
theorem zC{α:Type}{l:List α}{i:Nat}{x:α}(h:l[i]?=some x):i<l.length:=by
 grind
def zat{α:Type}{l:List α}{i:Nat}{x:α}(h:l[i]?=some x):x∈l:=kF h
def VC.BZ{σ:zP}{j:Inj}{c:Cl}{v:Value}(h:VC σ j c v):v.oneCell'=true:=by
 cases h<;>rfl
def VCs.one{σ:zP}{j:Inj}{cs:List Cl}{vs:List Value}(h:VCs σ j cs vs):∀v∈vs,v.oneCell'=true:=by
 intro v hv;obtain⟨n,hn⟩:=j7 hv;have hl:=zC hn;rw[<-h.1]at hl;exact(h.2 n _ v (jq hl) hn).BZ
section
variable{own:Nat->Prop}{σ:zP}{j:Inj}{M:Mem}{w:World}{E:Nat->Option AV}{a:Act}{P:Program}
def zng{row A6 cs:List Cl}{k:Nat}(h:AS row k cs=some A6):k+cs.length<=row.length/\A6.length=row.length /\
  ∀(p:Nat) (c:Cl),A6[p]?=some c->(k<=p/\p<k+cs.length/\cs[p-k]?=some c)\/((p<k\/k+cs.length<=p)/\row[p]?=some c):=by
 grind [AS,zdb]
def zuF{id i k:Nat}{b:Blk}{L:Loc}{row A6 cs:List Cl}{vs:List Value}(hm:MR own σ j M w)(hag:zM σ w)(hb:M[id]?=some (some b))(hL:j id b.gen=some (.loc L))(hfz:b.fz=false)
  (hrow:b.rows[i]?=some row) (hsp:AS row k cs=some A6) (hv:VCs σ (if b.box then j else zb1) cs vs) :
  ∃w',(storeCells ⟨L.blk,L.off+i*L.esz+k,none⟩ vs).run P w=.ok () w'/\zM σ w'/\MR own σ j (M.set id (some { b with rows:=b.rows.set i A6,ver:=b.ver+1 })) w' /\
   za2 own M.length σ j M w σ j (M.set id (some { b with rows:=b.rows.set i A6,ver:=b.ver+1 })) w':=by
 obtain⟨pl,hpl,hbr,hown⟩:=hm.blk id b hb;rw[hL]at hpl;cases hpl;have hbr:BL σ j b L w:=hbr;obtain⟨C,T,hC,hsz,hr⟩:=hbr.heap;obtain⟨hk,hlen,kY⟩:=zng hsp;have hrl:row.length=b.esz:=hbr.len row (zat hrow);have hi:i<b.rows.length:=zC hrow;have hin:=zjf (esz:=b.esz) hi;have AZ:=hbr.fit;have hes:=hbr.esz;have kA:L.off+i*b.esz+k+vs.length<=C.size:=by rw[<-hv.1];omega
 have hst:=run_storeCells_at P L.blk (L.off+i*L.esz+k) T vs 0 C w hC (by rw[hes];omega) hv.one;simp only[uL]at hst;generalize hC':(C.toList.take (L.off+i*L.esz+k)++vs++C.toList.drop (L.off+i*L.esz+k+vs.length)).toArray=C' at hst;have BU:C'.size=C.size:=by grind
 have vL:∀p,C'[p]?=if p<L.off+i*L.esz+k then C[p]? else if p<L.off+i*L.esz+k+vs.length then vs[p-(L.off+i*L.esz+k)]? else C[p]?:=by
  intro p;rw[<-hC',ul,zdb _ _ _ (by grind)];simp
 have yA:(w.setRow L.blk C').heap[L.blk]?=some (.cells C' T (0,0)):=setRow_heap w _ C C' T _ hC;have hblt:L.blk<w.heap.size:=(jV.1 hC).1;have hslen:(b.rows.set i A6).length=b.rows.length:=wD
 refine⟨w.setRow L.blk C',hst,?_,?_,?_⟩
 ·refine⟨?_,hag.kZ⟩;intro b' o v hv';have hold:=hag.cells b' o v hv';by_cases hbb:b'=L.blk
  ·subst hbb;have hlo:o<L.off:=by
    rcases qG o L.off with h|h
    ·grind
    ·have:=hbr.A5 o h (fun hh=>by grind)
     grind
   simp only[World.cell?,hC,kQ,jI,if_false]at hold;simp only[World.cell?,yA,kQ,jI,if_false];rw[vL,if_pos wA];exact hold
  grind [World.cell?,setRow_other]
 ·refine hm.write hb hL rfl (fun k' hk'=>setRow_other w _ _ _ hk') ?_;refine⟨hes,hbr.pos,fun r hr'=>?_,by grind,⟨C',T,yA,by grind,?_⟩,fun o h1 h2=>hbr.A5 o h1 (fun h=>by grind)⟩
  ·rcases vo hr' with h|h
   ·exact hbr.len r h
   grind
  ·intro i' r n cl hi' hn;simp only at hi' ⊢;rw[List.getElem?_set]at hi';by_cases hii:i=i'
   ·subst hii;rw[if_pos rfl,if_pos hi]at hi';cases hi';have hnl:=zC hn;rcases kY n cl hn with⟨h1,h2,h3⟩ |⟨h1,h3⟩
    ·obtain⟨v,hv1,hv2⟩:=hv.get h3;refine⟨v,?_,hv2⟩;rw[vL,if_neg (by rw[hes];omega),if_pos (by rw[hes,<-hv.1];omega),<-hv1]
     congr 1
     rw[hes];omega
    ·obtain⟨v,hv1,hv2⟩:=hr i row n cl hrow h3;refine⟨v,?_,hv2⟩;rw[vL];split
     ·exact hv1
     ·rw[if_neg]
      ·exact hv1
      ·rw[hes,<-hv.1]at *;omega
   ·rw[if_neg hii]at hi';obtain⟨v,hv1,hv2⟩:=hr i' r n cl hi' hn;refine⟨v,?_,hv2⟩;have hrl':r.length=b.esz:=hbr.len r (zat hi');have hnl:=zC hn;rw[vL];split
    ·exact hv1
    ·rw[if_neg]
     ·exact hv1
     ·intro hlt;rename_i hge;rw[hes,<-hv.1]at *;exact znl (n:=L.off+i'*b.esz+n-(L.off+i*b.esz)) (n':=0) (esz:=b.esz) (i:=0) (i':=1) wA wA wA (by
       exfalso;have:=znl (i:=i) (i':=i') (esz:=b.esz) (n:=L.off+i'*b.esz+n-(L.off+i*b.esz)) (n':=n) hii wA wA;omega)
 ·refine⟨zP.le_refl _,fun _ _ _ _ h=>h,by simp[World.setRow],fun b' hb' ho=>?_,fun _ _ _ h=>.inl h,fun id' b' hid hb'=>?_,zd9.setRow _ _ _⟩
  ·exact setRow_other w _ _ _ (fun e=>ho (e ▸ hown L rfl))
  ·by_cases yI:id=id'
   ·subst yI;rw[hb]at hb';cases hb';exact⟨_,by simp[hid];rfl,wD,fun h=>by simp at h⟩
   ·refine⟨b',by rw[jz yI];exact hb',jm _,fun _=>⟨rfl,fun L' hL'=>?_⟩⟩;exact setRow_other w _ _ _ (fun e=>yI (hm.vz id id' b b' L' hb hb' (by rw[e];exact Inj.vI hL) hL'))
def zmH{id:Nat}{b':Blk}{C:Array Value}{T:TypeId}{w':World}(hm:MR own σ j M w)(hag:zM σ w)(hown:∀b,w.heap.size<=b->own b)(hlt:id<M.length)
  (hg:∀b,M[id]?=some (some b)->b.gen<b'.gen/\b.ver<b'.ver) (yA:w'.heap=w.heap.push (.cells C T (0,0))) (BK:zd9 w w') (uo:0<b'.esz) (hlen:∀row∈b'.rows,row.length=b'.esz)
  (AZ:b'.rows.length*b'.esz<=C.size)
  (hrow:∀(i:Nat) (row:List Cl) (n:Nat) (cl:Cl),b'.rows[i]?=some row->row[n]?=some cl->∃v,C[i*b'.esz+n]?=some v/\VC σ (if b'.box then j else zb1) cl v) :
  j id b'.gen=none/\zM σ w'/\MR own σ (j.put id b'.gen (.loc ⟨w.heap.size,0,b'.esz,C.size⟩)) (M.set id (some b')) w' /\
    za2 own M.length σ j M w σ (j.put id b'.gen (.loc ⟨w.heap.size,0,b'.esz,C.size⟩)) (M.set id (some b')) w':=by
 have hold:∀k,k<w.heap.size->w'.heap[k]?=w.heap[k]?:=fun k hk=>by
  rw[yA,Array.getElem?_push];rw[if_neg wA]
 have BF:w'.heap[w.heap.size]?=some (.cells C T (0,0)):=by grind
 have u4:j id b'.gen=none:=by
  cases h:j id b'.gen with
  |none=>rfl
  |some pl =>
   obtain⟨b,hb,hgb⟩:=hm.dom id _ pl h
   grind
 have hle:=Inj.An (pl:=.loc ⟨w.heap.size,0,b'.esz,C.size⟩) u4;obtain⟨_,hm'⟩:=hm.renew (w':=w') (pl':=.loc ⟨w.heap.size,0,b'.esz,C.size⟩) hlt (fun b hb=>(hg b hb).1) (fun k b q _ hb hL=>⟨hold _ (hm.qY hb hL),fun e=>by
   cases e;exact vG _ (hm.qY hb hL)⟩)
  (⟨rfl,uo,hlen,by grind,⟨C,T,BF,rfl,fun i row n cl hi hn=>by
    obtain⟨v,hv,hvc⟩:=hrow i row n cl hi hn;refine⟨v,by grind,VC.mono (zP.le_refl _) hvc ?_⟩
    grind [Inj.le_refl]⟩,fun o _ _=>by
    cases h:σ w.heap.size o with
    |none=>rfl
    |some v=>exact absurd (hag.lt h) (vG _)⟩:BL σ _ b' _ w') (fun k e=>by cases e;grind)
 refine⟨u4,hag.AM (fun b o v hv=>hold b (hag.lt hv)),hm',zP.le_refl _,fun k g pl _ h=>hle k g pl h,by grind,fun k hk _=>hold k hk,fun _ _ _ h=>.inl h,fun k b hk hb=>?_,BK⟩;by_cases hid:id=k
 ·grind
 ·exact⟨b,by grind,jm _,fun _=>⟨rfl,fun L hL=>hold _ (hm.qY hb hL)⟩⟩
def za1{id:Nat}{b:Blk}{M':Mem}(h:zg M id b=some M'):M[id]?=some none/\id<M.length/\M'=M.set id (some b):=by
 grind [zg]
def zvD{t:TypeId}{n id:Nat}{cs:List Cl}{vx:Value}{M':Mem}(hc:VCs σ j cs vx.cells.toList)(hn:cs.length=n)(uo:0<n)
  (h:zg M id { box:=true,esz:=n,rows:=[cs],gen:=0,fz:=false,ver:=0 }=some M') (hag:zM σ w) (hm:MR own σ j M w) (hown:∀b,w.heap.size<=b->own b) :
  za0 own σ j M w (.w (.c (.ptr id 0 0 0))) M' ((do pure (.pointer (some (<-newVar t vx))):Sem Value).run P w):=by
 obtain⟨Bj,hlt,rfl⟩:=za1 h;have hsz:vx.cells.size=n:=by rw[<-hn];simpa using hc.1.symm
 obtain⟨_,yK,hm',hst⟩:=zmH (b':={ box:=true,esz:=n,rows:=[cs],gen:=0,fz:=false,ver:=0 }) (C:=vx.cells) (T:=t) (w':=w.alloc (.cells vx.cells t (0,0))) hm hag hown hlt
  (fun b hb=>by grind) rfl (zd9.AK rfl rfl rfl) uo (by grind) (by grind) (fun i row k cl hi hk=>by
   rcases i with _|i
   ·simp at hi;subst hi;obtain⟨v,hv,hvc⟩:=hc.get hk
    grind
   grind)
 refine⟨.pointer (some ⟨w.heap.size,0,none⟩),_,σ,_,?_,?_,yK,hm',hst⟩
 ·simp[newVar,newRow]
 ·have:=VC.ptr (σ:=σ) (j.put id 0 (.loc ⟨w.heap.size,0,n,vx.cells.size⟩)) id 0 0 0 _ (Inj.uZ _ _ _ _);show VC _ _ _ _
  grind
def zeu{M:Mem}{id:Nat}{k:Nat}{b:Blk}(h:M[k]?=some (some b)):∃b',(zX M id)[k]?=some (some b')/\b'.box=b.box/\b'.esz=b.esz/\b'.rows=b.rows/\b'.gen=b.gen/\b.ver<=b'.ver /\
  (b'.ver=b.ver->b'=b)/\(k=id->b'.fz=true)/\(b.fz=true->b'.fz=true)/\(k≠id->b'=b):=by
 grind [zX]
def zhV{M:Mem}{id:Nat}{k:Nat}{b':Blk}(h:(zX M id)[k]?=some (some b')):∃b,M[k]?=some (some b):=by
 grind [zX,id,List.getElem?_set_ne]
theorem zpq(M:Mem)(id:Nat):(zX M id).length=M.length:=by
 grind [zX]
def zsb(hm:MR own σ j M w)(hag:zM σ w)(id:Nat):∃σ',σ.le σ'/\zM σ' w/\MR own σ' j (zX M id) w/\za2 own M.length σ j M w σ' j (zX M id) w /\
  ∀(b:Blk) (L:Loc) (i:Nat) (row:List Cl) (n:Nat) (cl:Cl),M[id]?=some (some b)->j id b.gen=some (.loc L)->b.rows[i]?=some row->row[n]?=some cl->σ' L.blk (L.off+i*b.esz+n)=w.cell? ⟨L.blk,L.off+i*b.esz+n,none⟩:=by
 classical
 let inn:Nat->Nat->Prop:=fun k o=>∃b L,M[id]?=some (some b)/\j id b.gen=some (.loc L)/\L.blk=k/\L.off<=o/\o<L.off+b.rows.length*b.esz
 let σ':zP:=fun k o=>match σ k o with
  |some v=>some v
  |none=>if inn k o then w.cell? ⟨k,o,none⟩ else none
 have hle:σ.le σ':=fun k o v h=>by grind
 have yK:zM σ' w:=by
  refine⟨?_,hag.kZ.mono hle⟩;intro k o v h;have h:(match σ k o with |some v=>some v |none=>if inn k o then w.cell? ⟨k,o,none⟩ else none)=some v:=h;split at h
  ·rename_i v' hv';cases h;exact hag.cells k o v hv'
  simp_all
 have hsn:∀k o v,σ' k o=some v->σ k o=some v\/inn k o:=by
  intro k o v h;have h:(match σ k o with |some v=>some v |none=>if inn k o then w.cell? ⟨k,o,none⟩ else none)=some v:=h;split at h
  ·rename_i v' hv';exact .inl (hv'.trans h)
  ·split at h
   ·rename_i hi;exact .inr hi
   ·cases h
 have u4:∀k o,σ k o=none->¬inn k o->σ' k o=none:=by
  intro k o h hn;show(match σ k o with |some v=>some v |none=>if inn k o then w.cell? ⟨k,o,none⟩ else none)=none;rw[h];simp[hn]
 have hownin:∀k o,inn k o->own k:=by
  rintro k o ⟨b,L,hb,hL,rfl,_,_⟩;obtain⟨pl,hpl,_,ho⟩:=hm.blk id b hb;rw[hL]at hpl;cases hpl;exact ho L rfl
 refine⟨σ',hle,yK,⟨fun k b' hb'=>?_,fun k k' b b' q hb hb' hL hL'=>?_,fun k g pl hj=>?_,hm.okP⟩,?_,?_⟩
 ·obtain⟨b,hb⟩:=zhV hb';obtain⟨b'',hb'',e1,e2,e3,e4,_,_,hfz,hfz2,hne⟩:=zeu (id:=id) hb;rw[hb']at hb'';cases hb'';obtain⟨pl,hpl,hbr,ho⟩:=hm.vF k b hb;refine⟨pl,by rw[e4];exact hpl,?_,ho⟩;cases pl with
  |empty=>exact⟨by rw[e3];exact hbr.1,by rw[e1];exact hbr.2⟩
  |rnd l r f sh =>
   have hbr:RB σ j b l r f sh w:=hbr;obtain⟨s,cells,pd,vs,h1,h2,h3,h4,h5⟩:=hbr.st;exact(⟨by rw[e1];exact hbr.box,hbr.ok,s,cells,pd,vs,by rw[e3];exact h1,h2,h3,h4.mono hle (Inj.le_refl _),h5⟩:RB σ' j b' l r f sh w)
  |mp l g =>
   have hbr:MB σ j b l g w:=hbr;obtain⟨h0,es,clock,R,h1,h2,h3,h4⟩:=hbr.mono hle (Inj.le_refl _) rfl;exact(⟨by rw[e1];exact h0,es,clock,R,h1,by grind,h3,h4⟩:MB σ' j b' l g w)
  |mi l =>
   have hbr:IB σ j b l w:=hbr;obtain⟨h0,h1⟩:=hbr;exact(⟨by grind,by rw[e3];exact h1⟩:IB σ' j b' l w)
  |loc L =>
   have hbr:BL σ j b L w:=hbr;obtain⟨C,T,hC,hsz,hrow⟩:=hbr.heap;refine(⟨by rw[e2];exact hbr.esz,by rw[e2];exact hbr.pos,by rw[e3,e2];exact hbr.len,by rw[e3,e2];exact hbr.fit,⟨C,T,hC,hsz,?_⟩,fun o h1 h2=>?_⟩:BL σ' j b' L w)
   ·intro i row n cl hi hn;rw[e3]at hi;obtain⟨v,hv,hvc⟩:=hrow i row n cl hi hn;exact⟨v,by rw[e2];exact hv,by rw[e1];exact VC.mono hle hvc (Inj.le_refl _)⟩
   ·rw[e3,e2]at h2;have hold:σ L.blk o=none:=hbr.A5 o h1 (fun h=>h2 (hfz2 h));refine u4 _ _ hold ?_;rintro⟨b0,L0,hb0,hL0,he0,hlo,hhi⟩;have hkid:k=id:=hm.inj k id b b0 L L0 hb hb0 hpl hL0 he0.symm
    grind
 ·obtain⟨c,hc⟩:=zhV hb;obtain⟨c1,hc1,_,_,_,e4,_⟩:=zeu (id:=id) hc;rw[hb]at hc1;cases hc1;obtain⟨c',hc'⟩:=zhV hb';obtain⟨c2,hc2,_,_,_,e4',_⟩:=zeu (id:=id) hc';rw[hb']at hc2;cases hc2;rw[e4]at hL;rw[e4']at hL';exact hm.vz k k' c c' q hc hc' hL hL'
 ·obtain⟨b,hb,hg⟩:=hm.dom k g pl hj;obtain⟨b',hb',_,_,_,e4,_⟩:=zeu (id:=id) hb
  grind
 ·refine⟨hle,fun _ _ _ _ h=>h,jm _,fun _ _ _=>rfl,fun k o v h=>(hsn k o v h).imp _root_.id (hownin k o),fun k b _ hb=>?_,zd9.refl _⟩;obtain⟨b',hb',_,_,_,_,hv,hve,_⟩:=zeu (id:=id) hb
  grind
 ·intro b L i row n cl hb hL hi hn;have hin:inn L.blk (L.off+i*b.esz+n):=by
   obtain⟨pl,hpl,hbr,_⟩:=hm.blk id b hb;rw[hL]at hpl;cases hpl;have hbr:BL σ j b L w:=hbr;have h1:=zjf (esz:=b.esz) (zC hi);have h2:=hbr.len row (zat hi)
   grind
  show(match σ L.blk (L.off+i*b.esz+n)with |some v=>some v |none=>if inn L.blk (L.off+i*b.esz+n) then w.cell? ⟨L.blk,L.off+i*b.esz+n,none⟩ else none)=_;cases hs:σ L.blk (L.off+i*b.esz+n)with
  |some v=>exact(hag.cells _ _ _ hs).symm
  |none=>grind
theorem zgi(ids:List Nat):∀(M:Mem),(zbg M ids).length=M.length:=by
 induction ids with
 |nil=>intro M;rfl
 |cons id ids ih=>grind [zbg,zX,id,zpq]
def zhe(ids:List Nat):∀{σ:zP} {M:Mem},MR own σ j M w->zM σ w->∃σ',σ.le σ'/\zM σ' w/\MR own σ' j (zbg M ids) w/\za2 own M.length σ j M w σ' j (zbg M ids) w /\
  ∀id∈ids,∀(b:Blk) (L:Loc) (i:Nat) (row:List Cl) (n:Nat) (cl:Cl),M[id]?=some (some b)->j id b.gen=some (.loc L)->b.rows[i]?=some row->row[n]?=some cl->∃v,σ' L.blk (L.off+i*b.esz+n)=some v/\w.cell? ⟨L.blk,L.off+i*b.esz+n,none⟩=some v:=by
 induction ids with
 |nil=>intro σ M hm hag;exact⟨σ,zP.le_refl _,hag,hm,za2.refl,fun id h=>by grind⟩
 |cons id ids ih =>
  intro σ M hm hag;obtain⟨σ1,Ck,CK,hm1,yE,hin1⟩:=zsb hm hag id;obtain⟨σ2,hle2,Cr,hm2,yD,hin2⟩:=ih hm1 CK;refine⟨σ2,zP.le_trans Ck hle2,Cr,hm2,yE.trans (by rw[zpq]at yD;exact yD),fun id' yI b L i row n cl hb hL hi hn=>?_⟩;rcases jK.1 yI with rfl|yI
  ·have e:=hin1 b L i row n cl hb hL hi hn;obtain⟨v,hv,_⟩:=hm.cell hb hL hi hn;have hes:L.esz=b.esz:=by
    obtain⟨pl,hpl,hbr,_⟩:=hm.blk id' b hb;rw[hL]at hpl;cases hpl;exact(hbr:BL σ j b L w).esz
   rw[hes]at hv;rw[hv]at e;exact⟨v,hle2 _ _ _ e,hv⟩
  ·obtain⟨b',hb',_,e2,e3,e4,_⟩:=zeu (id:=id) hb
   grind
def zq9{M0:Mem}{σ0:zP}{c c':Cl}{v:Value}(hm:MR own σ0 j M0 w)(hle:σ0.le σ)(hag:zM σ w)
  (hin:∀id∈slC c,∀(b:Blk) (L:Loc) (i:Nat) (row:List Cl) (n:Nat) (cl:Cl),M0[id]?=some (some b)->j id b.gen=some (.loc L)->b.rows[i]?=some row->row[n]?=some cl->∃v,σ L.blk (L.off+i*b.esz+n)=some v/\w.cell? ⟨L.blk,L.off+i*b.esz+n,none⟩=some v)
  (h:zdR M0 c=some c') (hv:VC σ0 j c v):VC σ j c' v:=by
 cases hv with
 |slice _ id g es off len cap pl a cc hj hl hc ha =>
  simp only[zdR]at h;split at h
  ·rename_i b hb0;obtain⟨hb,rfl⟩:=zaz hb0;split at h
   ·grind
   ·rename_i vD;split at h
    ·rename_i AZ;cases h;have hlen:((b.rows.drop off).take len).length=len:=by grind
     obtain⟨pl',yW,hbr,_⟩:=hm.blk id b hb;rw[hj]at yW;cases yW;by_cases hc0:cc=0
     ·subst hc0;have hl0:len=0:=wA
      subst hl0;have e:(b.rows.drop off).take 0=[]:=wD
      rw[e];have:=VC.jb (σ:=σ) j b.esz [] a 0 0 0 (fun _ _=>undef) wD (.inl rfl) wD wD wD
      grind
     ·obtain⟨L,rfl,_,rfl,DA⟩:=ha hc0;have hbr:BL σ0 j b L w:=hbr;have hes:=hbr.esz;have get:∀(i:Nat) (row:List Cl),((b.rows.drop off).take len)[i]?=some row->b.rows[off+i]?=some row:=by
       grind
      have key:∀(i:Nat) (row:List Cl) (n:Nat) (cl:Cl),((b.rows.drop off).take len)[i]?=some row->row[n]?=some cl->∃v,σ L.blk (L.off+(off+i)*b.esz+n)=some v/\VC σ zb1 cl v:=by
       intro i row n cl hi hn;obtain⟨v,h1,h2⟩:=hin id (by simp[slC]) b L (off+i) row n cl hb hj (get i row hi) hn;obtain⟨v',h3,_,h4⟩:=hm.cell hb hj (get i row hi) hn;rw[hes]at h3;rw[h3]at h2;cases h2;rw[if_neg (by grind)]at h4
       grind [VC.mono,Inj.le_refl]
      have:=VC.jb (σ:=σ) j b.esz ((b.rows.drop off).take len) (some ⟨L.blk,L.off+off*L.esz,none⟩) cc L.blk (L.off+off*L.esz) (fun i n=>(σ L.blk (L.off+(off+i)*b.esz+n)).getD undef)
       (by grind) (.inr rfl) (fun row hr=>hbr.len row (qp (qo hr))) (fun i row n cl hi hn=>by
        grind) (fun i row n cl hi hn=>by
        grind)
      grind
    grind
  grind
 |jc =>
  simp only[zdR,ji]at h;subst h;have:=VC.jb (σ:=σ) j 0 [] none 0 0 0 (fun _ _=>undef) wD (.inl rfl) wD wD wD
  grind
 |bool=>simp only[zdR,ji]at h;subst h;exact .bool _ _
 |int=>simp only[zdR,ji]at h;subst h;exact .int _ _ _
 |str=>simp only[zdR,ji]at h;subst h;exact .str _ _
 |ptr _ id g i k L hL=>simp only[zdR,ji]at h;subst h;exact .ptr _ _ _ _ _ L hL
 |uQ _ row k b o val h1 h2=>simp only[zdR,ji]at h;subst h;exact VC.mono hle (.uQ _ row k b o val h1 h2) (Inj.le_refl _)
 |kX=>simp only[zdR,ji]at h;subst h;exact .kX _
 |jb _ esz rows a c b o val q1 q3 q4 q5 q6=>simp only[zdR,ji]at h;subst h;exact VC.mono hle (.jb _ esz rows a c b o val q1 q3 q4 q5 q6) (Inj.le_refl _)
 |fn _ f fi ca fi' ca' l1 l2 h1 h2=>simp only[zdR,ji]at h;subst h;exact VC.mono hle (.fn _ f fi ca fi' ca' l1 l2 h1 h2) (Inj.le_refl _)
 |qT=>simp only[zdR,ji]at h;subst h;exact .qT _
 |yv _ t c v q=>simp only[zdR,ji]at h;subst h;exact VC.mono hle (.yv _ t c v q) (Inj.le_refl _)
 |yu _ t cs vs l q=>simp only[zdR,ji]at h;subst h;exact VC.mono hle (.yu _ t cs vs l q) (Inj.le_refl _)
 |qA=>simp only[zdR,ji]at h;subst h;exact .qA _
 |yld _ id f sh l r h0=>simp only[zdR,ji]at h;subst h;exact .yld _ id f sh l r h0
 |qS=>simp only[zdR,ji]at h;subst h;exact .qS _
 |map _ id g l h0=>simp only[zdR,ji]at h;subst h;exact .map _ id g l h0
 |mit _ id l h0=>simp only[zdR,ji]at h;subst h;exact .mit _ id l h0
 |bsl _ id g i k es len cap L a h0 hl ha=>simp only[zdR,ji]at h;subst h;exact .bsl _ id g i k es len cap L a h0 hl ha
end
end Go.Eng
namespace Go.Eng
open Go
variable[zb0]
section
variable{own:Nat->Prop}{σ:zP}{j:Inj}{M:Mem}{w:World}{E:Nat->Option AV}{a:Act}{P:Program}
def z4H(σ:zP)(j:Inj)(M0:Mem)(w:World)(ids:List Nat):Prop :=
 ∀id∈ids,∀(b:Blk) (L:Loc) (i:Nat) (row:List Cl) (n:Nat) (cl:Cl),M0[id]?=some (some b)->j id b.gen=some (.loc L)->b.rows[i]?=some row->row[n]?=some cl ->
  ∃v,σ L.blk (L.off+i*b.esz+n)=some v/\w.cell? ⟨L.blk,L.off+i*b.esz+n,none⟩=some v
def z4H.sub{M0:Mem}{ids ids':List Nat}(h:z4H σ j M0 w ids)(hs:∀x∈ids',x∈ids):z4H σ j M0 w ids':=fun id hid=>h id (hs id hid)
def z4H.left{M0:Mem}{a b:List Nat}(h:z4H σ j M0 w (a++b)):z4H σ j M0 w a:=h.sub fun _ hx=>jL.2 (.inl hx)
def z4H.right{M0:Mem}{a b:List Nat}(h:z4H σ j M0 w (a++b)):z4H σ j M0 w b:=h.sub fun _ hx=>jL.2 (.inr hx)
theorem ztX(ids:List Nat):∀{M:Mem} {k:Nat} {b':Blk},(zbg M ids)[k]?=some (some b')->∃b,M[k]?=some (some b)/\b'.box=b.box/\b'.esz=b.esz/\b'.rows=b.rows/\b'.gen=b.gen:=by
 induction ids with
 |nil=>intro M k b' h;exact⟨b',h,rfl,rfl,rfl,rfl⟩
 |cons id ids ih =>
  intro M k b' h;obtain⟨b1,h1,e1,e2,e3,e4⟩:=ih (M:=zX M id) h;obtain⟨b0,h0⟩:=zhV h1;obtain⟨b2,h2,q1,q2,q3,q4,_⟩:=zeu (id:=id) h0
  grind
def zkB{M0:Mem}{σ0:zP}(hm:MR own σ0 j M0 w)(hle:σ0.le σ)(hag:zM σ w):∀{cs cs':List Cl} {vs:List Value},z4H σ j M0 w (cs.flatMap slC)->yL M0 cs=some cs'->VCs σ0 j cs vs->VCs σ j cs' vs
 |[],cs',vs,_,h,hv=>by simp only[yL,ji]at h;have:=hv.vQ;grind [VCs.nil]
 |c::cs,cs',vs,hf,h,hv=>by
  simp only[yL]at h;split at h
  ·rename_i y ys hy hys;cases h;obtain⟨v,vs',rfl,h1,h2⟩:=hv.kP;exact VCs.cons (zq9 hm hle hag hf.left hy h1) (zkB hm hle hag hf.right hys h2)
  grind
def zq8{M0:Mem}{σ0:zP}(hm:MR own σ0 j M0 w)(hle:σ0.le σ)(hag:zM σ w){x y:WV}{v:Value}(hf:z4H σ j M0 w x.sls)(h:zn7 M0 x=some y)(hv:WVR σ0 j x v):WVR σ j y v:=by
 cases x with
 |c x =>
  simp only[zn7,ja]at h;obtain⟨c,hc,rfl⟩:=h;exact zq9 hm hle hag (hf.sub (by simp[WV.sls,WV.cells])) hc hv
 |a cs =>
  simp only[zn7,ja]at h;obtain⟨c,hc,rfl⟩:=h;obtain⟨arr,rfl,hv⟩:=hv;exact⟨arr,rfl,zkB hm hle hag hf hc hv⟩
def zl3{M0:Mem}{σ0:zP}(hm:MR own σ0 j M0 w)(hle:σ0.le σ)(hag:zM σ w):∀{cs cs':List WV} {vs:List Value},z4H σ j M0 w (cs.flatMap WV.sls)->zla M0 cs=some cs'->zac σ0 j cs vs->zac σ j cs' vs
 |[],cs',vs,_,h,hv=>by simp only[zla,ji]at h;have:=hv.vQ;grind [zac.nil]
 |c::cs,cs',vs,hf,h,hv=>by
  simp only[zla]at h;split at h
  ·rename_i y ys hy hys;cases h;obtain⟨v,vs',rfl,h1,h2⟩:=hv.kP;exact zac.cons (zq8 hm hle hag hf.left hy h1) (zl3 hm hle hag hf.right hys h2)
  grind
def zwX{M0:Mem}{σ0:zP}(hm:MR own σ0 j M0 w)(hle:σ0.le σ)(hag:zM σ w){x y:AV}{v:Value}(hf:z4H σ j M0 w x.sls)(h:zoS M0 x=some y)(hv:AVR σ0 j x v):AVR σ j y v:=by
 cases x with
 |w x =>
  simp only[zoS,ja]at h;obtain⟨c,hc,rfl⟩:=h;exact zq8 hm hle hag hf hc hv
 |t cs =>
  simp only[zoS,ja]at h;obtain⟨c,hc,rfl⟩:=h;obtain⟨arr,rfl,hv⟩:=hv;exact⟨arr,rfl,zl3 hm hle hag hf hc hv⟩
 |u=>simp only[zoS,ji]at h;subst h;exact hv
def VCs.yH{cs:List Cl}{vs:List Value}(hn:cs.all zcl=true)(h:VCs σ j cs vs):VCs σ zb1 cs vs :=
 ⟨h.1,fun n c v hc hv=>VC.yH (jw.1 hn c (zat hc)) (h.2 n c v hc hv)⟩
def zkh{id g i k:Nat}{cs:List Cl}{vs:List Value}{M':Mem}{L:Loc}(h:storeAt M id g i k cs=some M')(hj:j id g=some (.loc L))
  (hv:VCs σ (if zfJ M id g then j else zb1) cs vs) (hag:zM σ w) (hm:MR own σ j M w) :
  ∃w',(storeCells ⟨L.blk,L.off+i*L.esz+k,none⟩ vs).run P w=.ok () w'/\zM σ w'/\MR own σ j M' w'/\za2 own M.length σ j M w σ j M' w':=by
 unfold storeAt at h;split at h
 ·rename_i b hb0;have hbx:zfJ M id g=b.box:=by grind [zfJ]
  obtain⟨hb,rfl⟩:=zaz hb0;split at h
  ·grind
  ·split at h
   ·rename_i row hrow;split at h
    ·rename_i A6 hsp;cases h;exact zuF hm hag hb hj (by grind) hrow hsp (by grind)
    grind
   grind
 grind
def zpj{t:TypeId}{n:Nat}{b o:Nat}{vx:Value}{w':World}(hs:zbL P t=some n)(hn:vx.cells.size=n)
  (h:(storeCells ⟨b,o,none⟩ vx.cells.toList).run P w=.ok () w'):(Instr.storeAt t (.pointer (some ⟨b,o,none⟩)) vx).run P w=.ok () w':=by
 simp_all [Instr.storeAt,Instr.sureAddr,storeVar,zaJ]
def zwc{t:TypeId}{n:Nat}{p:Cl}{x:WV}{vp vx:Value}{av:AV}{M':Mem}{fp:FP}(hs:zbL P t=some n)(h:zhT M n p x=some (av,M',fp))(hp:VC σ j p vp)(hx:WVR σ j x vx)(hag:zM σ w)(hm:MR own σ j M w) :
  av=.u/\∃w' σ',(Instr.storeAt t vp vx).run P w=.ok () w'/\zM σ' w'/\MR own σ' j M' w'/\za2 own M.length σ j M w σ' j M' w':=by
 unfold zhT at h;split at h
 ·rename_i id g i k;cases hp with
  |ptr _ _ _ _ _ L hL =>
   split at h
   ·rename_i hn;have hn':vx.cells.size=n:=by rw[hx.BB,hn]
    split at h
    ·rename_i vD;simp only[ja]at h;obtain⟨M1,hM1,he⟩:=h;cases he;obtain⟨w',h1,h2,h3,h4⟩:=zkh (P:=P) hM1 hL (by rw[vD];simpa using hx.cells) hag hm;exact⟨rfl,w',σ,zpj hs hn' h1,h2,h3,h4⟩
    ·split at h
     ·rename_i cs hcs;split at h
      ·rename_i hno;simp only[ja]at h;obtain⟨M1,hM1,he⟩:=h;cases he;obtain⟨σ1,q1,q2,q3,q4,q5⟩:=zhe x.sls hm hag;have yk:=zkB hm q1 q2 (cs:=x.cells) q5 hcs hx.cells;have hbox':zfJ (zbg M x.sls) id g=true->False:=by
        grind [zfJ,look,zbg,id,zaz,ztX]
       obtain⟨w',h1,h2,h3,h4⟩:=zkh (P:=P) hM1 hL (by
        rw[if_neg (by grind)];exact yk.yH hno) q2 q3
       exact⟨rfl,w',σ1,zpj hs hn' h1,h2,h3,q4.trans (by grind [zgi])⟩
      grind
     grind
   grind
 grind
def zo9(off:Nat):∀(l:List Value) (k:Nat) (cells:Array Value),off+k+l.length<=cells.size ->
  ((l.zipIdx k).foldl (fun(cs:Array Value) x=>cs.setIfInBounds (off+x.2) x.1) cells).size=cells.size /\
  ∀p,((l.zipIdx k).foldl (fun(cs:Array Value) x=>cs.setIfInBounds (off+x.2) x.1) cells)[p]?=if off+k<=p/\p<off+k+l.length then l[p-(off+k)]? else cells[p]?
 |[],k,cells,h=>⟨wD,fun p=>by simp;grind⟩
 |v::l,k,cells,h=>by
  simp only[List.zipIdx_cons,j8];obtain⟨h1,h2⟩:=zo9 off l (k+1) (cells.setIfInBounds (off+k) v) (by grind)
  grind
def zvn(off:Nat)(v:Value)(cells:Array Value)(h:off+v.cells.size<=cells.size) :
  (v.cells.zipIdx.foldl (fun cs (c,j)=>cs.setIfInBounds (off+j) c) cells).size=cells.size /\
  ∀p,(v.cells.zipIdx.foldl (fun cs (c,j)=>cs.setIfInBounds (off+j) c) cells)[p]?=if off<=p/\p<off+v.cells.size then v.cells[p-off]? else cells[p]?:=by
 have:=zo9 off v.cells.toList 0 cells (by grind);have e:v.cells.zipIdx.foldl (fun(cs:Array Value) (x:Value×Nat)=>cs.setIfInBounds (off+x.2) x.1) cells=(v.cells.toList.zipIdx 0).foldl (fun(cs:Array Value) x=>cs.setIfInBounds (off+x.2) x.1) cells:=by
  rw[<-Array.foldl_toList];simp
 grind
def zin(hG:GK σ)(hE:zcs σ j E a.tmps){place:Nat->Option (Nat×Nat)}:∀{parts:List (Nat×Operand)} {cps:List (Nat×Nat×Opd)} {cs cs':List Cl} {cells:Array Value},ziZ place parts=some cps->zdv E cs cps=some cs'->VCs σ j cs cells.toList ->
  ∃A4,Instr.fill place cells (parts.map fun x=>(x.1,a.eval x.2))=some A4/\VCs σ j cs' A4.toList
 |[],cps,cs,cs',cells,hp,h,hv=>by
  simp only[ziZ,ji]at hp;subst hp;simp only[zdv,ji]at h;subst h;exact⟨cells,rfl,hv⟩
 |(i,o)::parts,cps,cs,cs',cells,hp,h,hv=>by
  simp only[ziZ]at hp;split at hp
  ·rename_i p x l h1 h2 h3;cases hp;simp only[zdv]at h;split at h
   ·rename_i v hvv;split at h
    ·rename_i cs1 hf;have hr:=zWl hG hE h2 hvv;unfold zt8 at hf;split at hf
     ·obtain⟨hk,hlen,kY⟩:=zng hf;have hcl:cs.length=cells.size:=by simpa using hv.1
      have hvs:=hr.BB;have AZ:p.1+(a.eval o).cells.size<=cells.size:=by grind
      obtain⟨hs1,hs2⟩:=zvn p.1 (a.eval o) cells AZ;obtain⟨A4,hc',hv'⟩:=zin hG hE (cells:=(a.eval o).cells.zipIdx.foldl (fun cs (c,j)=>cs.setIfInBounds (p.1+j) c) cells) h3 h (VCs.B0 (by grind) (fun q c hq=>by
       rcases kY q c hq with⟨g1,g2,g3⟩ |⟨g1,g3⟩
       ·obtain⟨u,hu,hur⟩:=hr.cells.get g3
        grind
       ·obtain⟨u,hu,hur⟩:=hv.get g3
        grind))
      simp_all [kR,Instr.fill,if_neg]
     grind
    grind
   grind
  grind
def zew{t:TypeId}{zs:List Cl}(h:zhL P t=some zs):∃i z,P.info? t=some i/\i.zero=some z/\zpz z.cells.toList=some zs:=by
 grind [zhL]
def zcJ{t:TypeId}{i:TypeInfo}{z:Value}(hi:P.info? t=some i)(hz:i.zero=some z):(zeroValue t).run P w=.ok z w:=by
 simp_all [zeroValue,typeInfo]
def zqv:∀{fs:List Field} {ps:List (Nat×Nat)},zmD P fs=some ps->(fs.mapM (fun f=>do pure (f.offset,<-sizeOf f.type)):Sem (List (Nat×Nat))).run P w=.ok ps w
 |[],ps,h=>by simp_all [zmD,ji]
 |f::fs,ps,h=>by
  simp only[zmD]at h;split at h
  ·rename_i n l hn hl;cases h;simp only[List.mapM_cons,Sem.run_bind,zaJ hn,Result.andThen_ok,Sem.run_pure,zqv hl]
  ·cases h
def zoj(hG:GK σ)(hE:zcs σ j E a.tmps){t:TypeId}{fs:Array Field}{z:List Cl}{ps:List (Nat×Nat)}{parts:Array (Nat×Operand)}{cps:List (Nat×Nat×Opd)}{cs:List Cl}(ht:P.underlying t=some (.struct fs))(hz:zhL P t=some z)
  (hps:zmD P fs.toList=some ps) (hp:ziZ (ps[·]?) parts.toList=some cps) (h:zdv E z cps=some cs) :
  ∃arr:Array Value,(Instr.build t (parts.map fun(i,x)=>(i,a.eval x))).run P w=.ok (.agg arr) w/\VCs σ j cs arr.toList:=by
 obtain⟨i,zv,hi,hzv,hzc⟩:=zew hz;obtain⟨A4,hc',hv'⟩:=zin hG hE (cells:=zv.cells) hp h (zdu hzc);have hm:(fs.mapM (fun f=>do pure (f.offset,<-sizeOf f.type)):Sem (Array (Nat×Nat))).run P w=.ok ps.toArray w:=by
  rw[yQ];simp only[Sem.run_map,zqv hps,Result.andThen_ok]
 simp_all [Instr.build,Sem.run_bind,zcJ,Result.andThen_ok,run_underlying]
def zo5(hG:GK σ)(hE:zcs σ j E a.tmps){t e len n:Nat}{z:List Cl}{parts:Array (Nat×Operand)}{cps:List (Nat×Nat×Opd)}{cs:List Cl}(ht:P.underlying t=some (.array len e))(hz:zhL P t=some z)
  (hn:zbL P e=some n) (hp:ziZ (fun i=>some (i*n,n)) parts.toList=some cps) (h:zdv E z cps=some cs) :
  ∃arr:Array Value,(Instr.build t (parts.map fun(i,x)=>(i,a.eval x))).run P w=.ok (.agg arr) w/\VCs σ j cs arr.toList:=by
 obtain⟨i,zv,hi,hzv,hzc⟩:=zew hz;obtain⟨A4,hc',hv'⟩:=zin hG hE (cells:=zv.cells) hp h (zdu hzc)
 simp_all [Instr.build,Sem.run_bind,zcJ,Result.andThen_ok,run_underlying,zaJ]
def zpF(σ:zP)(esz:Nat)(rows:List (List Cl))(C:Array Value):Prop :=
 C.size=rows.length*esz/\(∀row∈rows,row.length=esz)/\∀(i:Nat) (row:List Cl) (n:Nat) (cl:Cl),rows[i]?=some row->row[n]?=some cl->∃v,C[i*esz+n]?=some v/\VC σ zb1 cl v
def zqy{zs:List Cl}{z:Array Value}(hz:VCs σ zb1 zs z.toList)(uo:0<zs.length)(n len:Nat)(hn:n=len*zs.length):zpF σ zs.length (List.replicate len zs) ((Array.range n).map (z[· % z.size]!)):=by
 subst hn;have hsz:z.size=zs.length:=by simpa using hz.1.symm
 refine⟨wD,fun row hr=>by grind,fun i row k cl hi hk=>?_⟩;have hil:=zC hi;simp only[uT]at hil;rw[vU,if_pos hil]at hi;cases hi;have hrow:=zjf (esz:=zs.length) hil;obtain⟨v,hv,hvc⟩:=hz.get hk
 grind [Nat.add_comm,Nat.add_mul_mod_self_right,Nat.mod_eq_of_lt]
def zm9{M0:Mem}{σ0:zP}{esz:Nat}(hm:MR own σ0 j M0 w)(hle:σ0.le σ)(hag:zM σ w)(hG:GK σ0)(hE:zcs σ0 j E a.tmps):∀{parts:List (Nat×Operand)} {cps:List (Nat×Opd)} {rows vR:List (List Cl)} {C:Array Value},
  z4H σ j M0 w (zcf E cps)->zgZ parts=some cps->zdS E M0 esz rows cps=some vR->zpF σ esz rows C ->
  ∃C',Instr.fill (fun i=>some (i*esz,esz)) C (parts.map fun x=>(x.1,a.eval x.2))=some C'/\zpF σ esz vR C'/\vR.length=rows.length
 |[],cps,rows,vR,C,_,hp,h,hr=>by
  simp only[zgZ,ji]at hp;subst hp;simp only[zdS,ji]at h;subst h;exact⟨C,rfl,hr,rfl⟩
 |(i,o)::parts,cps,rows,vR,C,hf,hp,h,hr=>by
  simp only[zgZ]at hp;split at hp
  ·rename_i x l h1 h2;cases hp;simp only[zdS]at h;split at h
   ·rename_i v hv;have hf':z4H σ j M0 w (v.sls++zcf E l):=by
     grind [zcf]
    split at h
    ·rename_i cs hcs;split at h
     ·rename_i yJ;simp only[jk,decide_eq_true_eq]at yJ;obtain⟨⟨hno,hlen⟩,hi⟩:=yJ;have hvr:=zWl hG hE h1 hv;have yk:=(zkB hm hle hag (cs:=v.cells) hf'.left hcs hvr.cells).yH hno;have hsz:(a.eval o).cells.size=esz:=by rw[<-hlen];simpa using yk.1.symm
      have hin:=zjf (esz:=esz) hi;have hCs:=hr.1;obtain⟨hs1,hs2⟩:=zvn (i*esz) (a.eval o) C (by grind);obtain⟨C',hC',hr',hl'⟩:=zm9 hm hle hag hG hE (rows:=rows.set i cs) (C:=(a.eval o).cells.zipIdx.foldl (fun cs (c,j)=>cs.setIfInBounds (i*esz+j) c) C) hf'.right h2 h
       ⟨by grind,fun row hrow=>by
        rcases vo hrow with q|q
        ·exact hr.2.1 row q
        grind,fun k row n cl hk hn=>by
        rw[List.getElem?_set]at hk;rw[hs2];by_cases hki:i=k
        ·subst hki;rw[if_pos rfl,if_pos hi]at hk;cases hk;have hnl:=zC hn;obtain⟨u,hu,hur⟩:=yk.get hn
         grind
        ·rw[if_neg hki]at hk;obtain⟨u,hu,hur⟩:=hr.2.2 k row n cl hk hn;have hnl:=zC hn;have hrl:=hr.2.1 row (zat hk);refine⟨u,?_,hur⟩;rw[if_neg]
         ·grind
         ·rintro⟨q1,q2⟩;rw[hsz]at q2;exact znl (esz:=esz) (i:=i) (i':=k) (n:=k*esz+n-i*esz) (n':=n) hki wA wA wA⟩
      simp_all [kR,Instr.fill,if_neg]
     grind
    grind
   grind
  grind
theorem zz3(hE:zcs σ j E a.tmps){t e len n id:Nat}{z:List Cl}{parts:Array (Nat×Operand)}{cps:List (Nat×Opd)}{rows:List (List Cl)}{M':Mem}(ht:P.underlying t=some (.slice e))(hn:zbL P e=some n)(hz:zhL P e=some z)
  (hlim:len*n<=16777216) (hzn:z.length=n) (hzi:z.all zcl=true) (hp:zgZ parts.toList=some cps) (h:zdS E M n (List.replicate len z) cps=some rows) (uo:0<n)
  (hat:zg (zbg M (zcf E cps)) id { box:=false,esz:=n,rows,gen:=rows.length,fz:=false,ver:=rows.length }=some M') (hag:zM σ w) (hm:MR own σ j M w) (hown:∀b,w.heap.size<=b->own b) :
  za0 own σ j M w (.w (.c (.slice id rows.length n 0 rows.length none))) M' ((Instr.buildSlice t len (parts.map fun(i,x)=>(i,a.eval x))).run P w):=by
 obtain⟨i,zv,hi,hzv,hzc⟩:=zew hz;obtain⟨σ1,q1,q2,q3,q4,q5⟩:=zhe (zcf E cps) hm hag;have hzr:VCs σ1 zb1 z zv.cells.toList:=(zdu (σ:=σ1) (j:=j) hzc).yH hzi;subst hzn;obtain⟨C',hC',hr',hl'⟩:=zm9 (σ:=σ1) hm q1 q2 hag.kZ hE q5 hp h (zqy hzr uo (len*z.length) len rfl);simp only[uT]at hl';obtain⟨Bj,hlt,rfl⟩:=za1 hat;obtain⟨_,yK,hm',hst⟩:=zmH (b':={ box:=false,esz:=z.length,rows,gen:=rows.length,fz:=false,ver:=rows.length }) (C:=C') (T:=e) (w':=w.alloc (.cells C' e (0,0))) q3 q2 hown hlt
  (fun b hb=>by grind) rfl (zd9.AK rfl rfl rfl) uo hr'.2.1 (Nat.le_of_eq hr'.1.symm) (fun k row m cl hk hm=>by simpa using hr'.2.2 k row m cl hk hm)
 refine⟨.slice (some ⟨w.heap.size,0,none⟩) len len,_,σ1,_,?_,?_,yK,hm',q4.trans (by grind [zgi])⟩
 ·have ep:(parts.map fun(x:Nat×Operand)=>(x.1,a.eval x.2)).toList=parts.toList.map fun x=>(x.1,a.eval x.2):=wD
  rw[<-ep]at hC';simp only[Instr.buildSlice,Sem.run_bind,run_underlying ht,Result.andThen_ok,zaJ hn];by_cases h0:len*z.length=0
  ·have hlen0:len=0:=by rcases Nat.mul_eq_zero.1 h0 with h |h<;>omega
   subst hlen0;simp only[h0,if_true];simp only[Nat.zero_mul]at hC';simp only[show Array.range 0 = #[] from rfl,Array.map_empty]at hC' ⊢;simp only[hC'];simp[newRow]
  simp_all [if_false,Sem.run_bind,zcJ,Result.andThen_ok,Sem.run_pure,newRow]
 ·have:=VC.slice (σ:=σ1) (j.put id rows.length (.loc ⟨w.heap.size,0,z.length,C'.size⟩)) id rows.length z.length 0 rows.length none _ (some ⟨w.heap.size,0,none⟩) len (Inj.uZ _ _ _ _) wA (by grind)
   (fun _=>⟨_,rfl,rfl,wD,by simp[hr'.1,hl']⟩)
  show VC _ _ _ _
  grind
end
end Go.Eng
namespace Go.Eng
open Go
variable[zb0]
section
variable{own:Nat->Prop}{σ:zP}{j:Inj}{M:Mem}{w:World}{E:Nat->Option AV}{a:Act}{P:Program}
def zv4{l:Int}(h0:0<=l)(h:l<=140737488355328):IntKind.i64.wrap l=l:=by
 simp only[IntKind.wrap,IntKind.bits,IntKind.signed,uw]
 grind
theorem ztU{t e n b id:Nat}{z:List Cl}{l c:Int}{k k':IntKind}{M':Mem}(ht:P.underlying t=some (.slice e))(hn:zbL P e=some n)(hb:zmi P e=some b)(hz:zhL P e=some z)(hbp:0<b)
  (h0:0<=l) (hlc:l=c) (kA:roomy l.toNat b=true) (hzn:z.length=n) (uo:0<n) (hzi:z.all zcl=true)
  (hat:zg M id { box:=false,esz:=n,rows:=List.replicate l.toNat z,gen:=l.toNat,fz:=false,ver:=l.toNat }=some M') (hag:zM σ w) (hm:MR own σ j M w) (hown:∀b,w.heap.size<=b->own b) :
  za0 own σ j M w (.w (.c (.slice id l.toNat n 0 l.toNat none))) M' ((Instr.makeSlice t (.int k l) (.int k' c)).run P w):=by
 subst hlc;obtain⟨i,zv,hi,hzv,hzc⟩:=zew hz;have hzr:VCs σ zb1 z zv.cells.toList:=(zdu (σ:=σ) (j:=j) hzc).yH hzi;have hzs:zv.cells.size=n:=by rw[<-hzn];simpa using hzr.1.symm
 obtain⟨Bj,hlt,rfl⟩:=za1 hat;have hib:i.bytes=b:=by grind [zmi]
 have hr0:l.toNat*b<=140737488355328:=by grind [roomy]
 have hl:l<=140737488355328:=by
  have:=qV l.toNat hbp;omega
 have hw:=zv4 h0 hl;subst hzn;have hr':=zqy (σ:=σ) hzr uo (l.toNat*z.length) l.toNat rfl;generalize hC:((Array.range (l.toNat*z.length)).map fun x=>zv.cells[x % zv.cells.size]!)=C' at hr';obtain⟨_,yK,hm',hst⟩:=zmH (b':={ box:=false,esz:=z.length,rows:=List.replicate l.toNat z,gen:=l.toNat,fz:=false,ver:=l.toNat }) (C:=C') (T:=e) (w':=w.alloc (.cells C' e (0,0))) hm hag hown hlt
  (fun b hb=>by grind) rfl (zd9.AK rfl rfl rfl) uo hr'.2.1 (Nat.le_of_eq hr'.1.symm) (fun k row m cl hk hm=>by simpa using hr'.2.2 k row m cl hk hm)
 refine⟨.slice (some ⟨w.heap.size,0,none⟩) l.toNat l.toNat,_,σ,_,?_,?_,yK,hm',hst⟩
 ·have Bf:¬((281474976710656:Int)<(i.bytes:Int)*l):=by
   grind
  have hneg:¬l<0:=wA
  simp only[Instr.makeSlice,asInt,asIntOf,Sem.run_bind,run_underlying ht,Result.andThen_ok,Sem.run_pure,ztA hi,hw];by_cases hl0:l.toNat*z.length=0
  ·have hC0:C' = #[]:=by grind
   subst hC0;have hr0':Array.range 0=(#[]:Array Nat):=rfl;simp[hneg,Bf,zaJ hn,hl0,newRow,hr0']
  ·rw[<-hzs]at hl0 hC;simp[hneg,Bf,zaJ hn,<-hzs,hl0,newRow,zcJ hi hzv,hC]
 ·have:=VC.slice (σ:=σ) (j.put id l.toNat (.loc ⟨w.heap.size,0,z.length,C'.size⟩)) id l.toNat z.length 0 l.toNat none _ (some ⟨w.heap.size,0,none⟩) l.toNat (Inj.uZ _ _ _ _) (jm _) (by grind)
   (fun _=>⟨_,rfl,rfl,wD,by grind⟩)
  exact this
def zn9{esz:Nat}{rows:List (List Cl)}{f:Nat->Option Value}(hlen:∀row∈rows,row.length=esz)
  (h:∀(i:Nat) (row:List Cl) (n:Nat) (cl:Cl),rows[i]?=some row->row[n]?=some cl->∃v,f (i*esz+n)=some v/\VC σ zb1 cl v) :
  ∃news:List Value,zpF σ esz rows news.toArray/\∀(k:Nat) (u:Value),news[k]?=some u->f k=some u:=by
 have key:∀k,k<rows.length*esz->∃v,f k=some v:=by
  intro k hk;have uo:0<esz:=by
   grind
  have hi:k / esz<rows.length:=(yg uo).2 hk;have hr:=jq hi;have hn:k % esz<(rows[k / esz]).length:=by simp_all [jf,qF]
  obtain⟨v,hv,_⟩:=h _ _ _ _ hr (jq hn);have e:k / esz*esz+k % esz=k:=by grind [Nat.mul_comm,Nat.div_add_mod]
  grind
 refine⟨(List.range (rows.length*esz)).map fun k=>(f k).getD undef,⟨wD,hlen,fun i row n cl hi hn=>?_⟩,fun k u hu=>?_⟩
 ·have h1:=zjf (esz:=esz) (zC hi)
  grind
 grind
def zmC{esz:Nat}:zpF σ esz [] #[]:=⟨wD,wD,wD⟩
def zrI{id:Nat}{b:Blk}{L:Loc}{off len:Nat}(hm:MR own σ j M w)(hb:M[id]?=some (some b))(hL:j id b.gen=some (.loc L))(vD:b.box=false)(AZ:off+len<=b.rows.length) :
  ∃news:List Value,zpF σ b.esz ((b.rows.drop off).take len) news.toArray/\∀(k:Nat) (u:Value),news[k]?=some u->w.cell? ⟨L.blk,L.off+off*L.esz+k,none⟩=some u:=by
 obtain⟨pl,hpl,hbr,_⟩:=hm.blk id b hb;rw[hL]at hpl;cases hpl;refine zn9 (fun row hr=>hbr.len row (qp (qo hr))) (f:=fun k=>w.cell? ⟨L.blk,L.off+off*L.esz+k,none⟩) (fun i row n cl hi hn=>?_);have hi':b.rows[off+i]?=some row:=by
  grind
 obtain⟨v,h1,_,h2⟩:=hm.cell hb hL hi' hn;rw[if_neg (by grind)]at h2;refine⟨v,?_,h2⟩;rw[<-h1,hbr.esz,qi]
 grind
def zi7{esz:Nat}{x:Cl}{v:Value}{ys:List (List Cl)}(h:zeF M esz x=some ys)(hv:VC σ j x v)(hag:zM σ w)(hm:MR own σ j M w) :
  ∃(ad:Option Addr) (c:Nat) (news:List Value),v=.slice ad ys.length c/\zpF σ esz ys news.toArray/\(ys≠[]->∃b o,ad=some ⟨b,o,none⟩/\∀(k:Nat) (u:Value),news[k]?=some u->w.cell? ⟨b,o+k,none⟩=some u):=by
 unfold zeF at h;split at h
 ·cases h;cases hv;exact⟨none,0,[],rfl,zmC,fun h=>absurd rfl h⟩
 ·split at h
  ·cases h;cases hv with
   |jb _ e _ ad c b o val hl ha hr h1 h2 =>
    by_cases he:ys=[]
    ·subst he;exact⟨ad,c,[],rfl,zmC,fun h=>absurd rfl h⟩
    ·have hee:e=esz:=by
      cases ys with
      |nil=>grind
      |cons y ys =>
       grind
     subst hee;have ha':ad=some ⟨b,o,none⟩:=ha.resolve_left he;subst ha';obtain⟨news,hn1,hn2⟩:=zn9 hr (f:=fun k=>σ b (o+k)) (fun i row n cl hi hn=>⟨val i n,by grind,h2 i row n cl hi hn⟩);exact⟨_,c,news,rfl,hn1,fun _=>⟨b,o,rfl,fun k u hu=>hag.cells _ _ _ (hn2 k u hu)⟩⟩
  grind
 ·rename_i id g es off len cap;split at h
  ·rename_i b hb0;obtain⟨hb,rfl⟩:=zaz hb0;split at h
   ·rename_i hc;simp only[jk,qm,decide_eq_true_eq]at hc;obtain⟨⟨vD,Bc⟩,AZ⟩:=hc;cases h;cases hv with
    |slice _ _ _ _ _ _ _ pl ad c hj hl yY ha =>
     by_cases hc0:c=0
     ·have hl0:len=0:=wA
      subst hl0;exact⟨ad,c,[],rfl,zmC,fun h=>absurd rfl h⟩
     ·obtain⟨L,rfl,_,rfl,DA⟩:=ha hc0;obtain⟨news,hn1,hn2⟩:=zrI hm hb hj vD AZ;rw[Bc]at hn1;exact⟨_,c,news,by grind,hn1,fun _=>⟨_,_,rfl,hn2⟩⟩
   grind
  grind
 grind
theorem zdy{esz n len c:Nat}{ad:Option Addr}{news:List Value}(hl:news.length=n*esz)(h:n*esz≠0->∃b o,ad=some ⟨b,o,none⟩/\∀(k:Nat) (u:Value),news[k]?=some u->w.cell? ⟨b,o+k,none⟩=some u) :
  (Builtin.firstCells esz n (.slice ad len c)).run P w=.ok news.toArray w:=by
 by_cases h0:n*esz=0
 ·have:news=[]:=jN wA;subst this;cases ad with
  |none=>simp[Builtin.firstCells]
  |some b=>simp[Builtin.firstCells,h0,loadCells,loadCellsFrom]
 ·grind [run_firstCells_some,Addr.add_lit]
def zjc{t u ty e esz:Nat}{ad ax:Option Addr}{sl sc n cx:Nat}{news:List Value}{w':World}(ht:P.underlying t=some (.slice e))(hu:∃e',P.underlying u=some (.slice e'))(hs:zbL P e=some esz)(kA:sl+n<=sc)
  (hx:(Builtin.firstCells esz n (.slice ax n cx)).run P w=.ok news.toArray w) (hst:∀b,ad=some b->(storeCells (b.add (sl*esz)) news).run P w=.ok () w') (hn:ad=none->w'=w) :
  (Builtin.append_ #[t,u] ty #[.slice ad sl sc,.slice ax n cx]).run P w=.ok (.slice ad (sl+n) sc) w':=by
 obtain⟨e',hu⟩:=hu;cases ad with
 |none=>obtain rfl:=hn rfl;simp[Builtin.append_,run_underlying ht,run_underlying hu,zaJ hs,Builtin.lenOf,kA,hx]
 |some b=>simp[Builtin.append_,run_underlying ht,run_underlying hu,zaJ hs,Builtin.lenOf,kA,hx,hst b rfl]
def zlO{t u ty e esz bytes:Nat}{i:TypeInfo}{z:Value}{ad ax:Option Addr}{sl sc n cx:Nat}{AT news:List Value}(ht:P.underlying t=some (.slice e))(hu:∃e',P.underlying u=some (.slice e'))(hi:P.info? e=some i)(hz:i.zero=some z)
  (hs:zbL P e=some esz) (hb:zmi P e=some bytes) (hbp:0<bytes) (kA:sc<sl+n) (AZ:(sl+n)*bytes<=140737488355328)
  (hx:∀w':World,w'.heap=w.heap->(Builtin.firstCells esz n (.slice ax n cx)).run P w'=.ok news.toArray w') (ho:∀w':World,w'.heap=w.heap->(Builtin.firstCells esz sl (.slice ad sl sc)).run P w'=.ok AT.toArray w') :
  (Builtin.append_ #[t,u] ty #[.slice ad sl sc,.slice ax n cx]).run P w=.ok (.slice (some ⟨w.heap.size,0,none⟩) (sl+n) (grownCap w (sl+n) sc e))
   (w.drew.alloc (.cells (AT.toArray++news.toArray++Builtin.zeroCells z.cells (grownCap w (sl+n) sc e-(sl+n))) e)):=by
 obtain⟨e',hu⟩:=hu;have hib:i.bytes=bytes:=by grind [zmi]
 have hle:sl+n<=(sl+n)*bytes:=qV _ hbp;have hn:¬(sl+n<=sc):=wA
 have h63':¬(9223372036854775807<((sl:Int)+(n:Int))):=wA
 have h48':¬(281474976710656<Builtin.nextslicecap (sl+n) sc*i.bytes):=by simp_all [growslice_fits]
 have hf:=hx w.drew rfl;have hfo:=ho w.drew rfl;simp[Builtin.append_,run_underlying ht,run_underlying hu,zaJ hs,typeInfo,zeroValue,hi,hz,Builtin.lenOf,hn,h63',h48',Question.forced,hf,hfo,newRow,grownCap]
 grind
end
end Go.Eng
namespace Go.Eng
open Go
variable[zb0]
section
variable{own:Nat->Prop}{σ:zP}{j:Inj}{M:Mem}{w:World}{E:Nat->Option AV}{a:Act}{P:Program}
def zs5{M:Mem}{n id:Nat}{b:Blk}(h:M[id]?=some (some b)):(M++qC n)[id]?=some (some b):=by
 grind
def za2.Cd{n:Nat}{σ':zP}{j':Inj}{M':Mem}{w':World}(h:za2 own (M++qC n).length σ j (M++qC n) w σ' j' M' w'):za2 own M.length σ j M w σ' j' M' w':=by
 have h:=h.le (k':=M.length) wD;exact⟨h.sle,h.jle,h.size,h.frame,h.BX,fun id b hid hb=>h.ue id b hid (zs5 hb),h.side⟩
theorem zih{w':World}(h:w'.heap=w.heap)(a:Addr):w'.cell? a=w.cell? a:=by simp[World.cell?,h]
theorem zur{t u ty e esz bytes:Nat}{z:List Cl}{ad:Option Addr}{x:Cl}{vx:Value}{ys:List (List Cl)}(ht:P.underlying t=some (.slice e))(hu:∃e',P.underlying u=some (.slice e'))(hs:zbL P e=some esz)(hb:zmi P e=some bytes)
  (hz:zhL P e=some z) (hzn:z.length=esz) (hbp:0<bytes) (hx:zeF M esz x=some ys) (kA:roomy ys.length bytes=true) (uo:0<esz) (hvx:VC σ j x vx) (hag:zM σ w) (hm:MR own σ j M w) (hown:∀b,w.heap.size<=b->own b) :
  za0 own σ j M w (.w (.c (.slice M.length ys.length esz 0 ys.length none))) (M++[some { box:=false,esz,rows:=ys,gen:=ys.length,fz:=false,ver:=ys.length }]) ((Builtin.append_ #[t,u] ty #[.slice ad 0 0,vx]).run P w):=by
 obtain⟨i,zv,hi,hzv,hzc⟩:=zew hz;have hzs:zv.cells.size=esz:=by rw[<-hzn];simpa using(zdu (σ:=σ) (j:=j) hzc).1.symm
 obtain⟨ax,cx,news,rfl,hr,yk⟩:=zi7 hx hvx hag hm;have hnl:news.length=ys.length*esz:=by simpa using hr.1
 have Bj:(M++qC 1)[M.length]?=some none:=by simp[qC]
 have hlt:M.length<(M++qC 1).length:=by grind
 rw[<-zzu];have hf:∀w':World,w'.heap=w.heap->(Builtin.firstCells esz ys.length (.slice ax ys.length cx)).run P w'=.ok news.toArray w':=by
  intro w' hw';refine zdy hnl (fun h0=>?_);obtain⟨b,o,e1,e2⟩:=yk (by grind)
  grind [zih]
 by_cases hy:ys=[]
 ·subst hy;have Aw:news=[]:=jN (by grind);subst Aw;obtain⟨u4,hm'⟩:=(hm.qC 1).renew (w':=w) (b':={ box:=false,esz,rows:=[],gen:=0,fz:=false,ver:=0 }) (pl':=.empty) hlt (fun b hb=>by grind)
   (fun k b L _ hb hL=>⟨rfl,fun e=>by cases e⟩) ⟨rfl,rfl⟩ (fun L e=>by cases e)
  refine⟨.slice ad 0 0,w,σ,_,?_,?_,hag,hm',?_⟩
  ·exact zjc ht hu hs (jm _) (hf w rfl) (fun b _=>by simp[storeCells]) (fun _=>rfl)
  ·exact VC.slice _ M.length 0 esz 0 0 none _ ad 0 (Inj.uZ _ _ _ _) (jm _) wD (fun h=>absurd rfl h)
  ·refine⟨zP.le_refl _,fun id g pl _ h=>Inj.An u4 id g pl h,jm _,fun _ _ _=>rfl,fun _ _ _ h=>.inl h,fun id b hid hb=>⟨b,?_,jm _,fun _=>⟨rfl,fun _ _=>rfl⟩⟩,zd9.refl _⟩
   grind
 ·have hylen:0<ys.length:=kD.2 hy;have ui:=zlO (P:=P) (w:=w) (ty:=ty) (ad:=ad) (ax:=ax) (sl:=0) (sc:=0) (n:=ys.length) (cx:=cx) (AT:=[]) (news:=news) ht hu hi hzv hs hb hbp wA (by grind [roomy]) hf
   (fun w' _=>zdy (n:=0) wD (fun h=>by grind))
  simp only[jJ]at ui;generalize yY:grownCap w ys.length 0 e=cap at ui;have hge:ys.length<=cap:=by grind [grownCap_ge]
  generalize hC:(List.toArray []++news.toArray++Builtin.zeroCells zv.cells (cap-ys.length))=C at ui;have hCs:C.size=cap*esz:=by
   rw[<-hC];simp only[Array.size_append,uX,size_zeroCells,hzs,hnl,jp,jJ];rw[<-qi];grind
  obtain⟨_,yK,hm',hst⟩:=zmH (b':={ box:=false,esz,rows:=ys,gen:=ys.length,fz:=false,ver:=ys.length }) (C:=C) (T:=e) (w':=w.drew.alloc (.cells C e (0,0))) (hm.qC 1) hag hown hlt
   (fun b hb=>by grind) rfl (zd9.AK rfl rfl rfl) uo hr.2.1 (by grind) (fun k row m cl hk hmm=>by
    obtain⟨v,hv,hvc⟩:=hr.2.2 k row m cl hk hmm
    grind)
  refine⟨_,_,σ,_,ui,?_,yK,hm',hst.Cd⟩;have:=VC.slice (σ:=σ) (j.put M.length ys.length (.loc ⟨w.heap.size,0,esz,C.size⟩)) M.length ys.length esz 0 ys.length none _ (some ⟨w.heap.size,0,none⟩) cap (Inj.uZ _ _ _ _) hge wD
   (fun _=>⟨_,rfl,rfl,wD,by grind⟩)
  exact this
def zvJ{t u ty e esz bytes:Nat}{z:List Cl}{s x:Cl}{vs vx:Value}{av:AV}{M':Mem}{fp:FP}(ht:P.underlying t=some (.slice e))(hu:∃e',P.underlying u=some (.slice e'))(hs:zbL P e=some esz)(hb:zmi P e=some bytes)
  (hz:zhL P e=some z) (hzn:z.length=esz) (hbp:0<bytes) (h:zcB M esz bytes s x=some (av,M',fp)) (hvs:VC σ j s vs) (hvx:VC σ j x vx) (hag:zM σ w) (hm:MR own σ j M w) (hown:∀b,w.heap.size<=b->own b) :
  za0 own σ j M w av M' ((Builtin.append_ #[t,u] ty #[vs,vx]).run P w):=by
 unfold zcB at h;split at h
 ·grind
 ·rename_i ys hx;simp only at h;have u4:∀(ad:Option Addr) (sl c:Nat),ys=[]->vs=.slice ad sl c->sl<=c->za0 own σ j M w (.w (.c s)) M ((Builtin.append_ #[t,u] ty #[vs,vx]).run P w):=by
   rintro ad sl c rfl rfl hle;obtain⟨ax,cx,news,rfl,hr,yk⟩:=zi7 hx hvx hag hm;have hnl:news=[]:=jN (by simpa using hr.1);subst hnl;have ui:=zjc (P:=P) (w:=w) (ty:=ty) (ad:=ad) (ax:=ax) (sl:=sl) (sc:=c) (n:=0) (cx:=cx) (news:=[]) (w':=w) ht hu hs (by grind)
    (zdy (n:=0) wD (fun h=>by grind)) (fun b _=>by simp[storeCells]) (fun _=>rfl)
   exact za0.same ui (show AVR σ j (.w (.c s)) _ from hvs) hag hm
  split at h
  ·split at h
   ·rename_i Af;cases h;cases hvs
    grind
   ·split at h
    ·rename_i hc;simp only[jk,decide_eq_true_eq]at hc;cases h;cases hvs
     grind [zur]
    grind
  ·split at h
   ·rename_i Af;cases h;cases hvs with
    |jb _ _ _ ad c b o val hl ha hr h1 h2=>grind
   grind
  ·rename_i id g es off len cap;split at h
   ·rename_i b hb0;obtain⟨hbk,Bb⟩:=zaz hb0;subst Bb;split at h
    ·rename_i hc;simp only[jk,Av,qm,decide_eq_true_eq]at hc;obtain⟨⟨⟨⟨⟨vD,Bc⟩,uo⟩,AZ⟩,hfz⟩,Dt⟩:=hc;by_cases Af:ys=[]
     ·rw[if_pos (by grind)]at h;cases h;cases hvs with
      |slice _ _ _ _ _ _ _ pl ad c hj hl yY ha=>grind
     rw[if_neg (by grind)]at h;have hylen:0<ys.length:=kD.2 Af;cases h;have Dt:(len+ys.length)*bytes<=140737488355328:=by grind [roomy]
     obtain⟨i,zv,hi,hzv,hzc⟩:=zew hz;have hzs:zv.cells.size=esz:=by rw[<-hzn];simpa using(zdu (σ:=σ) (j:=j) hzc).1.symm
     obtain⟨ax,cx,news,rfl,hr,yk⟩:=zi7 hx hvx hag hm;have hnl:news.length=ys.length*esz:=by simpa using hr.1
     have hf:∀w':World,w'.heap=w.heap->(Builtin.firstCells esz ys.length (.slice ax ys.length cx)).run P w'=.ok news.toArray w':=by
      intro w' hw';refine zdy hnl (fun h0=>?_);obtain⟨b,o,e1,e2⟩:=yk (by grind)
      grind [zih]
     have Aq:((b.rows.drop off).take len).length=len:=by grind
     have hlt:=zC hbk;have hrl:∀pl,j id b.gen=some pl->∀row∈(b.rows.drop off).take len++ys,row.length=b.esz:=by
      intro pl hpl row hrow;rcases jL.1 hrow with q|q
      ·obtain⟨pl',yW,hbr,_⟩:=hm.blk id b hbk;have q':=qp (qo q);cases pl' with
       |empty=>rw[hbr.1]at q';grind
       |rnd l r f sh=>rw[(hbr:RB σ j b l r f sh w).box]at vD;grind
       |mp l g=>rw[(hbr:MB σ j b l g w).box]at vD;grind
       |mi l=>rw[(hbr:IB σ j b l w).box]at vD;grind
       |loc L=>exact(hbr:BL σ j b L w).len row q'
      ·rw[Bc];exact hr.2.1 row q
     cases hvs with
     |slice _ _ _ _ _ _ _ pl ad c hj hl yY ha =>
      by_cases hrm:len+ys.length<=c
      ·by_cases hc0:c=0
       ·omega
       ·obtain⟨L,rfl,_,rfl,DA⟩:=ha hc0;obtain⟨pl',yW,hbr,hown'⟩:=hm.blk id b hbk;rw[hj]at yW;cases yW;have hbr:BL σ j b L w:=hbr;obtain⟨C,T,hC,hsz,hrow⟩:=hbr.heap;have hes:L.esz=esz:=by rw[hbr.esz,Bc]
        have Dx:∀v∈news,v.oneCell'=true:=by
         intro v hv;obtain⟨k,hk⟩:=j7 hv;have hkl:=zC hk;have Dv:=uo;have hi':k / esz<ys.length:=(yg Dv).2 wA;have hri:=jq hi';have hn':k % esz<(ys[k / esz]).length:=by simp_all [jf,qF]
         obtain⟨v',hv',hvc⟩:=hr.2.2 _ _ _ _ hri (jq hn');have e1:k / esz*esz+k % esz=k:=by grind [Nat.mul_comm,Nat.div_add_mod]
         rw[e1]at hv';have e2:news[k]?=some v':=by grind
         rw[hk]at e2;cases e2;exact hvc.BZ
        have hmul:(off+c)*L.esz=off*L.esz+c*L.esz:=qi _ _ _;have hmul2:(len+ys.length)*L.esz<=c*L.esz:=kh _ hrm;have hmul3:(len+ys.length)*L.esz=len*L.esz+ys.length*L.esz:=qi _ _ _;have hnl':news.length=ys.length*L.esz:=by grind
        have hroomC:L.off+off*L.esz+len*L.esz+news.length<=C.size:=wA
        have hst:=run_storeCells_at P L.blk (L.off+off*L.esz+len*L.esz) T news 0 C w hC wA Dx;simp only[uL]at hst;generalize hC':(C.toList.take (L.off+off*L.esz+len*L.esz)++news++C.toList.drop (L.off+off*L.esz+len*L.esz+news.length)).toArray=C' at hst;have BU:C'.size=C.size:=by grind
        have vL:∀p,C'[p]?=if p<L.off+off*L.esz+len*L.esz then C[p]? else if p<L.off+off*L.esz+len*L.esz+news.length then news[p-(L.off+off*L.esz+len*L.esz)]? else C[p]?:=by
         intro p;rw[<-hC',ul,zdb _ _ _ (by simpa using hroomC)];simp
        have yA:(w.setRow L.blk C').heap[L.blk]?=some (.cells C' T (0,0)):=setRow_heap w _ C C' T _ hC;have hbe:L.esz=b.esz:=hbr.esz;have hfitb:(off+len)*b.esz<=b.rows.length*b.esz:=kh _ AZ;have hmul4:(off+len)*b.esz=off*b.esz+len*b.esz:=qi _ _ _;have CT:(len+ys.length)*b.esz=len*b.esz+ys.length*b.esz:=qi _ _ _;have hsnone:∀o,L.off+off*L.esz+len*L.esz<=o->σ L.blk o=none:=by
         intro o ho;refine hbr.A5 o wA (fun hfzt=>?_);rcases hfz with h|h
         ·rw[hfzt]at h;cases h
         ·rw[<-h,hmul4,<-hbe];omega
        obtain⟨u4,hm'⟩:=hm.renew (w':=w.setRow L.blk C') (id:=id) (b':={ b with rows:=(b.rows.drop off).take len++ys,gen:=b.gen+ys.length,ver:=b.ver+ys.length }) (pl':=.loc ⟨L.blk,L.off+off*L.esz,b.esz,L.tot⟩) hlt
         (fun b0 hb0=>by rw[hbk]at hb0;cases hb0;simp;try omega)
         (fun k b2 q hk hb2 hL2=>⟨setRow_other w _ _ _ (fun e=>hk (hm.vz k id b2 b q hb2 hbk hL2 (by rw[e];exact Inj.vI hj))),fun e=>by cases e;exact hk (hm.vz k id b2 b L.blk hb2 hbk hL2 (Inj.vI hj))⟩)
         (⟨rfl,hbr.pos,hrl _ hj,by simp only[jF,Aq];rw[CT,<-hbe];omega,⟨C',T,yA,by rw[BU,hsz],fun k row n cl hk hn=>by
           simp only[vD,jI,if_false]at hk ⊢;rw[ut]at hk;split at hk
           ·rename_i hkl;rw[Aq]at hkl;have hk':b.rows[off+k]?=some row:=by
             rw[vO,if_pos hkl]at hk;simpa using hk
            obtain⟨v,hv,hvc⟩:=hrow (off+k) row n cl hk' hn;rw[if_neg (by simp[vD])]at hvc;refine⟨v,?_,hvc⟩;have h1:=zjf (esz:=b.esz) hkl;have h2:=hbr.len row (zat hk');have h3:=zC hn;have h4:(off+k)*b.esz=off*b.esz+k*b.esz:=qi _ _ _;rw[vL,if_pos (by rw[hbe];omega),<-hv]
            congr 1
            rw[h4,hbe];omega
           ·rename_i hkl;rw[Aq]at hkl hk;obtain⟨v,hv,hvc⟩:=hr.2.2 (k-len) row n cl hk hn;refine⟨v,?_,hvc⟩;have h1:=zjf (esz:=esz) (zC hk);have h2:=hr.2.1 row (zat hk);have h3:=zC hn;have h4:k*b.esz=len*b.esz+(k-len)*b.esz:=by rw[<-qi];congr 1;omega
            rw[vL,if_neg (by rw[h4,hbe];omega),if_pos (by rw[h4,hbe,hnl,Bc];omega)];have e5:L.off+off*L.esz+k*b.esz+n-(L.off+off*L.esz+len*L.esz)=(k-len)*esz+n:=by rw[h4,hbe,Bc];omega
            rw[e5];simpa using hv⟩,fun o h1 h2=>by
           refine hbr.A5 o (by simp only at h1;omega) (fun hfzt=>?_);have h2:=h2 hfzt;simp only[jF,Aq]at h2;rcases hfz with h|h
           ·rw[hfzt]at h;cases h
           ·rw[<-h,hmul4];rw[CT,hbe]at h2;omega⟩:BL σ _ { b with rows:=(b.rows.drop off).take len++ys,gen:=b.gen+ys.length,ver:=b.ver+ys.length } ⟨L.blk,L.off+off*L.esz,b.esz,L.tot⟩ _) (fun L' e=>by cases e;exact hown' L rfl) (fun q=>by exfalso;have q:b.gen+ys.length=0:=q;omega)
        refine⟨.slice (some ⟨L.blk,L.off+off*L.esz,none⟩) (len+ys.length) c,_,σ,_,?_,?_,?_,hm',?_⟩
        ·refine zjc ht hu hs hrm (hf w rfl) (fun b' hb'=>?_) (fun h=>by cases h);cases hb';rw[Addr.add_lit,<-hes];exact hst
        ·refine VC.slice _ id (b.gen+ys.length) esz 0 (len+ys.length) none _ _ c (Inj.uZ _ _ _ _) hrm wD (fun _=>⟨_,rfl,Bc,wD,?_⟩);simp only[jJ];rw[<-hbe];omega
        ·refine⟨?_,hag.kZ⟩;intro k o v hv;have hold:=hag.cells k o v hv;by_cases hkk:k=L.blk
         ·subst hkk;have hlo:o<L.off+off*L.esz+len*L.esz:=by
           rcases qG o (L.off+off*L.esz+len*L.esz)with h|h
           ·exact h
           ·rw[hsnone o h]at hv;cases hv
          simp only[World.cell?,hC,kQ,jI,if_false]at hold;simp only[World.cell?,yA,kQ,jI,if_false];rw[vL,if_pos hlo];exact hold
         ·simpa [World.cell?,setRow_other w L.blk k C' hkk]using hold
        ·refine⟨zP.le_refl _,fun id' g pl _ h=>Inj.An u4 id' g pl h,by simp[World.setRow],fun k _ ho=>setRow_other w _ _ _ (fun e=>ho (e ▸ hown' L rfl)),fun _ _ _ h=>.inl h,fun id' b0 hid hb0=>?_,zd9.setRow _ _ _⟩;by_cases hii:id=id'
         ·subst hii;rw[hbk]at hb0;cases hb0;exact⟨_,by simp[hlt];rfl,wD,fun h=>by dsimp only at h;omega⟩
         ·exact⟨b0,by rw[jz hii];exact hb0,jm _,fun _=>⟨rfl,fun L' hL'=>setRow_other w _ _ _ (fun e=>hii (hm.vz id id' b b0 L' hbk hb0 (by rw[e];exact Inj.vI hj) hL'))⟩⟩
      ·
       have holds:∃AT:List Value,zpF σ esz ((b.rows.drop off).take len) AT.toArray/\∀w':World,w'.heap=w.heap->(Builtin.firstCells esz len (.slice ad len c)).run P w'=.ok AT.toArray w':=by
        by_cases hc0:c=0
        ·have hl0:len=0:=wA
         subst hl0;have e0:(b.rows.drop off).take 0=[]:=wD
         rw[e0];exact⟨[],zmC,fun w' _=>zdy (n:=0) wD (fun h=>by simp at h)⟩
        ·obtain⟨L,rfl,_,rfl,DA⟩:=ha hc0;obtain⟨AT,h1,h2⟩:=zrI hm hbk hj vD AZ;rw[Bc]at h1;refine⟨AT,h1,fun w' hw'=>zdy (by have:=h1.1;rw[Aq]at this;simpa using this) (fun _=>⟨_,_,rfl,fun k u hu=>by rw[zih hw'];exact h2 k u hu⟩)⟩
       obtain⟨AT,hro,hfo⟩:=holds;have hol:AT.length=len*esz:=by have:=hro.1;rw[Aq]at this;simpa using this
       have ui:=zlO (P:=P) (w:=w) (ty:=ty) (ad:=ad) (ax:=ax) (sl:=len) (sc:=c) (n:=ys.length) (cx:=cx) (AT:=AT) (news:=news) ht hu hi hzv hs hb hbp wA Dt hf hfo;generalize yY:grownCap w (len+ys.length) c e=cp at ui;have hge:len+ys.length<=cp:=by rw[<-yY];exact grownCap_ge w _ _ _
       generalize hC:(AT.toArray++news.toArray++Builtin.zeroCells zv.cells (cp-(len+ys.length)))=C at ui;have hCs:C.size=cp*esz:=by
        rw[<-hC];simp only[Array.size_append,uX,size_zeroCells,hzs,hnl,hol];rw[<-qi,<-qi];congr 1;omega
       have CT:(len+ys.length)*esz<=cp*esz:=kh _ hge;obtain⟨_,yK,hm',hst⟩:=zmH (b':={ b with rows:=(b.rows.drop off).take len++ys,gen:=b.gen+ys.length,ver:=b.ver+ys.length }) (C:=C) (T:=e) (w':=w.drew.alloc (.cells C e (0,0))) hm hag hown hlt
        (fun b0 hb0=>by rw[hbk]at hb0;cases hb0;simp;try omega) rfl (zd9.AK rfl rfl rfl) (by simp only;rw[Bc];exact uo) (hrl _ hj) (by simp only[jF,Aq];rw[hCs,Bc];exact CT) (fun k row m cl hk hmm=>by
         simp only[vD,jI,if_false]at hk ⊢;rw[Bc];rw[ut]at hk;split at hk
         ·obtain⟨v,hv,hvc⟩:=hro.2.2 k row m cl hk hmm;refine⟨v,?_,hvc⟩;have hlt':k*esz+m<AT.length:=by
           have:=(jV.1 hv).1;simpa using this
          rw[<-hC,Array.append_assoc,k9 (by simpa using hlt')];exact hv
         ·rename_i hkl;rw[Aq]at hkl hk;obtain⟨v,hv,hvc⟩:=hr.2.2 (k-len) row m cl hk hmm;refine⟨v,?_,hvc⟩;have hlt':(k-len)*esz+m<news.length:=by
           have:=(jV.1 hv).1;simpa using this
          have h4:k*esz=len*esz+(k-len)*esz:=by rw[<-qi];congr 1;omega
          rw[<-hC,Array.append_assoc,yG (by simp;omega),k9 (by simp;omega)];have e5:k*esz+m-AT.toArray.size=(k-len)*esz+m:=by simp;omega
          rw[e5];exact hv)
       refine⟨_,_,σ,_,ui,?_,yK,hm',hst⟩;have:=VC.slice (σ:=σ) (j.put id (b.gen+ys.length) (.loc ⟨w.heap.size,0,b.esz,C.size⟩)) id (b.gen+ys.length) esz 0 (len+ys.length) none _ (some ⟨w.heap.size,0,none⟩) cp (Inj.uZ _ _ _ _) hge wD
        (fun _=>⟨_,rfl,Bc,wD,by simp[hCs,Bc]⟩)
       exact this
    grind
   grind
  grind
end
end Go.Eng
namespace Go.Eng
open Go
variable[zb0]
section
variable{own:Nat->Prop}{σ:zP}{j:Inj}{M:Mem}{w:World}{E:Nat->Option AV}{a:Act}{P:Program}
theorem zxd(hG:GK σ)(hE:zcs σ j E a.tmps){x:Operand}{o:Opd}{top n:Nat}{code:BoundsCode}(ho:za5 x=some o)(h:zcy E (some o) 0 top=some n):(Instr.sliceBound (a.eval x) top code).run P w=.ok n w/\n<=top:=by
 simp only[zcy]at h;split at h
 ·rename_i k v hv;have hr:=zWl hG hE ho hv;have:a.eval x=.int k v:=zef hr;unfold zgN at h;split at h
  ·cases h
   simp_all [Instr.sliceBound,asIntOf]
  grind
 grind
def ziT(hG:GK σ)(hE:zcs σ j E a.tmps){lo hi mx:Option Operand}{lo' hi' mx':Option Opd}{len c:Nat}{cap:Option Nat}{l n:Nat}{c':Option Nat}(h1:zeh lo=some lo')(h2:zeh hi=some hi')(h3:zeh mx=some mx')
  (hlc:len<=c) (yY:∀k,cap=some k->c=k) (h:sliceB E len cap lo' hi' mx'=some (l,n,c')) :
  ∃m:Nat,(Instr.sliceBounds true len c (lo.map a.eval) (hi.map a.eval) (mx.map a.eval)).run P w=.ok (l,l+n,m) w/\l+n<=m/\m<=c/\l<=m/\(∀k,c'=some k->m-l=k)/\(cap=none->l+n<=len):=by
 have hc0:zxn len cap<=c:=by
  cases cap with
  |none=>exact hlc
  |some k=>exact Nat.le_of_eq (yY k rfl).symm
 have lift:∀{x:Operand} {o:Opd} {top top' n:Nat} {code:BoundsCode},za5 x=some o->zcy E (some o) 0 top=some n->top<=top'->(Instr.sliceBound (a.eval x) top' code).run P w=.ok n w/\n<=top:=by
  grind [zxd,zcy,zWl,zef,zgN,Instr.sliceBound,asIntOf]
 unfold sliceB at h;split at h
 ·
  rename_i hmx;have hmxn:mx=none:=by
   cases mx with
   |none=>rfl
   |some x=>simp[zeh]at h3
  subst hmxn;split at h
  ·rename_i hh hhi;split at h
   ·rename_i ll hll;cases h;have qh:(match hi.map a.eval with |some v=>Instr.sliceBound v c .sliceAcap |none=>pure len:Sem Nat).run P w=.ok hh w/\hh<=c/\(cap=none->hh<=len):=by
     cases hi with
     |none =>
      simp[zeh]at h2;subst h2;simp only[zcy,ji]at hhi;rw[<-hhi];exact⟨rfl,hlc,fun _=>jm _⟩
     |some x =>
      simp only[zeh,ja]at h2;obtain⟨o,ho,rfl⟩:=h2;obtain⟨e1,e2⟩:=lift (code:=.sliceAcap) ho hhi hc0;exact⟨e1,wA,fun h=>by rw[h]at e2;exact e2⟩
    obtain⟨qh1,qh2,qh3⟩:=qh;have ql:(match lo.map a.eval with |some v=>Instr.sliceBound v hh .sliceB |none=>pure 0:Sem Nat).run P w=.ok l w/\l<=hh:=by
     cases lo with
     |none =>
      simp[zeh]at h1;subst h1;simp only[zcy,ji]at hll;rw[<-hll];simp
     |some x =>
      simp only[zeh,ja]at h1;obtain⟨o,ho,rfl⟩:=h1;obtain⟨e1,e2⟩:=lift (code:=.sliceB) ho hll (jm _)
      grind
    obtain⟨ql1,ql2⟩:=ql;have e:l+(hh-l)=hh:=wA
    refine⟨c,?_,wA,jm _,wA,fun k hk=>?_,fun h=>by grind⟩
    ·rw[e];clear e;revert qh1 ql1;generalize hi.map a.eval=hv;generalize lo.map a.eval=lv;intro qh1 ql1;cases hv<;>cases lv<;>simp only[Sem.run_pure,Result.ok.injEq,and_true]at qh1 ql1<;>simp[Instr.sliceBounds,qh1,ql1]
    ·simp only[ja]at hk
     grind
   grind
  grind
 ·
  rename_i mo;obtain⟨mx0,rfl⟩:∃x,mx=some x:=by
   cases mx with
   |none=>grind [zeh]
   |some x=>grind
  simp only[zeh,ja]at h3;obtain⟨mo',hmo,hmo'⟩:=h3;cases hmo';split at h
  ·rename_i m hm;split at h
   ·rename_i hh hhi;split at h
    ·rename_i ll hll;split at h
     ·rename_i hsome;cases h;obtain⟨e1,e2⟩:=lift (code:=.slice3Acap) hmo hm hc0;obtain⟨x,rfl⟩:∃x,hi=some x:=by
       cases hi with
       |none=>grind [zeh]
       |some x=>grind
      simp only[zeh,ja]at h2;obtain⟨o,ho,rfl⟩:=h2;obtain⟨e3,e4⟩:=lift (code:=.slice3B) ho hhi (jm _);have ql:(match lo.map a.eval with |some v=>Instr.sliceBound v hh .slice3C |none=>pure 0:Sem Nat).run P w=.ok l w/\l<=hh:=by
       cases lo with
       |none =>
        simp[zeh]at h1;subst h1;simp only[zcy,ji]at hll;rw[<-hll];simp
       |some x =>
        simp only[zeh,ja]at h1;obtain⟨o,ho,rfl⟩:=h1;obtain⟨e1,e2⟩:=lift (code:=.slice3C) ho hll (jm _)
        grind
      obtain⟨ql1,ql2⟩:=ql;have e:l+(hh-l)=hh:=wA
      refine⟨m,?_,wA,wA,wA,fun k hk=>by grind,fun h=>by rw[h]at e2;have e2':m<=len:=e2;omega⟩;rw[e];clear e;revert ql1;generalize lo.map a.eval=lv;intro ql1;cases lv<;>simp only[Sem.run_pure,Result.ok.injEq,and_true]at ql1<;>simp[Instr.sliceBounds,e1,e3,ql1]
     grind
    grind
   grind
  grind
def zwj(hG:GK σ)(hE:zcs σ j E a.tmps){t e es:TypeId}{x:Cl}{vx:Value}{lo hi mx:Option Operand}{lo' hi' mx':Option Opd}{y:Cl}(ht:P.underlying t=some (.slice e))(hes:zbL P e=some es)
  (hx:VC σ j x vx) (h1:zeh lo=some lo') (h2:zeh hi=some hi') (h3:zeh mx=some mx') (h:znj E es x lo' hi' mx'=some y) :
  ∃v,(Instr.sliceAt t vx (lo.map a.eval) (hi.map a.eval) (mx.map a.eval)).run P w=.ok v w/\VC σ j y v:=by
 unfold znj at h;cases hx with
 |slice _ id g es' off len cap pl ad c hj hl yY ha =>
  simp only at h;split at h
  ·rename_i hee;subst hee;split at h
   ·rename_i l n c' hs;cases h;obtain⟨m,hb,q1,q2,q3,q4,q5⟩:=ziT (P:=P) (w:=w) hG hE h1 h2 h3 hl yY hs;refine⟨.slice (if m=l then ad else ad.map (·.add (l*es'))) (l+n-l) (m-l),?_,?_⟩
    ·simp[Instr.sliceAt,Instr.slice,run_underlying ht,hb,zaJ hes]
    ·have e:l+n-l=n:=wA
     rw[e];refine .slice _ id g es' (off+l) n c' pl _ (m-l) hj wA (fun k hk=>q4 k hk) (fun hne=>?_);have hml:m≠l:=wA
     obtain⟨L,rfl,hLe,rfl,hf⟩:=ha wA;refine⟨L,rfl,hLe,?_,?_⟩
     ·simp_all [if_neg,qX,Addr.add_lit,qi,qf]
     ·have:(off+l+(m-l))*L.esz<=(off+c)*L.esz:=kh _ wA;omega
   grind
  grind
 |jb _ esz rows ad c b o val hl ha hr hh1 hh2 =>
  simp only at h;split at h
  ·rename_i l n c' hs;split at h
   ·rename_i hle;obtain⟨hle,Af⟩:=hle;cases h;obtain⟨m,hb,q1,q2,q3,q4,q5⟩:=ziT (P:=P) (w:=w) hG hE h1 h2 h3 hl wD hs;have hlen:((rows.drop l).take n).length=n:=by grind
    refine⟨.slice (if m=l then ad else ad.map (·.add (l*es))) (l+n-l) (m-l),?_,?_⟩
    ·simp[Instr.sliceAt,Instr.slice,run_underlying ht,hb,zaJ hes]
    ·have e:l+n-l=n:=wA
     rw[e];by_cases hne:(rows.drop l).take n=[]
     ·rw[hne];have hn0:n=0:=by grind
      subst hn0;exact VC.jb _ esz [] _ (m-l) 0 0 (fun _ _=>undef) wD (.inl rfl) wD wD wD
     ·have hrne:rows≠[]:=by grind
      have hee:esz=es:=by
       cases rows with
       |nil=>grind
       |cons y ys =>
        grind
      have had:=ha.resolve_left hrne;subst had;have hn:n≠0:=by grind
      have get:∀(i:Nat) (row:List Cl),((rows.drop l).take n)[i]?=some row->rows[l+i]?=some row:=by
       grind
      have:=VC.jb (σ:=σ) j esz ((rows.drop l).take n) (some ⟨b,o+l*es,none⟩) (m-l) b (o+l*es) (fun i k=>val (l+i) k) (by grind) (.inr rfl)
       (fun row hr'=>hr row (qp (qo hr'))) (fun i row k cl hi hk=>by
        grind) (fun i row k cl hi hk=>hh2 (l+i) row k cl (get i row hi) hk)
      rw[hlen]at this;have hml:m≠l:=wA
      simp_all [if_neg,Addr.add_lit]
   grind
  grind
 |jc =>
  simp only at h;split at h
  ·rename_i r hs;cases h;obtain⟨l,n,c'⟩:=r;obtain⟨m,hb,q1,q2,q3,q4,q5⟩:=ziT (P:=P) (w:=w) (c:=0) hG hE h1 h2 h3 (jm _) wD hs;refine⟨.slice (if m=l then none else none) (l+n-l) (m-l),?_,?_⟩
   ·simp_all [Instr.sliceAt,Instr.slice,run_underlying,zaJ]
   ·have e1:l+n-l=0:=wA
    have e2:m-l=0:=wA
    rw[e1,e2];simp;exact .jc _
  grind
 |bsl _ id g i k es' len cap L ad hj hl ha =>
  simp only at h;split at h
  ·rename_i hee;subst hee;split at h
   ·rename_i l n c hs;cases h;obtain⟨m,hb,q1,q2,q3,q4,q5⟩:=ziT (P:=P) (w:=w) (c:=cap) hG hE h1 h2 h3 hl (fun c' hc'=>by grind) hs;refine⟨.slice (if m=l then some ad else(some ad).map (·.add (l*es'))) (l+n-l) (m-l),?_,?_⟩
    ·simp_all [Instr.sliceAt,Instr.slice,run_underlying,zaJ]
    ·have e:l+n-l=n:=wA
     have ec:m-l=c:=q4 c rfl;rw[e,ec];have hh:=VC.bsl (σ:=σ) j id g i (k+l*es') es' n c L (if m=l then ad else ad.add (l*es')) hj wA (fun hne=>by
      have hml:m≠l:=wA
      rw[if_neg hml,ha wA]
      grind [Addr.add_lit])
     grind
   grind
  grind
 |_=>cases h
end
end Go.Eng
namespace Go.Eng
open Go
variable[zb0]
section
variable{own:Nat->Prop}{σ:zP}{j:Inj}{M:Mem}{w:World}{E:Nat->Option AV}{a:Act}{P:Program}{cf:za4}
def zg9{n:Int}{len i:Nat}(h:zmk n len=some i):0<=n/\n<len/\n.toNat=i/\i<len:=by
 grind [zmk]
def zwV{t e es:TypeId}{x i:Cl}{y:Cl}(ht:P.underlying t=some (.slice e))(hes:zbL P e=some es)(h:zt5 es x i=some y){vx vi:Value} :
  VC σ j x vx->VC σ j i vi->∃v,(Instr.indexAt t vx vi).run P w=.ok v w/\VC σ j y v:=by
 unfold zt5 at h;split at h
 ·rename_i id g es' off len cap kk n;split at h
  ·rename_i k hk;split at h
   ·rename_i hee;subst hee;cases h;intro hx hi;obtain⟨h1,h2,h3,h4⟩:=zg9 hk;obtain rfl:=zef hi;cases hx with
    |slice _ _ _ _ _ _ _ pl ad c hj hl yY ha =>
     obtain⟨L,rfl,hLe,rfl,hf⟩:=ha wA;refine⟨_,?_,.ptr _ id g (off+k) 0 L hj⟩;have:(0:Int)<=n/\n<(len:Int):=⟨h1,h2⟩;simp[Instr.indexAt,asIntOf,run_underlying ht,this,zaJ hes,h3,Addr.add_lit];rw[hLe,qi];omega
   ·cases h
  ·cases h
 ·rename_i rows kk n;split at h
  ·rename_i k hk;split at h
   ·rename_i row hrow;split at h
    ·rename_i hee;subst hee;cases h;intro hx hi;obtain⟨h1,h2,h3,h4⟩:=zg9 hk;obtain rfl:=zef hi;cases hx with
     |jb _ e' _ ad c b o val hl ha hr hh1 hh2 =>
      have he':e'=row.length:=(hr row (zat hrow)).symm;subst he';have had:=ha.resolve_left (by rintro rfl;simp at hrow);subst had;refine⟨_,?_,.uQ _ row 0 b (o+k*row.length) (fun m=>val k m) (fun m c hc=>hh1 k row m c hrow hc) (fun m c hc=>hh2 k row m c hrow hc)⟩;have:(0:Int)<=n/\n<(rows.length:Int):=⟨h1,h2⟩;simp[Instr.indexAt,asIntOf,run_underlying ht,this,zaJ hes,h3,Addr.add_lit]
    ·cases h
   ·cases h
  ·cases h
 ·rename_i id g i k es' len cap kk n;split at h
  ·rename_i q hq;split at h
   ·rename_i hee;subst hee;cases h;intro hx hi;obtain⟨h1,h2,h3,h4⟩:=zg9 hq;obtain rfl:=zef hi;cases hx with
    |bsl _ _ _ _ _ _ _ _ L ad hj hl ha =>
     rw[ha wA];refine⟨_,?_,.ptr _ id g i (k+q*es') L hj⟩;have:(0:Int)<=n/\n<(len:Int):=⟨h1,h2⟩;simp[Instr.indexAt,asIntOf,run_underlying ht,this,zaJ hes,h3,Addr.add_lit];omega
   ·cases h
  ·cases h
 ·cases h
def zxe{t e es len:TypeId}{x i:Cl}{y:Cl}(ht:P.underlying t=some (.array len e))(hes:zbL P e=some es)(h:zus len es x i=some y){vx vi:Value} :
  VC σ j x vx->VC σ j i vi->∃v,(Instr.indexAt t vx vi).run P w=.ok v w/\VC σ j y v:=by
 unfold zus at h;split at h
 ·rename_i id g r k kk n;split at h
  ·rename_i q hq;cases h;intro hx hi;obtain⟨h1,h2,h3,h4⟩:=zg9 hq;obtain rfl:=zef hi;cases hx with
   |ptr _ _ _ _ _ L hL =>
    refine⟨_,?_,.ptr _ id g r (k+q*es) L hL⟩;have:(0:Int)<=n/\n<(len:Int):=⟨h1,h2⟩;simp[Instr.indexAt,asIntOf,run_underlying ht,this,zaJ hes,h3,Addr.add_lit,Instr.sureAddr,qf]
  ·cases h
 ·rename_i r k kk n;split at h
  ·rename_i q hq;cases h;intro hx hi;obtain⟨h1,h2,h3,h4⟩:=zg9 hq;obtain rfl:=zef hi;cases hx with
   |uQ _ _ _ b o val hh1 hh2 =>
    refine⟨_,?_,.uQ _ r (k+q*es) b o val hh1 hh2⟩;have:(0:Int)<=n/\n<(len:Int):=⟨h1,h2⟩;simp[Instr.indexAt,asIntOf,run_underlying ht,this,zaJ hes,h3,Addr.add_lit,Instr.sureAddr,qf]
  ·cases h
 ·cases h
def zsW{f:TypeId}{agg:Bool}{n off:Nat}{cs cs':List Cl}{arr:Array Value}{x:WV}(hn:zbL P f=some n)(hg:zeU P f=some agg)(hv:VCs σ j cs arr.toList)(hc:cut cs off (if agg then n else 1)=some cs')(hx:zaI agg cs'=some x) :
  ∃v,(Go.part f arr off).run P w=.ok v w/\WVR σ j x v:=by
 obtain⟨hl,hk,kY⟩:=zmL hc;have hs:=(hv.drop off).take (if agg then n else 1);unfold cut at hc;rw[if_pos hk]at hc;cases hc;refine⟨_,?_,WVR.Az _ hs hx⟩;cases agg with
 |true =>
  have e:arr.extract off (off+n)=(List.take n (List.drop off arr.toList)).toArray:=by
   apply qz;simp[Array.toList_extract,List.extract_eq_take_drop]
  simp[Go.part,zfc hg,zaJ hn,e]
 |false =>
  simp only[jI,if_false]at hk hs ⊢;have hlt:off<arr.size:=by have:=hv.1;simp at this;omega
  have hlt':off<arr.toList.length:=by simpa using hlt
  rw[jv hlt'];simp[Go.part,zfc hg,hlt]
def zl6{b o:Nat}{f:Field}{n:Nat}(hn:zbL P f.type=some n)(h0:n≠0):(fieldPlace ⟨b,o,none⟩ f).run P w=.ok ⟨b,o+f.offset,none⟩ w:=by
 simp[fieldPlace,zaJ hn,h0,Addr.add_lit]
def zwY{t:TypeId}{fs:Array Field}{fi:Nat}{f:Field}{n:Nat}{p y:Cl}{vp:Value}(ht:P.underlying t=some (.struct fs))(hf:fs[fi]?=some f)(hn:zbL P f.type=some n)(h0:n≠0)
  (h:zt9 f.offset p=some y):VC σ j p vp->∃v,(Instr.fieldAt t vp fi).run P w=.ok v w/\VC σ j y v:=by
 unfold zt9 at h;split at h
 ·rename_i id g i k;cases h;intro hp;cases hp with
  |ptr _ _ _ _ _ L hL =>
   refine⟨_,?_,.ptr _ id g i (k+f.offset) L hL⟩;simp[Instr.fieldAt,run_underlying ht,hf,Instr.sureAddr,zl6 hn h0,qf]
 ·rename_i r k;cases h;intro hp;cases hp with
  |uQ _ _ _ b o val h1 h2 =>
   refine⟨_,?_,.uQ _ r (k+f.offset) b o val h1 h2⟩;simp[Instr.fieldAt,run_underlying ht,hf,Instr.sureAddr,zl6 hn h0,qf]
 ·cases h
def zoT{mx:Bool}:∀{k:IntKind} {n:Int} {xs:List WV} {vs:List Value} {c:Cl},zoU mx n k xs=some c->zac σ j xs vs ->
  ∃v,(vs.foldlM (if mx then Builtin.max2 else Builtin.min2) (.int k n):Sem Value).run P w=.ok v w/\VC σ j c v
 |k,n,[],vs,c,h,hv=>by
  have:=hv.vQ;subst this;simp only[zoU,ji]at h;subst h;exact⟨_,rfl,.int _ _ _⟩
 |k,n,x::xs,vs,c,h,hv=>by
  obtain⟨v,vs',rfl,h1,h2⟩:=hv.kP;unfold zoU at h;split at h
  ·rename_i heq;cases heq
  ·rename_i k' b r heq;cases heq;split at h
   ·rename_i hk;subst hk;have hv1:=zef h1;subst hv1;obtain⟨u,q1,q2⟩:=zoT h h2;refine⟨u,?_,q2⟩;rw[<-q1];cases mx<;>simp[Builtin.max2,Builtin.min2,zyw]
   ·cases h
  ·cases h
end
end Go.Eng
namespace Go.Eng
open Go
variable[zb0]
section
variable{own:Nat->Prop}{σ:zP}{j:Inj}{M:Mem}{w:World}{P:Program}
def zqw{t:TypeId}{ps rs:Array TypeId}{vr:Bool}{v:Value}(h:P.underlying t=some (.func ps rs vr))(hv:v=.nilFunc\/∃f a b,v=.func f a b)(w:World) :
  (Op.equal t v .nilFunc).run P w=.ok (match v with |.nilFunc=>true |_=>false) w:=by
 have key:∀d,(Op.equalIn (d+1) t v .nilFunc).run P w=.ok (match v with |.nilFunc=>true |_=>false) w:=fun d=>by
  rcases hv with rfl |⟨f,a,b,rfl⟩<;>simp[Op.equalIn,run_underlying h]
 exact key 9999
def zvb{op:BinOp}{neg:Bool}{t:TypeId}{ps rs:Array TypeId}{vr:Bool}{xo yo:Operand}{x:WV}{r:AV}{vx:Value}(ht:P.underlying t=some (.func ps rs vr))(hop:(op=.eql/\neg=false)\/(op=.neq/\neg=true))
  (h:ztH (.AU neg) [x]=some r) (hx:WVR σ j x vx):∃v,(do eqGuard op t xo yo vx .nilFunc;binOp op t vx .nilFunc:Sem Value).run P w=.ok v w/\AVR σ j r v:=by
 cases x with
 |a cs=>cases h
 |c x =>
  have key:∀b:Bool,(vx=.nilFunc/\b=true\/(∃f a c,vx=.func f a c)/\b=false)->r=.w (.c (.bool (if neg then !b else b)))->∃v,(do eqGuard op t xo yo vx .nilFunc;binOp op t vx .nilFunc:Sem Value).run P w=.ok v w/\AVR σ j r v:=by
   rintro b hb rfl;refine⟨_,?_,show VC σ j _ _ from .bool _ _⟩;have he:=zqw (P:=P) ht (hb.imp (·.1) (·.1)) w;rcases hb with⟨rfl,rfl⟩ |⟨⟨f,a,c,rfl⟩,rfl⟩<;>rcases hop with⟨rfl,rfl⟩ |⟨rfl,rfl⟩<;>simp[eqGuard,binOp,he]
  cases x with
  |qT=>cases h;cases hx;grind
  |fn f fi ca=>cases h;cases hx;simp_all
  |_=>cases h
def zuq{n:Int}{top k:Nat}(h:zgN n top=some k):0<=n/\n<=top/\n.toNat=k:=by
 unfold zgN at h;split at h
 ·rename_i hh;cases h;exact⟨hh.1,hh.2,rfl⟩
 ·cases h
def zac.one{xs:List WV}{v:Value}(hr:zac σ j xs [v]):∃x,xs=[x]/\WVR σ j x v:=by
 cases xs with
 |nil=>have:=hr.1;grind
 |cons x ys =>
  obtain⟨_,_,e,hx,hs⟩:=hr.kP;cases e;obtain rfl:ys=[]:=jN (by simpa using hs.1)
  grind
def zac.two{xs:List WV}{v u:Value}(hr:zac σ j xs [v,u]):∃x y,xs=[x,y]/\WVR σ j x v/\WVR σ j y u:=by
 cases xs with
 |nil=>have:=hr.1;grind
 |cons x ys =>
  obtain⟨_,_,e,hx,hs⟩:=hr.kP;cases e;obtain⟨y,rfl,hy⟩:=zac.one hs
  grind
def zth{lo hi:Option Value}{xs:List WV}{len top l h:Nat}{isS:Bool}(hr:zac σ j xs (lo.toList++hi.toList))(hb:BC len top lo.isSome hi.isSome xs=some (l,h))(hlt:len<=top) :
  (Instr.sliceBounds isS len top lo hi none).run P w=.ok (l,h,top) w/\l<=h/\h<=top:=by
 have bound:∀{x:WV} {v:Value} {t k:Nat} {c:BoundsCode} (hx:WVR σ j x v) {n:Int} {kk:IntKind},x=.c (.int kk n)->zgN n t=some k->(Instr.sliceBound v t c).run P w=.ok k w/\k<=t:=by
  rintro x v t k c hx n kk rfl h;cases hx;obtain⟨h1,h2,rfl⟩:=zuq h
  simp_all [Instr.sliceBound,asIntOf]
 have isInt:∀{x:WV},(∃k n,x=.c (.int k n))\/∀k n,x≠.c (.int k n):=by
  grind
 cases lo with
 |none=>cases hi with
  |none =>
   obtain rfl:xs=[]:=jN (by simpa using hr.1);cases hb
   simp_all [Instr.sliceBounds]
  |some v =>
   obtain⟨x,rfl,hx⟩:=zac.one hr;rcases isInt (x:=x)with⟨k,n,rfl⟩|hn
   ·simp only[BC,Option.isSome,ja]at hb;obtain⟨h',hb,e⟩:=hb;cases e;obtain⟨q1,q2⟩:=bound (c:=if isS then .sliceAcap else .sliceAlen) hx rfl hb
    simp_all [Instr.sliceBounds]
   simp_all [Option.isSome,BC]
 |some u=>cases hi with
  |none =>
   obtain⟨x,rfl,hx⟩:=zac.one hr;rcases isInt (x:=x)with⟨k,n,rfl⟩|hn
   ·simp only[BC,Option.isSome,ja]at hb;obtain⟨h',hb,e⟩:=hb;obtain⟨q1,q2⟩:=bound (c:=.sliceB) hx rfl hb
    simp_all [Instr.sliceBounds]
   simp_all [Option.isSome,BC]
  |some v =>
   obtain⟨x,y,rfl,hx,hy⟩:=zac.two hr;rcases isInt (x:=x)with⟨k,n,rfl⟩|hn
   ·rcases isInt (x:=y)with⟨k2,n2,rfl⟩|hn2
    ·simp only[BC,Option.isSome]at hb;split at hb
     ·rename_i h' hh;simp only[ja]at hb;obtain⟨l',hl,e⟩:=hb;obtain⟨q1,q2⟩:=bound (c:=if isS then .sliceAcap else .sliceAlen) hy rfl hh;obtain⟨p1,p2⟩:=bound (c:=.sliceB) hx rfl hl
      simp_all [Instr.sliceBounds]
     grind
    simp_all [Option.isSome,BC]
   simp_all [Option.isSome,BC]
def zuJ{t:TypeId}{vx:Value}{lo hi:Option Value}{xs:List WV}{r:AV}(ht:P.underlying t=some .string)(hr:zac σ j xs (vx::(lo.toList++hi.toList)))(h:ztH (.Cw lo.isSome hi.isSome) xs=some r) :
  ∃v,(Instr.sliceAt t vx lo hi none).run P w=.ok v w/\AVR σ j r v:=by
 unfold ztH at h;split at h<;>rename_i e1<;>first |(cases e1;done) |skip
 ·cases e1;obtain⟨_,_,e,hx,hs⟩:=hr.kP;cases e;rename_i s xs;cases hx;split at h
  ·rename_i l h' hb;cases h;obtain⟨q1,q2,q3⟩:=zth (P:=P) (w:=w) (isS:=false) hs hb (jm _);exact⟨.string (s.extract l h'),by simp_all [Instr.sliceAt,Instr.slice,run_underlying],show VC σ j _ _ from .str _ _⟩
  grind
 grind
def zvH{t e n es:Nat}{vx:Value}{lo hi:Option Value}{xs:List WV}{r:AV}(ht:P.underlying t=some (.array n e))(hes:zbL P e=some es)(hr:zac σ j xs (vx::(lo.toList++hi.toList)))(h:ztH (.Bh n es lo.isSome hi.isSome) xs=some r) :
  ∃v,(Instr.sliceAt t vx lo hi none).run P w=.ok v w/\AVR σ j r v:=by
 unfold ztH at h;split at h<;>rename_i e1<;>first |(cases e1;done) |skip
 ·cases e1;obtain⟨_,_,e,hx,hs⟩:=hr.kP;cases e;rename_i id g i k xs;cases hx with
  |ptr _ _ _ _ _ L hL =>
   split at h
   ·rename_i l h' hb;cases h;obtain⟨q1,q2,q3⟩:=zth (P:=P) (w:=w) (isS:=false) hs hb (jm _);refine⟨.slice (some (if n=l then⟨L.blk,L.off+i*L.esz+k,none⟩ else(⟨L.blk,L.off+i*L.esz+k,none⟩:Addr).add (l*es))) (h'-l) (n-l),?_,?_⟩
    ·simp_all [Instr.sliceAt,run_underlying,zaJ,Instr.sureAddr]
    ·refine .bsl _ _ _ _ _ _ _ _ L _ hL wA (fun hne=>?_);rw[if_neg wA,Addr.add_lit]
     grind
   grind
 grind
end
end Go.Eng
namespace Go.Eng
open Go
variable[zb0]
section
variable{own:Nat->Prop}{σ:zP}{j:Inj}{M:Mem}{w:World}{P:Program}
def zda{r:Nat}{es:Array MapEntry}{c:Nat}(h:w.heap[r]?=some (.map es c)):(getObj r).run P w=.ok (.map es c) w:=by simp[getObj,Sem.run,h]
def zkk{r:Nat}{es:Array MapEntry}{c:Nat}(o:Obj)(h:w.heap[r]?=some (.map es c)):(setObj r o).run P w=.ok () (w.putObj r o):=by simp[setObj,Sem.run,h,World.putObj]
def zhi{r:Nat}{m:Option Nat}{a c:Nat}{s:Array Nat}(h:w.heap[r]?=some (.mapIter m a s c)):(getObj r).run P w=.ok (.mapIter m a s c) w:=by simp[getObj,Sem.run,h]
def zuO{r:Nat}{m:Option Nat}{a c:Nat}{s:Array Nat}(o:Obj)(h:w.heap[r]?=some (.mapIter m a s c)):(setObj r o).run P w=.ok () (w.putObj r o):=by simp[setObj,Sem.run,h,World.putObj]
def zpn{id l:Nat}{b b':Blk}{pl:Pl}{o:Obj}(hag:zM σ w)(hm:MR own σ j M w)(hb:M[id]?=some (some b))(hj:j id b.gen=some pl)(hat:pl.at=some l)(hnc:∀C T f,w.heap[l]?≠some (.cells C T f))
  (hno:∀C T f,o≠.cells C T f) (hg:b'.gen=b.gen) (hv:b'.ver=b.ver+1) (hbr:BR σ j b' pl (w.putObj l o)) :
  zM σ (w.putObj l o)/\MR own σ j (M.set id (some b')) (w.putObj l o)/\za2 own M.length σ j M w σ j (M.set id (some b')) (w.putObj l o):=by
 have hjk:=Inj.v7 hj hat;have AX:∀k,k≠l->(w.putObj l o).heap[k]?=w.heap[k]?:=fun k hk=>World.putObj_heap_other hk
 have hne:∀k x q,k≠id->M[k]?=some (some x)->j.atk k x.gen=some q->q≠l:=fun k x q hk hx hq e=>hk (hm.vz k id x b q hx hb hq (by grind))
 have get:∀k x,(M.set id (some b'))[k]?=some (some x)->(k=id/\x=b')\/(k≠id/\M[k]?=some (some x)):=by
  grind
 refine⟨?_,⟨fun k x hx=>?_,fun k k' x x' q hx hx' hq hq'=>?_,fun k g pl hk=>?_,hm.okP⟩,?_⟩
 ·refine⟨?_,hag.kZ⟩;intro k o' v hv;have hold:=hag.cells k o' v hv
  grind [World.cell?]
 ·rcases get k x hx with⟨rfl,rfl⟩ |⟨hk,hx⟩
  ·obtain⟨pl',hpl,_,ho⟩:=hm.vF k b hb
   grind
  ·obtain⟨pl',hpl,hbr',ho⟩:=hm.vF k x hx;exact⟨pl',hpl,hbr'.mono (zP.le_refl _) (Inj.le_refl _) (fun q e=>AX q (hne k x q hk hx (Inj.v7 hpl e))) (fun _ _ _ h _ _=>h),ho⟩
 ·rcases get k x hx with⟨rfl,rfl⟩ |⟨hk,hx1⟩<;>rcases get k' x' hx' with⟨rfl,rfl⟩ |⟨hk',B6⟩
  ·rfl
  ·grind
  ·grind
  ·exact hm.vz k k' x x' q hx1 B6 hq hq'
 ·obtain⟨x,hx,hgx⟩:=hm.dom k g pl hk
  grind
 ·have hown:own l:=hm.Cy hb hjk;refine⟨zP.le_refl _,fun _ _ _ _ h=>h,wD,fun k _ ho=>AX k (fun e=>ho (e ▸ hown)),fun _ _ _ h=>.inl h,fun k x hk hx=>?_,⟨rfl,rfl,rfl,fun _=>jm _⟩⟩
  grind
def zd9.C4{o:Obj}(hno:∀C T f,o≠.cells C T f):zd9 w (w.alloc o):=by
 exact⟨rfl,rfl,rfl,fun _=>jm _⟩
def zgY(σ:zP)(j:Inj)(g:Bool)(R:List (List Cl))(es:List MapEntry):Prop:=R.length=es.length /\
 ∀(i:Nat) (row:List Cl) (e:MapEntry),R[i]?=some row->es[i]?=some e->∃k n vc x,row=.int .i64 e.born::.int k n::vc/\e.key=.int k n/\zaI g vc=some x/\WVR σ j x e.val
def zgY.kP{g:Bool}{row:List Cl}{R:List (List Cl)}{es:List MapEntry}(h:zgY σ j g (row::R) es):∃e es' k n vc x,es=e::es'/\row=.int .i64 e.born::.int k n::vc/\e.key=.int k n/\zaI g vc=some x/\WVR σ j x e.val/\zgY σ j g R es':=by
 cases es with
 |nil=>have:=h.1;grind
 |cons e es =>
  obtain⟨k,n,vc,x,q⟩:=h.2 0 row e rfl rfl;exact⟨e,es,k,n,vc,x,rfl,q.1,q.2.1,q.2.2.1,q.2.2.2,by simpa using h.1,fun i r e' hr he=>h.2 (i+1) r e' (by grind) (by grind)⟩
def zfZ{g:Bool}{k:IntKind}{n:Int}{kk:IntKind}:∀{R:List (List Cl)} {es:List MapEntry} {i:Nat} {r:Option (Nat×List Cl)},zgY σ j g R es->zta k n R i=some r ->
  (r=none/\Instr.findNow (.int kk) (.int k n) es i=some none) \/
  ∃p e x,r=some (i+p,(R[p]?.getD []).drop 2)/\es[p]?=some e/\e.key=.int k n/\Instr.findNow (.int kk) (.int k n) es i=some (some (i+p,e.val))/\zaI g ((R[p]?.getD []).drop 2)=some x/\WVR σ j x e.val
 |[],es,i,r,h,hf=>by
  obtain rfl:es=[]:=jN h.1.symm;cases hf;exact .inl ⟨rfl,rfl⟩
 |row::R,es,i,r,h,hf=>by
  obtain⟨e,es',k',m,vc,x,rfl,rfl,hk,hx,hv,hs⟩:=h.kP;simp only[zta]at hf;split at hf
  ·rename_i hkk;subst hkk;split at hf
   ·rename_i hnm;subst hnm;cases hf;exact .inr ⟨0,e,x,wD,rfl,hk,by grind [Instr.findNow,Instr.sameNow],by grind,hv⟩
   ·rcases zfZ (kk:=kk) hs hf with⟨h1,h2⟩ |⟨p,e',x',h1,h2,h3,h4,h5,h6⟩
    ·grind [Instr.findNow,Instr.sameNow]
    ·refine .inr ⟨p+1,e',x',by grind,by grind,h3,?_,by grind,h6⟩
     grind [Instr.findNow,Instr.sameNow]
  grind
def zfY{id:Nat}{g:Bool}{b:Blk}{c:Int}{R:List (List Cl)}{v:Value}(hm:MR own σ j M w)(h:zi4 M id=some (b,c,R))(hv:VC σ j (.map id g) v) :
  ∃(l clock:Nat) (es:Array MapEntry),v=.map (some l)/\j id b.gen=some (.mp l g)/\M[id]?=some (some b)/\w.heap[l]?=some (.map es clock)/\c=clock/\zgY σ j g R es.toList/\MB σ j b l g w:=by
 cases hv with
 |map _ _ _ l hj =>
  unfold zi4 at h;split at h
  ·rename_i b' hlk;obtain⟨hb,hg⟩:=zaz hlk;split at h
   ·rename_i c' r' vl;cases h;obtain⟨pl,hpl,hbr,_⟩:=hm.vF id b hb;rw[<-hg,hj]at hpl;cases hpl;obtain⟨es,clock,R',h1,h2,h3,h4⟩:=hbr.st;rw[vl]at h2;cases h2;exact⟨l,clock,es,rfl,by grind,hb,h1,rfl,⟨h3,h4⟩,hbr⟩
   grind
  grind
def zim{kt:TypeId}{kk k:IntKind}{n:Int}{es:List MapEntry}{r:Option (Nat×Value)}(hk:P.underlying kt=some (.int kk))(h:Instr.findNow (.int kk) (.int k n) es 0=some r):(Instr.findKey kt (.int k n) es).run P w=.ok r w:=by
 simp[Instr.findKey,run_underlying hk,h]
def zgn{kt:TypeId}{kk k:IntKind}{n:Int}{e:Bool}(hk:P.underlying kt=some (.int kk)):(Instr.checkKey e 10000 kt (.int k n)).run P w=.ok () w:=by
 have:∀d,(Instr.checkKey e (d+1) kt (.int k n)).run P w=.ok () w:=fun d=>by simp[Instr.checkKey,run_underlying hk]
 grind
def zmF{t:TypeId}{g:Bool}(h:zpP P t=some g):∃kt e kk,P.underlying t=some (.map kt e)/\P.underlying kt=some (.int kk)/\zeU P e=some g:=by
 grind [zpP]
def zAr{t:TypeId}{ok g:Bool}{z:WV}{xs:List WV}{vm vk:Value}{av:AV}{M':Mem}{fp:FP}(ht:zpP P t=some g)(hz:zCD P t=some z)(h:znp M ok g z xs=some (av,M',fp))(hr:zac σ j xs [vm,vk])(hag:zM σ w)(hm:MR own σ j M w) :
  za0 own σ j M w av M' ((Instr.lookup t vm vk ok).run P w):=by
 obtain⟨kt,e,kk,hu,hk,hg⟩:=zmF ht;obtain⟨x,y,rfl,hx,hy⟩:=zac.two hr;have hzr:∃zv,(zeroValue e).run P w=.ok zv w/\WVR σ j z zv:=by
  unfold zCD at hz;rw[hu]at hz;simp only[znJ]at hz;split at hz
  ·split at hz
   ·simp_all [zcJ,zkd]
   grind
  grind
 obtain⟨zv,hzv,hzr⟩:=hzr;unfold znp at h;split at h
 ·rename_i m k n e1;cases e1;cases hy;have out:∀(u:Value) (x:WV) (b:Bool),WVR σ j x u->AVR σ j (if ok then .t [x,.c (.bool b)] else .w x) (if ok then .tuple #[u,.bool b] else u):=by
   intro u x b hu;cases ok with
   |true=>exact⟨_,rfl,zac.cons hu (zac.cons (show WVR σ j (.c (.bool b)) _ from .bool _ _) zac.nil)⟩
   |false=>exact hu
  split at h
  ·cases h;cases hx;refine za0.same (v:=if ok then .tuple #[zv,.bool false] else zv) ?_ (out zv z false hzr) hag hm;simp[Instr.lookup,run_underlying hu,zgn hk,zim hk (show Instr.findNow (.int kk) (.int k n) [] 0=some none from rfl),hzv]
  ·split at h
   ·rename_i hgg;subst hgg;split at h
    ·rename_i b c R hat;obtain⟨l,clock,es,rfl,hj,hb,hl,rfl,hR,hmb⟩:=zfY hm hat hx;split at h
     ·rename_i p vs hf;rcases zfZ (kk:=kk) hR hf with⟨h1,_⟩ |⟨p',e',x',h1,h2,h3,h4,h5,h6⟩
      ·grind
      ·cases h1;split at h
       ·rename_i v hv;rw[h5]at hv;cases hv;cases h;refine za0.same (v:=if ok then .tuple #[e'.val,.bool true] else e'.val) ?_ (out e'.val x' true h6) hag hm;simp[Instr.lookup,run_underlying hu,zda hl,zgn hk,zim hk h4]
       grind
     ·rename_i hf;cases h;rcases zfZ (kk:=kk) hR hf with⟨_,h4⟩ |⟨p',e',x',h1,_⟩
      ·refine za0.same (v:=if ok then .tuple #[zv,.bool false] else zv) ?_ (out zv z false hzr) hag hm;simp[Instr.lookup,run_underlying hu,zda hl,zgn hk,zim hk h4,hzv]
      grind
     grind
    grind
   grind
  grind
 grind
def zgY.push{g:Bool}{R:List (List Cl)}{es:List MapEntry}(h:zgY σ j g R es){e:MapEntry}{k:IntKind}{n:Int}{vc:List Cl}{x:WV}(hk:e.key=.int k n)(hx:zaI g vc=some x)(hv:WVR σ j x e.val):zgY σ j g (R++[.int .i64 e.born::.int k n::vc]) (es++[e]):=by
 refine⟨by simp[h.1],fun i row e' hr he=>?_⟩;rw[ut]at hr he;rw[h.1]at hr;split at hr
 ·rename_i hi;rw[if_pos hi]at he;exact h.2 i row e' hr he
 grind
def zgY.modify{g:Bool}{R:List (List Cl)}{es:List MapEntry}(h:zgY σ j g R es){p:Nat}{f:List Cl->List Cl}{f':MapEntry->MapEntry}
  (hf:∀row e,R[p]?=some row->es[p]?=some e->∃k n vc x,f row=.int .i64 (f' e).born::.int k n::vc/\(f' e).key=.int k n/\zaI g vc=some x/\WVR σ j x (f' e).val):zgY σ j g (R.modify p f) (es.modify p f'):=by
 refine⟨by simp[h.1],fun i row e' hr he=>?_⟩;by_cases hp:p=i
 ·grind
 ·exact h.2 i row e' (by grind) (by grind)
def zgY.erase{g:Bool}{R:List (List Cl)}{es:List MapEntry}(h:zgY σ j g R es)(p:Nat):zgY σ j g (R.eraseIdx p) (es.eraseIdx p):=by
 refine⟨by rw[List.length_eraseIdx,List.length_eraseIdx,h.1],fun i row e' hr he=>?_⟩;rw[List.getElem?_eraseIdx]at hr he;split at hr
 ·rename_i hi;rw[if_pos hi]at he;exact h.2 i row e' hr he
 ·rename_i hi;rw[if_neg hi]at he;exact h.2 (i+1) row e' hr he
def zlU{id l c':Nat}{g:Bool}{b:Blk}{es es':Array MapEntry}{c:Nat}{R':List (List Cl)}(hag:zM σ w)(hm:MR own σ j M w)(hb:M[id]?=some (some b))(hj:j id b.gen=some (.mp l g))(hl:w.heap[l]?=some (.map es c))(hmb:MB σ j b l g w)
  (hR:zgY σ j g R' es'.toList):zM σ (w.putObj l (.map es' c'))/\MR own σ j (zlW M id b ([.int .i64 c']::R')) (w.putObj l (.map es' c'))/\za2 own M.length σ j M w σ j (zlW M id b ([.int .i64 c']::R')) (w.putObj l (.map es' c')):=by
 refine zpn (b':={ b with rows:=[.int .i64 c']::R',ver:=b.ver+1 }) hag hm hb hj rfl (by grind) (by grind) rfl rfl ?_;exact(⟨hmb.box,es',c',R',World.putObj_heap_same (jV.1 hl).1,rfl,hR.1,hR.2⟩:MB σ j { b with rows:=[.int .i64 c']::R',ver:=b.ver+1 } l g _)
def zsX{g:Bool}{v:WV}(h:okW g v=true):zaI g v.cells=some v:=by
 cases v with
 |c x=>cases g<;>simp[okW]at h<;>rfl
 |a cs=>cases g<;>simp[okW]at h<;>rfl
def zt2{k:IntKind}{n:Int}:(Instr.keyThatStays (.int k n) (.int k n)).run P w=.ok (.int k n) w:=by
 simp[Instr.sameBits,Instr.keyThatStays]
def zzv{t:TypeId}{g:Bool}{xs:List WV}{vm vk vv:Value}{av:AV}{M':Mem}{fp:FP}(ht:zpP P t=some g)(h:zoJ M g xs=some (av,M',fp))(hr:zac σ j xs [vm,vk,vv])(hag:zM σ w)(hm:MR own σ j M w) :
  av=.u/\∃w',(Instr.mapUpdate t vm vk vv).run P w=.ok () w'/\zM σ w'/\MR own σ j M' w'/\za2 own M.length σ j M w σ j M' w':=by
 obtain⟨kt,e,kk,hu,hk,hg⟩:=zmF ht;unfold zoJ at h;split at h
 ·rename_i id g' k n v;obtain⟨_,_,q,hx,hs⟩:=hr.kP;cases q;obtain⟨_,_,q,hy,hz⟩:=zac.two hs;cases q;cases hy;split at h
  ·rename_i hgg;obtain⟨rfl,hok⟩:=hgg;split at h
   ·rename_i b c R hat;obtain⟨l,clock,es,rfl,hj,hb,hl,rfl,hR,hmb⟩:=zfY hm hat hx;split at h
    ·rename_i p vs hf;cases h;rcases zfZ (kk:=kk) hR hf with⟨h1,_⟩ |⟨p',e',x',h1,h2,h3,h4,h5,h6⟩
     ·grind
     ·cases h1;have hmod:(es.modify (0+p') fun e=>{ e with key:=.int k n,val:=vv }).toList=es.toList.modify p' fun e=>{ e with key:=.int k n,val:=vv }:=wD
      have hR':zgY σ j g' (R.modify (0+p') fun row=>row.take 1++.int k n::v.cells) (es.modify (0+p') fun e=>{ e with key:=.int k n,val:=vv }).toList:=by
       rw[hmod,jJ];refine hR.modify fun row e0 hr0 he0=>⟨k,n,v.cells,v,?_,rfl,zsX hok,hz⟩
       obtain⟨_,_,_,_,q1,_⟩:=hR.2 p' row e0 hr0 he0
       grind
      obtain⟨r1,r2,r3⟩:=zlU (c':=clock) hag hm hb hj hl hmb hR';refine⟨rfl,_,?_,r1,r2,r3⟩;have hold:((es[0+p']?).map (·.key)).getD (.int k n)=.int k n:=by
       grind
      simp only[jJ]at hold h4 ⊢;simp[Instr.mapUpdate,run_underlying hu,zda hl,zgn hk,zim hk h4,hold,zt2,zkk _ hl]
    ·rename_i hf;cases h;rcases zfZ (kk:=kk) hR hf with⟨_,h4⟩ |⟨p',e',x',h1,_⟩
     ·have hR':zgY σ j g' (R++[.int .i64 (clock:Int)::.int k n::v.cells]) (es.push { key:=.int k n,val:=vv,born:=clock }).toList:=by
       rw[Array.toList_push];exact hR.push (e:={ key:=.int k n,val:=vv,born:=clock }) rfl (zsX hok) hz
      obtain⟨r1,r2,r3⟩:=zlU (c':=clock+1) hag hm hb hj hl hmb hR';refine⟨rfl,_,?_,r1,r2,r3⟩;simp[Instr.mapUpdate,run_underlying hu,zda hl,zgn hk,zim hk h4,zkk _ hl]
     grind
    grind
   grind
  grind
 grind
def ZlE{t:TypeId}{g:Bool}{xs:List WV}{vm vk vv:Value}{av:AV}{M':Mem}{fp:FP}(ht:zpP P t=some g)(h:Zig M g xs=some (av,M',fp))(hr:zac σ j xs [vm,vk,vv])(hag:zM σ w)(hm:MR own σ j M w) :
  av=.u/\∃w' σ',(Instr.mapUpdate t vm vk vv).run P w=.ok () w'/\zM σ' w'/\MR own σ' j M' w'/\za2 own M.length σ j M w σ' j M' w':=by
 unfold Zig at h;split at h
 ·rename_i m k v;split at h
  ·rename_i v' hf;split at h
   ·rename_i a M1 l hp;cases h;obtain⟨_,_,q,hx,hs⟩:=hr.kP;cases q;obtain⟨_,_,q,hy,hs⟩:=hs.kP;cases q;obtain⟨_,_,q,hz,hs⟩:=hs.kP;cases q;obtain⟨σ1,q1,q2,q3,q4,q5⟩:=zhe v.sls hm hag;have hv:=zq8 hm q1 q2 q5 hf hz;obtain⟨r1,w',h1,h2,h3,h4⟩:=zzv (P:=P) ht hp (zac.cons (hx.mono q1 (Inj.le_refl _)) (zac.cons (hy.mono q1 (Inj.le_refl _)) (zac.cons hv zac.nil))) q2 q3;exact⟨r1,w',σ1,h1,h2,h3,q4.trans (by grind [zgi])⟩
   grind
  grind
 grind
def zAt{t ty u:TypeId}{g:Bool}{xs:List WV}{vm vk:Value}{av:AV}{M':Mem}{fp:FP}(ht:zpP P t=some g)(h:zoK M xs=some (av,M',fp))(hr:zac σ j xs [vm,vk])(hag:zM σ w)(hm:MR own σ j M w) :
  za0 own σ j M w av M' ((Builtin.delete_ #[t,u] ty #[vm,vk]).run P w):=by
 obtain⟨kt,e,kk,hu,hk,hg⟩:=zmF ht;obtain⟨x,y,rfl,hx,hy⟩:=zac.two hr;unfold zoK at h;split at h
 ·rename_i m k n e1;cases e1;have hx:VC σ j m vm:=hx;cases hy;split at h
  ·cases h;cases hx;refine za0.same (v:=.tuple #[]) ?_ ⟨#[],rfl,zac.nil⟩ hag hm
   simp_all [Builtin.delete_,run_underlying,zgn]
  ·rename_i id g' _;split at h
   ·rename_i b c R hat;obtain⟨l,clock,es,rfl,hj,hb,hl,rfl,hR,hmb⟩:=zfY hm hat hx;have same:w.putObj l (.map es clock)=w:=by
     unfold World.putObj
     congr 1
     grind
    split at h
    ·rename_i p vs hf;cases h;rcases zfZ (kk:=kk) hR hf with⟨h1,_⟩ |⟨p',e',x',h1,h2,h3,h4,h5,h6⟩
     ·grind
     ·cases h1;have hR':zgY σ j g' (R.eraseIdx (0+p')) (es.eraseIdxIfInBounds (0+p')).toList:=by
       have:(es.eraseIdxIfInBounds (0+p')).toList=es.toList.eraseIdx (0+p'):=wD
       rw[this];exact hR.erase _
      obtain⟨r1,r2,r3⟩:=zlU (c':=clock) hag hm hb hj hl hmb hR';refine⟨.tuple #[],_,σ,j,?_,⟨#[],rfl,zac.nil⟩,r1,r2,r3⟩;simp[Builtin.delete_,run_underlying hu,zda hl,zgn hk,zim hk h4,zkk _ hl]
    ·rename_i hf;cases h;rcases zfZ (kk:=kk) hR hf with⟨_,h4⟩ |⟨p',e',x',h1,_⟩
     ·refine za0.same (v:=.tuple #[]) ?_ ⟨#[],rfl,zac.nil⟩ hag hm;simp[Builtin.delete_,run_underlying hu,zda hl,zgn hk,zim hk h4,zkk _ hl,same]
     grind
    grind
   grind
  grind
 grind
def zyv{t ty kt e:TypeId}{xs:List WV}{vm:Value}{av:AV}{M':Mem}{fp:FP}(ht:P.underlying t=some (.map kt e))(h:zno M xs=some (av,M',fp))(hr:zac σ j xs [vm])(hag:zM σ w)(hm:MR own σ j M w) :
  za0 own σ j M w av M' ((Builtin.len_ #[t] ty #[vm]).run P w):=by
 obtain⟨x,rfl,hx⟩:=zac.one hr;unfold zno at h;split at h
 ·rename_i m e1;cases e1;split at h
  ·cases h;cases hx;refine za0.same (v:=.int .i64 0) ?_ (show VC σ j _ _ from .int _ _ _) hag hm;simp[Builtin.len_,run_underlying ht,goInt]
  ·split at h
   ·rename_i b c R hat;obtain⟨l,clock,es,rfl,hj,hb,hl,rfl,hR,hmb⟩:=zfY hm hat hx;cases h;have hlen:R.length=es.size:=by have:=hR.1;grind
    refine za0.same (v:=.int .i64 es.size) ?_ (show VC σ j _ _ by rw[hlen];exact .int _ _ _) hag hm;simp[Builtin.len_,run_underlying ht,zda hl,goInt]
   grind
  grind
 grind
def zqZ{it:Nat}{b:Blk}{v:Value}(hm:MR own σ j M w)(h:look M it 0=some b)(hv:VC σ j (.mit it) v):∃l,v=.pointer (some ⟨l,0,none⟩)/\j it b.gen=some (.mi l)/\M[it]?=some (some b)/\IB σ j b l w:=by
 cases hv with
 |mit _ _ l hj =>
  obtain⟨hb,hg⟩:=zaz h;obtain⟨pl,hpl,hbr,_⟩:=hm.vF it b hb;rw[<-hg,hj]at hpl;cases hpl;exact⟨l,rfl,by grind,hb,hbr⟩
theorem zjh{l m since last clock:Nat}{seen:Array Nat}{es:Array MapEntry}{ty:TypeId}(h1:w.heap[l]?=some (.mapIter (some m) since seen last))(h2:w.heap[m]?=some (.map es clock))(hne:es.toList=[]\/∃e,es.toList=[e]/\e.born<last/\seen = #[e.born]) :
  (Instr.next (.pointer (some ⟨l,0,none⟩)) false ty).run P w=.ok (.tuple #[.bool false]) w:=by
 rcases hne with he |⟨e,he,hlt,rfl⟩
 ·have:es = #[]:=by grind
  subst this;simp[Instr.next,zhi h1,zda h2,Question.forced]
 ·have:es = #[e]:=by grind
  subst this;have:¬(last<=e.born):=wA
  simp[Instr.next,zhi h1,zda h2,Question.forced,this]
def ztR{l m since last clock:Nat}{e:MapEntry}{es:Array MapEntry}{ty:TypeId}(h1:w.heap[l]?=some (.mapIter (some m) since #[] last))(h2:w.heap[m]?=some (.map es clock))(he:es.toList=[e])(hlt:e.born<since) :
  (Instr.next (.pointer (some ⟨l,0,none⟩)) false ty).run P w=.ok (.tuple #[.bool true,e.key,e.val]) (w.putObj l (.mapIter (some m) since #[e.born] clock)):=by
 have:es = #[e]:=by grind
 subst this;have h3:¬(since<=e.born):=wA
 simp[Instr.next,zhi h1,zda h2,Question.forced,hlt,h3,zuO _ h1]
def zys{ty:TypeId}{xs:List WV}{vi:Value}{av:AV}{M':Mem}{fp:FP}(h:zmG M xs=some (av,M',fp))(hr:zac σ j xs [vi])(hag:zM σ w)(hm:MR own σ j M w) :
  za0 own σ j M w av M' ((Instr.next vi false ty).run P w):=by
 obtain⟨x,rfl,hx⟩:=zac.one hr;have over:∀{r:Result Value},r=.ok (.tuple #[.bool false]) w->za0 own σ j M w (.t [.c (.bool false)]) M r:=fun hr=>za0.same hr ⟨_,rfl,zac.cons (show WVR σ j (.c (.bool false)) (.bool false) from VC.bool _ _) zac.nil⟩ hag hm
 unfold zmG at h;split at h
 ·rename_i it e1;cases e1;have hx:VC σ j (.mit it) vi:=hx;split at h
  ·rename_i b hlk;obtain⟨l,rfl,hj,hb,hib⟩:=zqZ hm hlk hx;split at h
   ·rename_i vl;cases h;rcases hib.st with⟨h1,_⟩ |⟨id,g,m,since,last,_,⟨_,h2⟩ |⟨s,_,h2⟩⟩
    ·exact over (by simp[Instr.next,zhi h1])
    ·grind
    grind
   ·rename_i id g since seen vl;split at h
    ·rename_i b2 c r seen' hat hseen;rcases hib.st with⟨_,h2⟩ |⟨id',g',m,A9,last,hjm,h0⟩
     ·grind
     ·have hid:id'=id/\g'=g:=by
       rcases h0 with⟨_,h2⟩ |⟨s,_,h2⟩<;>(grind)
      obtain⟨rfl,rfl⟩:=hid;obtain⟨m',clock,es,e2,hjm',hbm,hl,rfl,hR,hmb⟩:=zfY hm hat (VC.map j id' g' m hjm);cases e2;rcases h0 with⟨h1,h2⟩ |⟨s,h1,h2⟩
      ·rw[vl]at h2;cases h2;cases hseen;split at h
       ·cases h;exact over (zjh h1 hl (.inl (jN hR.1.symm)))
       ·rename_i born k vs e3;split at h
        ·rename_i hlt;split at h
         ·rename_i v hv;cases h;obtain⟨e,es',k',n,vc,x,he,hrow,hk,hxc,hxv,hs⟩:=hR.kP;cases hrow;rw[hv]at hxc;cases hxc;obtain rfl:es'=[]:=jN hs.1.symm;have ui:=ztR (P:=P) (ty:=ty) h1 hl he wA;have hbr':IB σ j { b with rows:=[[.map id' g',.int .i64 A9,.int .i64 e.born,.int .i64 clock]],ver:=b.ver+1 } l (w.putObj l (.mapIter (some m) A9 #[e.born] clock)) :=
           ⟨hib.box,.inr ⟨id',g',m,A9,clock,hjm,.inr ⟨e.born,World.putObj_heap_same (jV.1 h1).1,rfl⟩⟩⟩
          obtain⟨q1,q2,q3⟩:=zpn (id:=it) (b':={ b with rows:=[[.map id' g',.int .i64 A9,.int .i64 e.born,.int .i64 clock]],ver:=b.ver+1 }) (o:=.mapIter (some m) A9 #[e.born] clock) hag hm hb hj rfl
           (by grind) (by grind) rfl rfl
           hbr'
          refine⟨_,_,σ,j,ui,⟨_,rfl,zac.cons (show WVR σ j (.c (.bool true)) (.bool true) from VC.bool _ _) (zac.cons ?_ (zac.cons hxv zac.nil))⟩,q1,q2,q3⟩;rw[hk];exact VC.int _ _ _
         grind
        grind
       ·grind
       ·grind
       grind
      ·rw[vl]at h2;cases h2;cases hseen;cases r with
       |nil =>
        cases h;exact over (zjh h1 hl (.inl (jN hR.1.symm)))
       |cons row tl =>
        obtain⟨e,es',k',n,vc,x,he,rfl,hk,hxc,hxv,hs⟩:=hR.kP;cases tl with
        |nil =>
         simp only at h;split at h
         ·rename_i hc;cases h;obtain rfl:es'=[]:=jN hs.1.symm
          grind [zjh]
         grind
        |cons _ _=>grind
    grind
   grind
  grind
 grind
def zw0{xs:List WV}{vi:Value}{av:AV}{M':Mem}{fp:FP}(h:zil M xs=some (av,M',fp))(hr:zac σ j xs [vi])(hag:zM σ w)(hm:MR own σ j M w) :
  za0 own σ j M w av M' ((Instr.entry vi).run P w):=by
 obtain⟨x,rfl,hx⟩:=zac.one hr;unfold zil at h;split at h
 ·rename_i it e1;cases e1;split at h
  ·rename_i b hlk;obtain⟨l,rfl,hj,hb,hib⟩:=zqZ hm hlk hx;split at h
   ·rename_i id g since s last vl;split at h
    ·rename_i b2 c born k vs hat;split at h
     ·rename_i hc;obtain⟨rfl,rfl⟩:=hc;split at h
      ·rename_i v hv;cases h;rcases hib.st with⟨_,h2⟩ |⟨id',g',m,A9,CQ,hjm,⟨_,h2⟩ |⟨s',h1,h2⟩⟩
       ·grind
       ·grind
       ·rw[vl]at h2;cases h2;obtain⟨m',clock,es,e2,hjm',hbm,hl,hcl,hR,hmb⟩:=zfY hm hat (VC.map j _ _ m hjm);cases e2;obtain⟨e,es',k',n,vc,x,he,hrow,hk,hxc,hxv,hs⟩:=hR.kP;cases hrow;rw[hv]at hxc;cases hxc;have hclk:CQ=clock:=wA
        subst hclk;have hes:es.toList.find? (fun e'=>e'.born==e.born)=some e:=by grind
        have hes2:es.find? (fun e'=>e'.born==e.born)=some e:=by grind
        refine za0.same (v:=.tuple #[e.key,e.val]) ?_ ⟨_,rfl,zac.cons (show WVR σ j _ _ by rw[hk];exact VC.int _ _ _) (zac.cons hxv zac.nil)⟩ hag hm;simp[Instr.entry,zhi h1,zda hl,hes2]
      grind
     grind
    grind
   grind
  grind
 grind
def zpC:∀{cs:List Cl} {vs:List Value} {bs:List UInt8},zo4 cs=some bs->VCs σ j cs vs->∃xs:List Int,vs=xs.map (Value.int .u8)/\bs=xs.map fun n=>UInt8.ofNat n.toNat
 |[],vs,bs,h,hv=>by cases h;exact⟨[],hv.vQ,rfl⟩
 |c::cs,vs,bs,h,hv=>by
  obtain⟨v,vs',rfl,h1,h2⟩:=hv.kP;cases c with
  |int k n =>
   cases k<;>first |(cases h) |skip
   simp only[zo4,ja]at h;obtain⟨bs',hb,rfl⟩:=h;obtain⟨xs,rfl,rfl⟩:=zpC hb h2;cases h1;exact⟨n::xs,rfl,rfl⟩
  |_=>cases h
def zsC{src dst e b off len cap:Nat}{cs:List Cl}{vs:List Value}{bs:List UInt8}{ad:Option Addr}(hs:P.underlying src=some (.slice e))(he:P.underlying e=some (.int .u8))(hd:P.underlying dst=some .string)(hb:zo4 cs=some bs)(hv:VCs σ j cs vs)(hl:vs.length=len)
  (ha:len≠0->ad=some ⟨b,off,none⟩/\∀(k:Nat) (u:Value),vs[k]?=some u->w.cell? ⟨b,off+k,none⟩=some u) :
  (convert src dst (.slice ad len cap)).run P w=.ok (.string ⟨bs.toArray⟩) w:=by
 obtain⟨xs,rfl,rfl⟩:=zpC hb hv;by_cases h0:len=0
 ·subst h0;obtain rfl:xs=[]:=by grind
  rw[run_convert_bytes_string w src dst e ad 0 cap hs he hd];cases ad with
  |none=>rfl
  |some ad=>rfl
 ·obtain⟨rfl,hc⟩:=ha h0;rw[kl]at hl;exact run_convert_bytes_arg w src e hs he b off len cap xs hl (fun i hi=>hc i _ (by grind)) dst hd
def ztg{id g i k n:Nat}{cs:List Cl}{L:Loc}(hm:MR own σ j M w)(h:ziB M id g i k n=some cs)(hj:j id g=some (.loc L)) :
  ∃vs,VCs σ j cs vs/\vs.length=n/\(zfJ M id g=false->VCs σ zb1 cs vs)/\∀(q:Nat) (u:Value),vs[q]?=some u->w.cell? ⟨L.blk,L.off+i*L.esz+k+q,none⟩=some u:=by
 unfold ziB at h;split at h
 ·rename_i b hlk;obtain⟨hb,rfl⟩:=zaz hlk;have hbx:zfJ M id b.gen=b.box:=by grind [zfJ]
  split at h
  ·rename_i row hrow;obtain⟨h1,h2,h3⟩:=zmL h;have kY:∀(m:Nat) (c:Cl),cs[m]?=some c->∃v,w.cell? ⟨L.blk,L.off+i*L.esz+(k+m),none⟩=some v/\VC σ j c v/\VC σ (if b.box then j else zb1) c v:=fun m c hc=>hm.cell hb hj hrow (h3 m c hc)
   refine⟨cs.zipIdx.map fun(c,m)=>(w.cell? ⟨L.blk,L.off+i*L.esz+(k+m),none⟩).getD undef,?_,by simp[h1],?_,?_⟩
   ·refine VCs.B0 wD fun m c hc=>?_
    grind
   ·intro hbf;refine VCs.B0 wD fun m c hc=>?_
    grind
   grind
  grind
 grind
def zv6{src dst:TypeId}{xs:List WV}{vx:Value}{av:AV}{M':Mem}{fp:FP}(hs:zq3 P src=true)(hd:P.underlying dst=some .string)(h:zkf M xs=some (av,M',fp))(hr:zac σ j xs [vx])(hag:zM σ w)(hm:MR own σ j M w) :
  za0 own σ j M w av M' ((convert src dst vx).run P w):=by
 obtain⟨e,hsrc,he⟩:∃e,P.underlying src=some (.slice e)/\P.underlying e=some (.int .u8):=by
  grind [zq3]
 obtain⟨x,rfl,hx⟩:=zac.one hr;unfold zkf at h;split at h
 ·rename_i id g i k es len cap e1;cases e1;split at h
  ·split at h
   ·rename_i cs hcs;split at h
    ·rename_i bs hbs;cases h;cases hx with
     |bsl _ _ _ _ _ _ _ _ L ad hj hl ha =>
      obtain⟨vs,q1,q2,_,q3⟩:=ztg hm hcs hj;refine za0.same (zsC hsrc he hd hbs q1 q2 (b:=L.blk) (off:=L.off+i*L.esz+k) fun hne=>⟨by grind,q3⟩) (show VC σ j _ _ from .str _ _) hag hm
    grind
   grind
  grind
 ·rename_i x' _ e1;cases e1;split at h
  ·rename_i ys hys;split at h
   ·rename_i bs hbs;cases h;obtain⟨ad,c,news,rfl,vl,hc⟩:=zi7 hys hx hag hm;have hlen:news.length=ys.length:=by have:=vl.1;grind
    have hv:VCs σ zb1 (ys.map fun r=>r.headD .kX) news:=by
     refine⟨by grind,fun n c v hc hv=>?_⟩;simp only[kO,ja]at hc;obtain⟨row,hrow,rfl⟩:=hc;have hr1:=vl.2.1 row (zat hrow);obtain⟨cl,rfl⟩:∃cl,row=[cl]:=yb.1 hr1;obtain⟨v',q1,q2⟩:=vl.2.2 n [cl] 0 cl hrow rfl
     grind
    refine za0.same (zsC hsrc he hd hbs hv hlen (b:=((ad.getD ⟨0,0,none⟩).block)) (off:=(ad.getD ⟨0,0,none⟩).off) fun hne=>?_) (show VC σ j _ _ from .str _ _) hag hm;obtain⟨b,o,rfl,hcell⟩:=hc (by grind)
    grind
   grind
  grind
 grind
def zyW{t u ty e es:TypeId}{e':TypeId}{xs:List WV}{vd vs:Value}{av:AV}{M':Mem}{fp:FP}(ht:P.underlying t=some (.slice e))(hu:P.underlying u=some (.slice e'))(hs:zbL P e=some es)(h:zoY M es xs=some (av,M',fp))(hr:zac σ j xs [vd,vs])(hag:zM σ w)(hm:MR own σ j M w) :
  za0 own σ j M w av M' ((Builtin.copy_ #[t,u] ty #[vd,vs]).run P w):=by
 obtain⟨x,y,rfl,hx,hy⟩:=zac.two hr;unfold zoY at h;split at h
 ·rename_i id g i k es' len cap src e1;cases e1;have hy:VC σ j src vs:=hy;split at h
  ·split at h
   ·cases h;cases hy;cases hx with
    |bsl _ _ _ _ _ _ _ _ L ad hj hl ha =>
     refine za0.same (v:=.int .i64 0) ?_ (show VC σ j _ _ from .int _ _ _) hag hm
     simp_all [Builtin.copy_,run_underlying,Builtin.lenOf,zaJ,Builtin.firstCells,storeCells,goInt]
   ·rename_i id2 g2 i2 k2 es2 Ce cap2 _;split at h
    ·rename_i hes;subst hes;split at h
     ·rename_i cs hcs;split at h
      ·rename_i vD;simp only[ja,ju]at h;obtain⟨M1,hst,rfl,rfl,rfl⟩:=h;cases hx with
       |bsl _ _ _ _ _ _ _ _ L ad hj hl ha =>
        cases hy with
        |bsl _ _ _ _ _ _ _ _ L2 ad2 hj2 hl2 ha2 =>
         obtain⟨us,q1,q2,_,q3⟩:=ztg hm hcs hj2;obtain⟨w',ui,r1,r2,r3⟩:=zkh (P:=P) hst hj (by rw[if_pos vD];omega) hag hm;refine⟨.int .i64 (min Ce len:Nat),w',σ,j,?_,show VC σ j _ _ from by exact .int _ _ _,r1,r2,r3⟩;have hfc:(Builtin.firstCells es2 (min Ce len) (.slice (some ad2) Ce cap2)).run P w=.ok us.toArray w:=by
          grind [zdy]
         have yD:(storeCells ad us).run P w=.ok () w':=by
          by_cases h0:us=[]
          ·grind [storeCells]
          ·have hc1:cap≠0:=by
            rintro rfl
            simp_all
           grind
         have CH:Nat.min Ce len=min Ce len:=rfl;simp only[Nat.min_def]at hfc ⊢;simp[Builtin.copy_,run_underlying ht,Builtin.lenOf,zaJ hs,CH,Nat.min_def,hfc,yD,goInt]
      grind
     grind
    grind
   grind
  grind
 grind
def zlY{id:Nat}{b':Blk}{pl:Pl}{o:Obj}{v:Value}{c:Cl}{M':Mem}(hn:zg M id b'=some M')(hag:zM σ w)(hm:MR own σ j M w)(hown:∀b,w.heap.size<=b->own b)(hg0:b'.gen=0)(hno:∀C T f,o≠.cells C T f)
  (hat:pl.at=some w.heap.size) (hbr:BR σ (j.put id 0 pl) b' pl (w.alloc o)) (hv:VC σ (j.put id 0 pl) c v) (h0:∀L,pl≠.loc L:=by intro L e;cases e):za0 own σ j M w (.w (.c c)) M' (.ok v (w.alloc o)):=by
 obtain⟨Bj,hlt,rfl⟩:=za1 hn;have hold:∀k,k<w.heap.size->(w.alloc o).heap[k]?=w.heap[k]?:=fun k hk=>by
  show(w.heap.push o)[k]?=_
  grind
 obtain⟨u4,hm'⟩:=hm.renew (w':=w.alloc o) (id:=id) (b':=b') (pl':=pl) hlt (fun b hb=>by grind)
  (fun k b q _ hb hq=>by
   have:=hm.qY hb hq
   grind) (by grind) (fun k e=>by grind) (fun _ L e=>absurd e (h0 L))
 rw[hg0]at u4 hm';refine⟨v,_,σ,_,rfl,hv,hag.AM (fun b o v hv=>hold b (hag.lt hv)),hm',zP.le_refl _,fun id' g pl' _ h=>Inj.An u4 id' g pl' h,by grind,fun k hk _=>hold k hk,fun _ _ _ h=>.inl h,fun id' b hid hb=>⟨b,?_,jm _,fun _=>⟨rfl,fun q hq=>hold q (hm.qY hb hq)⟩⟩,zd9.C4 hno⟩
 grind
theorem zwG{t:TypeId}{id:Nat}{g:Bool}{av:AV}{M':Mem}{fp:FP}{xs:List WV}(h:zi2 M id (.mk g) xs=some (av,M',fp))(hag:zM σ w)(hm:MR own σ j M w)(hown:∀b,w.heap.size<=b->own b) :
  za0 own σ j M w av M' ((Instr.makeMap t none).run P w):=by
 cases xs with
 |cons x xs=>cases h
 |nil =>
  simp only[zi2,ja,ju]at h;obtain⟨M1,hn,rfl,rfl,rfl⟩:=h;have:=zlY (o:=.map #[] 0) (pl:=.mp w.heap.size g) (v:=.map (some w.heap.size)) (c:=.map id g) hn hag hm hown rfl (by grind) rfl
   (⟨rfl,#[],0,[],by show(w.heap.push _)[w.heap.size]?=_;simp,rfl,rfl,fun i row e hr=>by grind⟩:MB σ _ _ _ g _) (.map _ _ _ _ (Inj.uZ _ _ _ _))
  simp_all [Instr.makeMap]
def zwx{t:TypeId}{id:Nat}{g:Bool}{av:AV}{M':Mem}{fp:FP}{xs:List WV}{vm:Value}(ht:zpP P t=some g)(h:zi2 M id .range xs=some (av,M',fp))(hr:zac σ j xs [vm])(hag:zM σ w)(hm:MR own σ j M w)(hown:∀b,w.heap.size<=b->own b) :
  za0 own σ j M w av M' ((Instr.range t vm).run P w):=by
 obtain⟨kt,e,kk,hu,hk,hg⟩:=zmF ht;obtain⟨x,rfl,hx⟩:=zac.one hr;unfold zi2 at h;split at h<;>rename_i e1<;>first |(cases e1;done) |skip
 ·cases e1;cases hx;simp only[ja,ju]at h;obtain⟨M1,hn,rfl,rfl,rfl⟩:=h;have:=zlY (o:=.mapIter none 0 #[] 0) (pl:=.mi w.heap.size) (v:=.pointer (some ⟨w.heap.size,0,none⟩)) (c:=.mit id) hn hag hm hown rfl (by grind) rfl
   (⟨rfl,.inl ⟨by show(w.heap.push _)[w.heap.size]?=_;simp,rfl⟩⟩:IB σ _ _ _ _) (.mit _ _ _ (Inj.uZ _ _ _ _))
  simp_all [Instr.range,run_underlying]
 ·cases e1;rename_i m g' _;split at h
  ·rename_i b c R hat;obtain⟨l,clock,es,rfl,hj,hb,hl,rfl,hR,hmb⟩:=zfY hm hat hx;simp only[ja,ju]at h;obtain⟨M1,hn,rfl,rfl,rfl⟩:=h;have u4:j id 0=none:=by
    obtain⟨Bj,hlt,_⟩:=za1 hn;cases h0:j id 0 with
    |none=>rfl
    |some pl=>obtain⟨b,hb,_⟩:=hm.dom _ _ _ h0;grind
   have hj0:j m 0=some (.mp l g'):=by cases hx with |map _ _ _ _ h=>grind
   have:=zlY (o:=.mapIter (some l) clock #[] clock) (pl:=.mi w.heap.size) (v:=.pointer (some ⟨w.heap.size,0,none⟩)) (c:=.mit id) hn hag hm hown rfl (by grind) rfl
    (⟨rfl,.inr ⟨m,g',l,clock,clock,Inj.An u4 _ _ _ hj0,.inl ⟨by show(w.heap.push _)[w.heap.size]?=_;simp,rfl⟩⟩⟩:IB σ _ _ _ _) (.mit _ _ _ (Inj.uZ _ _ _ _))
   simpa [Instr.range,run_underlying hu,zda hl]using this
  grind
 grind
def ztb:∀(vs:List Value) (k:Nat) (C:Array Value),k+vs.length<=C.size->(∀v∈vs,v.cells = #[v]) ->
  ∃C',Instr.fill (fun i=>some (i*1,1)) C ((vs.zipIdx k).map fun x=>(x.2,x.1))=some C'/\C'.size=C.size/\∀i,C'[i]?=if k<=i/\i<k+vs.length then vs[i-k]? else C[i]?
 |[],k,C,_,_=>⟨C,rfl,rfl,fun i=>by grind⟩
 |v::vs,k,C,hk,hv=>by
  obtain⟨C',q1,q2,q3⟩:=ztb vs (k+1) (C.setIfInBounds k v) (by grind) (fun x hx=>hv x (jE _ hx))
  grind [List.zipIdx_cons,Instr.fill]
theorem zyD{t e len id:Nat}{parts:Array (Nat×Value)}{vs:List Value}{xs:List WV}{av:AV}{M':Mem}{fp:FP}(ht:P.underlying t=some (.slice e))(hs:zbL P e=some 1)(hf:zAk P e=true)(hpo:parts.toList=(vs.zipIdx 0).map fun x=>(x.2,x.1))(hlen:vs.length=len)(hl:len<=1000)
  (h:zi2 M id .C7 xs=some (av,M',fp)) (hr:zac σ j xs vs) (hag:zM σ w) (hm:MR own σ j M w) (hown:∀b,w.heap.size<=b->own b) {zv:Value} (hz:(zeroValue e).run P w=.ok zv w) :
  za0 own σ j M w av M' ((Instr.buildSlice t len parts).run P w):=by
 simp only[zi2]at h;split at h
 ·rename_i hc;obtain⟨hok,uo⟩:=hc;simp only[ja,ju]at h;obtain⟨M1,hn,rfl,rfl,rfl⟩:=h;have hxl:xs.length=len:=by rw[hr.1,hlen]
  have AY:∀v∈vs,v.cells = #[v]:=by
   intro v hv;obtain⟨n,hn'⟩:=j7 hv;have hnx:n<xs.length:=by rw[hr.1];exact zC hn'
   have hx:=hr.2 n _ v (jq hnx) hn';have hk:=jw.1 hok _ (jf hnx);generalize xs[n]=x at hx hk;cases x with
   |c x=>exact VC.one hx
   |a cs=>grind [okW]
  obtain⟨C,q1,q2,q3⟩:=ztb vs 0 ((Array.range (len*1)).map fun i=>zv.cells[i % zv.cells.size]!) (by grind) AY;have hC:C=vs.toArray:=by
   grind
  obtain⟨Bj,hlt,rfl⟩:=za1 hn;have hrow:∀(i:Nat) (row:List Cl) (n:Nat) (cl:Cl),(xs.map WV.cells)[i]?=some row->row[n]?=some cl->row.length=1/\n=0/\∃v,vs[i]?=some v/\VC σ j cl v:=by
   intro i row n cl hi hn';simp only[kO,ja]at hi;obtain⟨x,hx,rfl⟩:=hi;have hil:i<vs.length:=by grind
   have hxv:=hr.2 i x _ hx (jq hil);have hk:=jw.1 hok _ (zat hx);cases x with
   |a cs=>grind [okW]
   |c x =>
    cases n with
    |zero=>simp[WV.cells]at hn';subst hn';exact⟨rfl,rfl,_,jq hil,hxv⟩
    |succ n=>grind [WV.cells]
  obtain⟨_,yK,hm',hst⟩:=zmH (b':={ box:=true,esz:=1,rows:=xs.map WV.cells,gen:=xs.length,fz:=false,ver:=xs.length }) (C:=vs.toArray) (T:=e) (w':=w.alloc (.cells vs.toArray e (0,0))) hm hag hown hlt
   (fun b hb=>by grind) rfl (zd9.AK rfl rfl rfl) (show 0<1 by simp) (fun row hrw=>by
    obtain⟨x,hx,rfl⟩:=jW.1 hrw;have hk:=jw.1 hok _ hx;cases x with
    |c x=>rfl
    |a cs=>grind [okW]) (by grind) (fun i row n cl hi hn'=>by
    grind)
  refine⟨.slice (some ⟨w.heap.size,0,none⟩) len len,_,σ,_,?_,?_,yK,hm',hst⟩
  ·have hne:len≠0:=wA
   simp only[Instr.buildSlice,Sem.run_bind,run_underlying ht,Result.andThen_ok,zaJ hs];rw[if_neg wA];simp only[show ¬(len*1=0) by omega,if_false,Sem.run_bind,hz,Result.andThen_ok,Sem.run_pure];rw[hpo,q1,hC];simp[newRow]
  ·have:=VC.slice (σ:=σ) (j.put id xs.length (.loc ⟨w.heap.size,0,1,vs.toArray.size⟩)) id xs.length 1 0 xs.length none _ (some ⟨w.heap.size,0,none⟩) len (Inj.uZ _ _ _ _) wA (by grind)
    (fun _=>⟨_,rfl,rfl,wD,by grind⟩)
   show VC _ _ _ _
   grind
 grind
end
end Go.Eng
