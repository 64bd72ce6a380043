/- This text proves parts of an evaluator's soundness: what the evaluator answers, the model's run does; no condition. -/
import Derived.OrdersIn
import Derived.RangeFuncIn
import GoSem.Decode
import Derived.Laws.AppendOwn
import Derived.Laws.CopyRow
import Derived.Laws.Entries
import Derived.Laws.StructEq
import Derived.RangeFuncRecord
import Derived.Laws.BytesArg
set_option linter.unusedVariables false
set_option linter.unusedSimpArgs false
set_option linter.unusedSectionVars false
namespace Go
abbrev ja:=@List.getElem_mem
abbrev jb:=@Option.map_eq_some_iff
abbrev jg:=@Int.natCast_zero
abbrev jh:=@Bool.and_eq_true
abbrev ji:=@Option.some.injEq
abbrev jk:=@List.nil_append
abbrev jm:=@List.length_cons
abbrev jo:=@List.getD_eq_getElem?_getD
abbrev jp:=@List.cons_append
abbrev jq:=@Nat.le_refl
abbrev jr:=@List.length_append
abbrev js:=@List.length_nil
abbrev jt:=@List.mem_append
abbrev ju:=@List.mem_cons_self
abbrev jv:=@List.getElem?_eq_getElem
abbrev jw:=@List.getElem?_append_left
abbrev jx:=@Int.eq_ofNat_of_zero_le
abbrev jy:=@List.mem_cons_of_mem
abbrev jz:=@List.mem_singleton
abbrev jA:=@List.all_eq_true
abbrev jB:=@List.mem_cons
abbrev jD:=@Nat.zero_le
abbrev jE:=@List.take_of_length_le
abbrev jF:=@List.append_assoc
abbrev jG:=@Prod.mk.injEq
abbrev jH:=@Nat.zero_add
abbrev jI:=@Bool.false_eq_true
abbrev jJ:=@List.getElem?_set_ne
abbrev jK:=@List.getElem?_eq_none
abbrev jM:=@List.findIdx?_eq_some_iff_getElem
abbrev jO:=@List.length_eq_zero_iff
abbrev jP:=@Int.natCast_add
abbrev jQ:=@List.any_eq_true
abbrev jR:=@Array.getElem?_eq_some_iff
abbrev jS:=@Nat.one_ne_zero
abbrev jT:=@List.foldl_cons
abbrev jW:=@List.pairwise_append
abbrev jX:=@List.getElem?_append_right
abbrev jY:=@List.flatMap_cons
abbrev j6:=@List.mem_append_left
abbrev j7:=@Nat.le_trans
abbrev j9:=@Int.natCast_one
abbrev kc:=@Nat.mul_le_mul_right
abbrev kd:=@List.getElem?_of_mem
abbrev ke:=@List.take_append_drop
abbrev kg:=@List.getElem?_set_self
abbrev kh:=@List.getElem?_eq_some_iff
abbrev ki:=@List.drop_eq_getElem_cons
abbrev kj:=@List.length_pos_iff
abbrev kl:=@List.pairwise_cons
abbrev kq:=@Bool.true_and
abbrev ky:=@List.set_append_right
abbrev kA:=@List.eq_nil_of_length_eq_zero
abbrev kD:=@Nat.lt_or_ge
abbrev kE:=@List.findIdx?_eq_none_iff
abbrev kF:=@List.mem_of_getElem?
abbrev kG:=@Int.le_refl
abbrev kH:=@Nat.add_zero
abbrev kJ:=@List.mem_map
abbrev kK:=@List.any_eq_false
abbrev kL:=@List.mem_append_right
abbrev kM:=@List.getElem?_take
abbrev kN:=@List.append_nil
abbrev kO:=@Classical.byContradiction
abbrev kP:=@List.mem_range
abbrev kQ:=@List.mem_flatMap
abbrev kR:=@Bool.not_eq_true'
abbrev kS:=@List.findIdx?_cons
abbrev kT:=@Array.getElem?_append_left
abbrev kU:=@Nat.add_assoc
abbrev kV:=@List.map_cons
abbrev kW:=@Nat.add_mul
abbrev kX:=@Array.getD_eq_getD_getElem?
abbrev kZ:=@Int.tdiv_eq_ediv_of_nonneg
abbrev k7:=@Bool.false_or
abbrev k9:=@List.set_append_left
abbrev qc:=@List.mem_or_eq_of_mem_set
abbrev qd:=@Bool.or_eq_true
abbrev qf:=@List.getElem_of_mem
abbrev qi:=@List.map_nil
abbrev qk:=@Nat.le_mul_of_pos_right
abbrev qm:=@Option.isSome_none
abbrev qn:=@List.getElem?_drop
abbrev qo:=@Int.tmod_eq_emod_of_nonneg
abbrev qp:=@Int.emod_lt_of_pos
abbrev qr:=@Int.emod_nonneg
abbrev qt:=@Nat.succ_mul
abbrev qu:=@List.not_mem_nil
abbrev qx:=@List.mem_of_find?_eq_some
abbrev qz:=@Option.isSome_iff_exists
abbrev qA:=@Nat.mul_comm
abbrev qC:=@Option.getD_some
abbrev qD:=@List.mem_of_mem_take
abbrev qE:=@List.getElem?_append
abbrev qG:=@List.getElem?_map
abbrev qH:=@List.nodup_cons
abbrev qJ:=@Array.getElem?_setIfInBounds_ne
abbrev qK:=@Ne.symm
abbrev qL:=@List.getElem?_toArray
abbrev qN:=@Nat.eq_or_lt_of_le
abbrev qP:=@Array.getElem?_setIfInBounds_self_of_lt
abbrev qQ:=@List.getElem?_take_of_lt
abbrev qW:=@Nat.mod_lt
abbrev qX:=@Array.getElem?_push
abbrev qZ:=@Array.getElem?_eq_none
abbrev ub:=@Option.bind_some
abbrev uc:=@List.drop_zero
abbrev ud:=@List.eq_nil_or_concat
abbrev ue:=@List.concat_eq_append
abbrev ug:=@List.pairwise_iff_getElem
abbrev uh:=@Array.getElem?_eq_getElem
abbrev ui:=@List.mem_filter
abbrev uj:=@Nat.le_succ
abbrev uk:=@List.mem_of_mem_drop
abbrev ul:=@Bool.eq_false_iff
abbrev uo:=@Nat.lt_irrefl
abbrev uq:=@List.any_cons
abbrev ur:=@Int.not_lt
abbrev ut:=@Array.ext'
abbrev uw:=@List.getD_cons_zero
abbrev uy:=@Nat.le_max_right
abbrev uz:=@Nat.le_add_right
abbrev uA:=@List.getElem?_cons_zero
abbrev uB:=@List.filter_cons_of_neg
abbrev uC:=@Bool.not_eq_true
abbrev uD:=@List.take_append_of_le_length
abbrev uE:=@List.drop_of_length_le
abbrev uF:=@List.drop_eq_nil_of_le
abbrev uG:=@List.append_eq_nil_iff
abbrev uH:=@Array.getElem?_extract
abbrev uJ:=@Option.map_some
abbrev uK:=@Nat.le_max_left
abbrev uL:=@List.map_append
abbrev uM:=@List.length_set
abbrev uN:=@List.length_map
abbrev uO:=@List.find?_some
abbrev uP:=@List.set_comm
abbrev uQ:=@List.all_cons
abbrev uS:=@List.length_replicate
abbrev uT:=@List.Perm.append_left
abbrev uU:=@List.getElem?_set
abbrev uV:=@List.ext_getElem?
abbrev u5:=@Nat.mul_le_mul
abbrev vd:=@List.filter_cons
abbrev vj:=@List.mem_map_of_mem
abbrev vq:=@List.getElem_append_left
abbrev vt:=@Nat.div_add_mod
abbrev vu:=@Int.natCast_mul
abbrev vz:=@Nat.lt_of_lt_of_le
abbrev vD:=@List.pairwise_singleton
abbrev vE:=@List.getElem?_replicate
abbrev vK:=@List.take_succ_eq_append_getElem
abbrev vL:=@List.find?_cons_of_neg
abbrev vM:=@List.drop_drop
abbrev vN:=@List.Perm.refl
abbrev vO:=@Int.zero_add
abbrev vP:=@Int.mul_nonneg
abbrev vT:=@Nat.div_lt_iff_lt_mul
abbrev vU:=@List.contains_iff_mem
abbrev vV:=@Array.getElem?_toList
abbrev v6:=@List.perm_middle
abbrev v7:=@Array.eq_empty_of_size_eq_zero
abbrev yb:=@Bool.or_eq_false_iff
abbrev yi:=@Option.some.inj
abbrev yk:=@Array.getElem?_setIfInBounds
abbrev yn:=@List.filter_eq_self
abbrev yq:=@Nat.add_comm
abbrev yr:=@List.map_set
abbrev yu:=@Array.getElem?_append_right
abbrev yD:=@Nat.eq_zero_or_pos
abbrev yE:=@Nat.add_sub_cancel
abbrev yF:=@Nat.add_mul_mod_self_right
abbrev yG:=@List.set_cons_zero
abbrev yH:=@List.mapM_cons
abbrev yI:=@List.exists_cons_of_ne_nil
abbrev yJ:=@Bool.not_false
abbrev yL:=@List.getLastD_eq_getLast?
abbrev yM:=@List.getLast?_eq_getElem?
abbrev yN:=@List.getElem_append_right
abbrev yO:=@List.getElem?_eq_none_iff
abbrev yP:=@Array.mapM_eq_mapM_toList
abbrev yS:=@Nat.succ_le_of_lt
abbrev yT:=@List.size_toArray
abbrev yU:=@Int.toNat_natCast
abbrev yX:=@List.map_take
abbrev yY:=@List.cons.inj
abbrev yZ:=@Bool.not_true
abbrev Ac:=@List.take_length
abbrev Ad:=@List.take_append
abbrev Ag:=@Nat.sub_self
abbrev Ah:=@Nat.pow_succ
abbrev Aj:=@Int.ediv_nonneg
abbrev Ak:=@Bool.eq_iff_iff
end Go
namespace Go.Eng
inductive Cl where
 |bool (b:Bool)
 |int (k:IntKind) (n:Int)
 |str (s:ByteArray)
 |ptr (id g i k:Nat)
 |uR (row:List Cl) (k:Nat)
 |qS
 |slice (id g esz off len:Nat) (cap:Option Nat)
 |jc (rows:List (List Cl))
 |jd
 |fn (f:FuncId) (first captured:List Cl)
 |vl
 |iface (t:TypeId) (agg:Bool) (cs:List Cl)
 |qy
 |yld (id:Nat) (f:FuncId) (sh:List (Nat×Bool×Nat))
 deriving Inhabited
inductive WV where
 |c (x:Cl)
 |a (cs:List Cl)
 deriving Inhabited
inductive AV where
 |w (x:WV)
 |t (xs:List WV)
 |u
 deriving Inhabited
structure Blk where
 box:Bool
 esz:Nat
 rows:List (List Cl)
 gen:Nat
 fz:Bool
 ver:Nat
 deriving Inhabited
abbrev Mem:=List (Option Blk)
inductive Opd where
 |s (n:Nat)
 |k (v:WV)
 deriving Inhabited
structure zbz where
 fa:Bool
 deriving Inhabited
inductive P1 where
 |CX (t:TypeId)
 |Cp (ok:Bool) (t:TypeId) (z:WV)
 deriving Inhabited
inductive P2 where
 |str (op:BinOp)
 |sidx
 deriving Inhabited
inductive ML where
 |CZ
 deriving Inhabited
inductive CO where
 |mv (x:Opd)
 |pick (c a b:Opd)
 |ko (q esz:Nat)
 |box (q:Nat) (n:Nat) (x:Opd)
 |build (zero:List Cl) (parts:List (Nat×Nat×Opd))
 |lit (q esz:Nat) (zero:List (List Cl)) (parts:List (Nat×Opd))
 |load (agg:Bool) (n:Nat) (p:Opd)
 |store (n:Nat) (p v:Opd)
 |kC (x:Opd)
 |bin (op:BinOp) (x y:Opd)
 |eqb (neg:Bool) (x y:Opd)
 |BI (neg:Bool) (x:Opd)
 |eqa (neg:Bool) (sh:List Bool) (x y:Opd)
 |un (op:UnOp) (x:Opd)
 |conv (k:IntKind) (x:Opd)
 |yc (f:FuncId) (fi ca:List Opd)
 |Ae (q esz bytes:Nat) (zero:List Cl) (len cap:Opd)
 |slice (es:Nat) (x:Opd) (lo hi mx:Option Opd)
 |Bw (off:Nat) (p:Opd)
 |field (agg:Bool) (off n:Nat) (x:Opd)
 |A4 (esz:Nat) (x i:Opd)
 |Ab (len esz:Nat) (x i:Opd)
 |aidx (agg:Bool) (len esz:Nat) (x i:Opd)
 |extract (t i:Nat)
 |len (x:Opd)
 |slen (x:Opd)
 |j8 (mx:Bool) (xs:List Opd)
 |append (esz bytes:Nat) (s x:Opd)
 |clear (zero:List Cl) (x:Opd)
 |call (m:zbz) (f:Opd) (args:List Opd)
 |p1 (k:P1) (x:Opd)
 |p2 (k:P2) (x y:Opd)
 |B7 (k:ML) (q:Nat) (xs:List Opd)
 |bad
 deriving Inhabited
structure zaG where
 ix:Nat
 dst:Option Nat
 guard:Option (Nat×Bool)
 op:CO
 deriving Inhabited
inductive CC where
 |skip
 |region (nA:Nat) (ops:List zaG) (prs:List (Nat×Nat)) (vw:Option (List Nat))
 |seq (a b:CC)
 |cond (c:Opd) (a b:CC)
 |block (id:Nat) (b:CC)
 |loop (live:Option (List Nat)) (b:CC)
 |exit (id:Nat)
 |ret
 |rng (f:Opd) (vf:FuncId) (caps:List Nat)
 deriving Inhabited
inductive RC where
 |slot (n:Nat)
 |cell (n:Nat) (agg:Bool) (size:Nat)
 deriving Inhabited
structure CFn where
 frz:Bool
 rnd:Option (List Nat×CC)
 nargs:Nat
 ntmps:Nat
 code:CC
 res:List RC
 deriving Inhabited
abbrev Env:=List (Nat×AV)
def Env.get:Env->Nat->Option AV
 |[],_=>none
 |(m,v)::e,n=>if m=n then some v else Env.get e n
def Env.vw(e:Env):List Nat->Env
 |[]=>[]
 |n::ns=>match e.get n with
  |some v=>(n,v)::e.vw ns
  |none=>e.vw ns
def Opd.ev(E:Nat->Option AV):Opd->Option WV
 |.s n=>match E n with
  |some (.w x)=>some x
  |_=>none
 |.k v=>some v
def Opd.av(E:Nat->Option AV):Opd->Option AV
 |.s n=>E n
 |.k v=>some (.w v)
def evs(E:Nat->Option AV):List Opd->Option (List WV)
 |[]=>some []
 |o::os=>match o.ev E,evs E os with
  |some v,some vs=>some (v::vs)
  |_,_=>none
def WV.cells:WV->List Cl
 |.c x=>[x]
 |.a cs=>cs
def zaI(agg:Bool)(cs:List Cl):Option WV :=
 if agg then some (.a cs) else match cs with
  |[x]=>some (.c x)
  |_=>none
def look(M:Mem)(id g:Nat):Option Blk :=
 match M[id]? with
 |some (some b)=>if g=b.gen then some b else none
 |_=>none
def cut(row:List Cl)(k n:Nat):Option (List Cl) :=
 if k+n<=row.length then some ((row.drop k).take n) else none
def AH(row:List Cl)(k:Nat)(cs:List Cl):Option (List Cl) :=
 if k+cs.length<=row.length then some (row.take k++cs++row.drop (k+cs.length)) else none
inductive FP where
 |no
 |bad
 |ld (id k n:Nat)
 |wr (l:List (Nat×Nat×Nat))
 deriving Inhabited
def whole:Nat:=1000000
def FP.Aa(id k n:Nat)(w:Nat×Nat×Nat):Bool:=id !=w.1||(w.2.2<whole&&(k+n<=w.2.1||w.2.1+w.2.2<=k))
def FP.apart:FP->FP->Bool
 |.bad,_=>false
 |_,.bad=>false
 |.ld id k n,.wr l=>l.all (FP.Aa id k n)
 |.wr l,.ld id k n=>l.all (FP.Aa id k n)
 |_,_=>true
def FP.old(base:Nat):FP->Bool
 |.ld id _ _=>id<base
 |_=>true
def zcl:Cl->Bool
 |.ptr .. |.slice .. |.yld ..=>false
 |.fn _ fi ca=>fi.isEmpty&&ca.isEmpty
 |.iface ..=>false
 |_=>true
def zdR(M:Mem):Cl->Option Cl
 |.slice id g _ off len cap=>match look M id g with
  |some b=>if b.box then none else if off+len<=b.rows.length then some (.jc ((b.rows.drop off).take len)) else none
  |none=>none
 |.jd=>some (.jc [])
 |x=>some x
def yK(M:Mem):List Cl->Option (List Cl)
 |[]=>some []
 |x::xs=>match zdR M x,yK M xs with
  |some y,some ys=>some (y::ys)
  |_,_=>none
def zn7(M:Mem):WV->Option WV
 |.c x=>(zdR M x).map .c
 |.a cs=>(yK M cs).map .a
def zla(M:Mem):List WV->Option (List WV)
 |[]=>some []
 |x::xs=>match zn7 M x,zla M xs with
  |some y,some ys=>some (y::ys)
  |_,_=>none
def zoS(M:Mem):AV->Option AV
 |.w x=>(zn7 M x).map .w
 |.t xs=>(zla M xs).map .t
 |.u=>some .u
def slC:Cl->List Nat
 |.slice id _ _ _ _ _=>[id]
 |_=>[]
def WV.sls(x:WV):List Nat:=x.cells.flatMap slC
def AV.sls:AV->List Nat
 |.w x=>x.sls
 |.t xs=>xs.flatMap WV.sls
 |.u=>[]
def zX(M:Mem)(id:Nat):Mem :=
 match M[id]? with
 |some (some b)=>if b.fz then M else M.set id (some { b with fz:=true,ver:=b.ver+1 })
 |_=>M
def zbg(M:Mem)(ids:List Nat):Mem:=ids.foldl zX M
def C0:Cl->List Nat
 |.ptr id _ _ _=>[id]
 |.slice id _ _ _ _ _=>[id]
 |.yld id _ _=>[id]
 |_=>[]
def zBH:Cl->List Nat
 |.fn _ fi ca=>fi.flatMap C0++ca.flatMap C0
 |.iface _ _ cs=>cs.flatMap C0
 |x=>C0 x
def WV.ids(x:WV):List Nat:=x.cells.flatMap zBH
def AV.ids:AV->List Nat
 |.w x=>x.ids
 |.t xs=>xs.flatMap WV.ids
 |.u=>[]
def Blk.ids(b:Blk):List Nat:=if b.box then b.rows.flatMap (fun r=>r.flatMap zBH) else []
def zpw(M:Mem)(id:Nat):List Nat :=
 match M[id]? with
 |some (some b)=>b.ids
 |_=>[]
def collect(M:Mem):Nat->List Nat->List Nat->List Nat
 |0,_,seen=>seen
 |_+1,[],seen=>seen
 |f+1,id::todo,seen=>if seen.contains id then collect M f todo seen else collect M f (zpw M id++todo) (seen++[id])
def uv(ρ:Nat->Option Nat):Cl->Option Cl
 |.ptr id g i k=>(ρ id).map (.ptr · g i k)
 |.slice id g es off len cap=>(ρ id).map (.slice · g es off len cap)
 |.yld id f sh=>(ρ id).map (.yld · f sh)
 |.fn f [] []=>some (.fn f [] [])
 |.fn ..=>none
 |.iface ..=>none
 |x=>some x
def y7(ρ:Nat->Option Nat):List Cl->Option (List Cl)
 |[]=>some []
 |x::xs=>match uv ρ x,y7 ρ xs with
  |some y,some ys=>some (y::ys)
  |_,_=>none
def zeS(ρ:Nat->Option Nat):Cl->Option Cl
 |.fn f fi ca=>match y7 ρ fi,y7 ρ ca with
  |some fi,some ca=>some (.fn f fi ca)
  |_,_=>none
 |.iface t a cs=>(y7 ρ cs).map (.iface t a)
 |x=>uv ρ x
def zfe(ρ:Nat->Option Nat):List Cl->Option (List Cl)
 |[]=>some []
 |x::xs=>match zeS ρ x,zfe ρ xs with
  |some y,some ys=>some (y::ys)
  |_,_=>none
def zez(ρ:Nat->Option Nat):List (List Cl)->Option (List (List Cl))
 |[]=>some []
 |x::xs=>match zfe ρ x,zez ρ xs with
  |some y,some ys=>some (y::ys)
  |_,_=>none
def zpM(ρ:Nat->Option Nat):WV->Option WV
 |.c x=>(zeS ρ x).map .c
 |.a cs=>(zfe ρ cs).map .a
def ziU(ρ:Nat->Option Nat):List WV->Option (List WV)
 |[]=>some []
 |x::xs=>match zpM ρ x,ziU ρ xs with
  |some y,some ys=>some (y::ys)
  |_,_=>none
def znn(ρ:Nat->Option Nat):AV->Option AV
 |.w x=>(zpM ρ x).map .w
 |.t xs=>(ziU ρ xs).map .t
 |.u=>some .u
def zhj(ρ:Nat->Option Nat)(b:Blk):Option Blk :=
 if b.box then(zez ρ b.rows).map fun r=>{ b with rows:=r } else some b
def zd3:List Nat->Nat->Option Nat
 |[],_=>none
 |x::xs,n=>if x=n then some 0 else(zd3 xs n).map (· + 1)
def zku:List Nat->Bool
 |[]=>true
 |x::xs=>!xs.contains x&&zku xs
def zck(M:Mem)(ρ:Nat->Option Nat):List Nat->Option Mem
 |[]=>some []
 |id::ids=>match M[id]?,zck M ρ ids with
  |some (some b),some bs=>(zhj ρ b).map fun b=>some b::bs
  |_,_=>none
def uX:Cl->Nat
 |.ptr id _ _ _=>id+1
 |.slice id _ _ _ _ _=>id+1
 |.yld id _ _=>id+1
 |_=>0
def zr:Cl->Bool
 |.fn _ [] []=>true
 |.fn ..=>false
 |.iface ..=>false
 |_=>true
def below(n:Nat):Cl->Bool
 |.fn _ fi ca=>fi.all (fun x=>zr x&&uX x<=n)&&ca.all (fun x=>zr x&&uX x<=n)
 |.iface _ _ cs=>cs.all (fun x=>zr x&&uX x<=n)
 |x=>uX x<=n
def WV.below(n:Nat)(v:WV):Bool:=v.cells.all (Eng.below n)
def AV.below(n:Nat):AV->Bool
 |.w x=>x.below n
 |.t xs=>xs.all (WV.below n)
 |.u=>true
def Blk.below(n:Nat)(b:Blk):Bool:=if b.box then b.rows.all (fun r=>r.all (Eng.below n)) else true
def zH(n:Nat)(M:Mem):Bool:=M.all fun |some b=>b.below n |none=>true
def zfj:Nat:=4096
def finish(k:Nat)(res:AV)(M:Mem):Option (AV×Mem) :=
 if M.length=k then some (res,M) else
 if res.below k&&zH k (M.take k) then some (res,M.take k) else
 let pinned:=List.range k;let new:=collect M zfj (res.ids++pinned.flatMap (zpw M)) pinned
 if zku new&&new.take k==pinned then
  let ρ:=zd3 new
  match znn ρ res,zck M ρ new with
  |some r,some M'=>some (r,M')
  |_,_=>none
 else none
def back(ρ:Nat->Option Nat):List Nat->Mem->Mem->Option (Mem×List Nat)
 |[],_,M=>some (M,[])
 |id::ids,some b::Ms,M=>match M[id]? with
  |some (some b0) =>
   if b.ver=b0.ver then back ρ ids Ms M
   else match zhj ρ b,back ρ ids Ms M with
    |some b',some (M',ch)=>some (M'.set id (some b'),id::ch)
    |_,_=>none
  |_=>none
 |_,_,_=>none
def zgx(ρ:Nat->Option Nat):Mem->Option Mem
 |[]=>some []
 |some b::bs=>match zhj ρ b,zgx ρ bs with
  |some b',some bs'=>some (some b'::bs')
  |_,_=>none
 |none::_=>none
abbrev za4:=FuncId->List WV->Mem->Option (AV×Mem)
def vY(ids:List Nat)(M:Mem)(res:AV)(Ms:Mem):Option (AV×Mem×FP) :=
 let ρ:Nat->Option Nat:=fun j=>match ids[j]? with
  |some id=>some id
  |none=>some (M.length+(j-ids.length))
 match back ρ ids Ms M,zgx ρ (Ms.drop ids.length),znn ρ res with
 |some (M',ch),some new,some r=>some (r,M'++new,if ch.isEmpty then .no else .wr (ch.map fun id=>(id,0,whole)))
 |_,_,_=>none
def zcG(cf:za4)(f:FuncId)(args:List WV)(M:Mem):Option (AV×Mem×FP) :=
 let ids:=collect M zfj (args.flatMap WV.ids) []
 if zku ids then
  match ziU (zd3 ids) args,zck M (zd3 ids) ids with
  |some as,some Ms =>
   match cf f as Ms with
   |none=>none
   |some (r,Ms')=>vY ids M r Ms'
  |_,_=>none
 else none
def ztI:Cl->Bool
 |.bool _ |.int .. |.str _ |.qS |.jd |.vl |.qy=>true
 |_=>false
def WV.plain(v:WV):Bool:=v.cells.all ztI
def AV.plain:AV->Bool
 |.w x=>x.plain
 |.t xs=>xs.all WV.plain
 |.u=>true
def FP.isNo:FP->Bool
 |.no=>true
 |_=>false
def callee:WV->Option (FuncId×List WV×List WV×Bool)
 |.c (.fn f fi ca)=>some (f,fi.map .c,ca.map .c,false)
 |.c (.yld id f sh)=>some (f,[.c (.yld id f sh)],[],true)
 |_=>none
def zl2(f:FuncId):List WV->Bool
 |.c (.yld _ g _)::_=>g !=f
 |_=>true
def zx(cf:za4)(m:zbz)(fv:WV)(args:List WV)(M:Mem):Option (AV×Mem×FP) :=
 match callee fv with
 |some (f,fi,ca,y) =>
  if m.fa then
   match zla M args with
   |none=>none
   |some as =>
    if y||zl2 f (fi++as++ca) then
    let sl:=args.flatMap WV.sls
    if sl.isEmpty then zcG cf f (fi++as++ca) M else
    match zcG cf f (fi++as++ca) (zbg M sl)with
    |none=>none
    |some (r,M2,fp) =>
     if fp.isNo&&M2.length==M.length&&r.plain then some (r,M,.no)
     else some (r,M2,match fp with |.wr l=>.wr (sl.map (fun id=>(id,0,whole))++l) |_=>.wr (sl.map fun id=>(id,0,whole)))
    else none
  else if y||zl2 f (fi++args++ca) then zcG cf f (fi++args++ca) M else none
 |none=>none
def zCG(op:BinOp)(k:IntKind)(a b:Int):Option Cl :=
 match op with
 |.add=>some (.int k (k.wrap (a+b)))
 |.sub=>some (.int k (k.wrap (a-b)))
 |.mul=>some (.int k (k.wrap (a*b)))
 |.quo=>if b=0 then none else some (.int k (k.wrap (a.tdiv b)))
 |.rem=>if b=0 then none else some (.int k (a.tmod b))
 |.eql=>some (.bool (a==b))
 |.neq=>some (.bool (a !=b))
 |.lss=>some (.bool (a<b))
 |.leq=>some (.bool (a<=b))
 |.gtr=>some (.bool (a>b))
 |.geq=>some (.bool (a>=b))
 |.and=>some (.int k (k.wrap (BitVec.ofInt k.bits a &&& BitVec.ofInt k.bits b).toNat))
 |.or=>some (.int k (k.wrap (BitVec.ofInt k.bits a ||| BitVec.ofInt k.bits b).toNat))
 |.xor=>some (.int k (k.wrap (BitVec.ofInt k.bits a ^^^ BitVec.ofInt k.bits b).toNat))
 |.andNot=>some (.int k (k.wrap (BitVec.ofInt k.bits a &&& ~~~BitVec.ofInt k.bits b).toNat))
 |_=>none
def zBR(op:BinOp)(x y:Cl):Option Cl :=
 match x,y with
 |.int k a,.int k' b=>match op with
  |.shl=>if b<0 then none else some (.int k (k.wrap (a*2 ^ min b.toNat k.bits)))
  |.shr=>if b<0 then none else some (.int k (a.fdiv (2 ^ min b.toNat k.bits)))
  |op=>if k=k' then zCG op k a b else none
 |_,_=>none
def p1F:P1->WV->Option AV
 |.CX t,.c x=>some (.w (.c (.iface t false [x])))
 |.CX t,.a cs=>some (.w (.c (.iface t true cs)))
 |.Cp ok t z,.c (.iface t' agg cs)=>if t'=t then match zaI agg cs with
   |some v=>some (if ok then .t [v,.c (.bool true)] else .w v)
   |none=>none
  else if ok then some (.t [z,.c (.bool false)]) else none
 |.Cp ok _ z,.c .qy=>if ok then some (.t [z,.c (.bool false)]) else none
 |_,_=>none
def zTc(op:BinOp)(a b:ByteArray):Option Cl :=
 match op with
 |.add=>if((a.size+b.size:Nat):Int)>IntKind.i64.max then none else some (.str (a++b))
 |.eql=>some (.bool (a.toList==b.toList))
 |.neq=>some (.bool (!(a.toList==b.toList)))
 |.lss=>some (.bool (Op.bytesLess a.toList b.toList))
 |.leq=>some (.bool (Op.bytesLess a.toList b.toList||a.toList==b.toList))
 |.gtr=>some (.bool (!(Op.bytesLess a.toList b.toList||a.toList==b.toList)))
 |.geq=>some (.bool (!Op.bytesLess a.toList b.toList))
 |_=>none
def p2F:P2->WV->WV->Option AV
 |.str op,.c (.str a),.c (.str b)=>(zTc op a b).map fun c=>.w (.c c)
 |.sidx,.c (.str s),.c (.int _ n)=>if 0<=n then(s[n.toNat]?).map fun b=>.w (.c (.int .u8 b.toNat)) else none
 |_,_,_=>none
def zBL(neg:Bool)(x y:Cl):Option Cl :=
 match x,y with
 |.bool a,.bool b=>some (.bool (if neg then !(a==b) else(a==b)))
 |_,_=>none
def zBB(neg:Bool)(x:Cl):Option Cl :=
 match x with
 |.qS=>some (.bool (!neg))
 |.ptr .. |.uR ..=>some (.bool neg)
 |_=>none
def zue:Bool->Cl->Cl->Option Bool
 |false,.int k a,.int k' b=>if k=k' then some (a==b) else none
 |true,.bool a,.bool b=>some (a==b)
 |_,_,_=>none
def zbM:List Bool->List Cl->List Cl->Option Bool
 |[],[],[]=>some true
 |s::ss,x::xs,y::ys=>match zue s x y with
  |some true=>zbM ss xs ys
  |r=>r
 |_,_,_=>none
def unC(op:UnOp)(x:Cl):Option Cl :=
 match op,x with
 |.neg,.int k n=>some (.int k (k.wrap (0-n)))
 |.not,.bool b=>some (.bool (!b))
 |_,_=>none
def zyw(mx:Bool)(a b:Int):Int:=if mx then(if b>a then b else a) else(if b<a then b else a)
def zoU(mx:Bool):Int->IntKind->List WV->Option Cl
 |a,k,[]=>some (.int k a)
 |a,k,.c (.int k' b)::r=>if k=k' then zoU mx (zyw mx a b) k r else none
 |_,_,_=>none
def zt8(cells:List Cl)(off size:Nat)(v:WV):Option (List Cl) :=
 if v.cells.length=size then AH cells off v.cells else none
def zdv(E:Nat->Option AV):List Cl->List (Nat×Nat×Opd)->Option (List Cl)
 |cells,[]=>some cells
 |cells,(off,size,o)::r=>match o.ev E with
  |some v=>match zt8 cells off size v with
   |some yB=>zdv E yB r
   |none=>none
  |none=>none
def zdS(E:Nat->Option AV)(M:Mem)(esz:Nat):List (List Cl)->List (Nat×Opd)->Option (List (List Cl))
 |rows,[]=>some rows
 |rows,(i,o)::r=>match o.ev E with
  |some v=>match yK M v.cells with
   |some cs=>if cs.all zcl&&cs.length=esz&&i<rows.length then zdS E M esz (rows.set i cs) r else none
   |none=>none
  |none=>none
def zcf(E:Nat->Option AV)(parts:List (Nat×Opd)):List Nat :=
 parts.flatMap fun p=>match p.2.ev E with
  |some v=>v.sls
  |none=>[]
def zmk(n:Int)(len:Nat):Option Nat:=if 0<=n/\n<len then some n.toNat else none
def zgN(n:Int)(top:Nat):Option Nat:=if 0<=n/\n<=top then some n.toNat else none
def zcy(E:Nat->Option AV)(o:Option Opd)(dflt top:Nat):Option Nat :=
 match o with
 |none=>some dflt
 |some x=>match x.ev E with
  |some (.c (.int _ n))=>zgN n top
  |_=>none
def zxn(len:Nat):Option Nat->Nat
 |some c=>c
 |none=>len
def sliceB(E:Nat->Option AV)(len:Nat)(cap:Option Nat)(lo hi mx:Option Opd):Option (Nat×Nat×Option Nat) :=
 match mx with
 |none =>
  match zcy E hi len (zxn len cap)with
  |some h=>match zcy E lo 0 h with
   |some l=>some (l,h-l,cap.map (· - l))
   |none=>none
  |none=>none
 |some _ =>
  match zcy E mx len (zxn len cap)with
  |some m=>match zcy E hi len m with
   |some h=>match zcy E lo 0 h with
    |some l=>if hi.isSome then some (l,h-l,some (m-l)) else none
    |none=>none
   |none=>none
  |none=>none
def zt9(off:Nat):Cl->Option Cl
 |.ptr id g i k=>some (.ptr id g i (k+off))
 |.uR r k=>some (.uR r (k+off))
 |_=>none
def zt5(es:Nat):Cl->Cl->Option Cl
 |.slice id g es' off len _,.int _ n=>match zmk n len with
  |some k=>if es'=es then some (.ptr id g (off+k) 0) else none
  |none=>none
 |.jc rows,.int _ n=>match zmk n rows.length with
  |some k=>match rows[k]? with
   |some row=>if row.length=es then some (.uR row 0) else none
   |none=>none
  |none=>none
 |_,_=>none
def zus(len es:Nat):Cl->Cl->Option Cl
 |.ptr id g r k,.int _ n=>match zmk n len with
  |some q=>some (.ptr id g r (k+q*es))
  |none=>none
 |.uR r k,.int _ n=>match zmk n len with
  |some q=>some (.uR r (k+q*es))
  |none=>none
 |_,_=>none
def znj(E:Nat->Option AV)(es:Nat)(x:Cl)(lo hi mx:Option Opd):Option Cl :=
 match x with
 |.slice id g es' off len cap=>if es'=es then
   match sliceB E len cap lo hi mx with
   |some (l,n,c)=>some (.slice id g es (off+l) n c)
   |none=>none
  else none
 |.jc rows=>match sliceB E rows.length none lo hi mx with
  |some (l,n,_)=>if l+n<=rows.length/\rows.all (fun r=>r.length==es)=true then some (.jc ((rows.drop l).take n)) else none
  |none=>none
 |.jd=>match sliceB E 0 (some 0) lo hi mx with
  |some _=>some .jd
  |none=>none
 |_=>none
def zeF(M:Mem)(esz:Nat):Cl->Option (List (List Cl))
 |.jd=>some []
 |.jc rows=>if rows.all (fun r=>r.length==esz) then some rows else none
 |.slice id g _ off len _=>match look M id g with
  |some b=>if !b.box&&b.esz=esz&&off+len<=b.rows.length then some ((b.rows.drop off).take len) else none
  |none=>none
 |_=>none
def roomy(n bytes:Nat):Bool:=n*bytes<=140737488355328
def zcB(M:Mem)(esz bytes:Nat)(s x:Cl):Option (AV×Mem×FP) :=
 match zeF M esz x with
 |none=>none
 |some ys =>
  let fresh:Option (AV×Mem×FP) :=
   if roomy ys.length bytes&&0<esz then
    some (.w (.c (.slice M.length ys.length esz 0 ys.length none)),M++[some { box:=false,esz,rows:=ys,gen:=ys.length,fz:=false,ver:=ys.length }],.no)
   else none
  match s with
  |.jd=>if ys.isEmpty then some (.w (.c .jd),M,.no) else fresh
  |.jc rows=>if ys.isEmpty then some (.w (.c (.jc rows)),M,.no) else none
  |.slice id g es off len cap=>match look M id g with
   |some b =>
    if !b.box&&b.esz=esz&&0<esz&&off+len<=b.rows.length&&(!b.fz||off+len=b.rows.length)&&roomy (len+ys.length) bytes then
     if ys.isEmpty then some (.w (.c (.slice id g es off len cap)),M,.wr [(id,0,whole)]) else
     some (.w (.c (.slice id (g+ys.length) esz 0 (len+ys.length) none)),
      M.set id (some { b with rows:=(b.rows.drop off).take len++ys,gen:=g+ys.length,ver:=b.ver+ys.length }),.wr [(id,0,whole)])
    else none
   |none=>none
  |_=>none
def storeAt(M:Mem)(id g i k:Nat)(cs:List Cl):Option Mem :=
 match look M id g with
 |some b =>
  if b.fz then none else
  match b.rows[i]? with
  |some row=>match AH row k cs with
   |some Ay=>some (M.set id (some { b with rows:=b.rows.set i Ay,ver:=b.ver+1 }))
   |none=>none
  |none=>none
 |none=>none
def zfJ(M:Mem)(id g:Nat):Bool:=match look M id g with
 |some b=>b.box
 |none=>false
def zhT(M:Mem)(n:Nat)(p:Cl)(v:WV):Option (AV×Mem×FP) :=
 match p with
 |.ptr id g i k =>
  if v.cells.length=n then
   if zfJ M id g then
    (storeAt M id g i k v.cells).map fun M'=>(.u,M',.wr [(id,k,n)])
   else match yK M v.cells with
    |some cs=>if cs.all zcl then
      (storeAt (zbg M v.sls) id g i k cs).map fun M'=>(.u,M',.wr ((id,k,n)::v.sls.map fun x=>(x,0,whole)))
     else none
    |none=>none
  else none
 |_=>none
def zdZ(M:Mem)(agg:Bool)(n:Nat)(p:Cl):Option (AV×Mem×FP) :=
 match p with
 |.ptr id g i k=>match look M id g with
  |some b=>match b.rows[i]? with
   |some row=>match cut row k n with
    |some cs=>(zaI agg cs).map fun v=>(.w v,M,.ld id k n)
    |none=>none
   |none=>none
  |none=>none
 |.uR row k=>match cut row k n with
  |some cs=>(zaI agg cs).map fun v=>(.w v,M,.no)
  |none=>none
 |_=>none
def zgI(M:Mem)(zero:List Cl)(x:Cl):Option (AV×Mem×FP) :=
 match x with
 |.jd=>some (.t [],M,.no)
 |.slice id g _ off len _ =>
  if len=0 then some (.t [],M,.no) else
  match look M id g with
  |some b =>
   if !b.box && !b.fz&&off+len<=b.rows.length&&zero.length=b.esz&&zero.all zcl then
    some (.t [],M.set id (some { b with rows:=b.rows.take off++List.replicate len zero++b.rows.drop (off+len),ver:=b.ver+1 }),.wr [(id,0,whole)])
   else none
  |none=>none
 |_=>none
def zhN(x:Option Cl)(M:Mem):Option (AV×Mem×FP):=x.map fun v=>(.w (.c v),M,.no)
def zg(M:Mem)(id:Nat)(b:Blk):Option Mem :=
 match M[id]? with
 |some none=>some (M.set id (some b))
 |_=>none
def okW(g:Bool):WV->Bool
 |.a _=>g
 |.c _=>!g
def zi2(M:Mem)(id:Nat):ML->List WV->Option (AV×Mem×FP)
 |.CZ,xs=>if xs.all (okW false)=true/\0<xs.length then
   (zg M id { box:=true,esz:=1,rows:=xs.map WV.cells,gen:=xs.length,fz:=false,ver:=xs.length }).map fun M'=>(.w (.c (.slice id xs.length 1 0 xs.length none)),M',.no)
  else none
def opF(cf:za4)(n0:Nat)(E:Nat->Option AV)(M:Mem):CO->Option (AV×Mem×FP)
 |.mv x=>match x.av E with
  |some v=>some (v,M,.no)
  |none=>none
 |.pick c a b=>match c.ev E with
  |some (.c (.bool t))=>match (if t then a else b).ev E with
   |some v=>some (.w v,M,.no)
   |none=>none
  |_=>none
 |.ko q esz=>(zg M (n0+q) { box:=false,esz,rows:=[],gen:=0,fz:=false,ver:=0 }).map fun M'=>(.w (.c (.slice (n0+q) 0 esz 0 0 none)),M',.no)
 |.box q n x=>match x.ev E with
  |some v=>if v.cells.length=n&&0<n then
    (zg M (n0+q) { box:=true,esz:=n,rows:=[v.cells],gen:=0,fz:=false,ver:=0 }).map fun M'=>(.w (.c (.ptr (n0+q) 0 0 0)),M',.no)
   else none
  |none=>none
 |.build zero parts=>(zdv E zero parts).map fun cs=>(.w (.a cs),M,.no)
 |.lit q esz zero parts=>match zdS E M esz zero parts with
  |some rows=>if 0<esz then
    (zg (zbg M (zcf E parts)) (n0+q) { box:=false,esz,rows,gen:=rows.length,fz:=false,ver:=rows.length }).map fun M' =>
     (.w (.c (.slice (n0+q) rows.length esz 0 rows.length none)),M',if(zcf E parts).isEmpty then .no else .bad)
   else none
  |none=>none
 |.load agg n p=>match p.ev E with
  |some (.c x)=>zdZ M agg n x
  |_=>none
 |.store n p v=>match p.ev E,v.ev E with
  |some (.c x),some v=>zhT M n x v
  |_,_=>none
 |.kC x=>match x.ev E with
  |some (.c (.ptr id g i k))=>some (.w (.c (.ptr id g i k)),M,.no)
  |some (.c (.uR r k))=>some (.w (.c (.uR r k)),M,.no)
  |some (.c (.fn f fi ca))=>some (.w (.c (.fn f fi ca)),M,.no)
  |_=>none
 |.bin op x y=>match x.ev E,y.ev E with
  |some (.c a),some (.c b)=>zhN (zBR op a b) M
  |_,_=>none
 |.eqb neg x y=>match x.ev E,y.ev E with
  |some (.c a),some (.c b)=>zhN (zBL neg a b) M
  |_,_=>none
 |.BI neg x=>match x.ev E with
  |some (.c a)=>zhN (zBB neg a) M
  |_=>none
 |.bad=>none
 |.eqa neg sh x y=>match x.ev E,y.ev E with
  |some (.a as),some (.a bs)=>if as.length=sh.length/\bs.length=sh.length then zhN ((zbM sh as bs).map fun r=>.bool (if neg then !r else r)) M else none
  |_,_=>none
 |.un op x=>match x.ev E with
  |some (.c a)=>zhN (unC op a) M
  |_=>none
 |.conv k x=>match x.ev E with
  |some (.c (.int _ n))=>some (.w (.c (.int k (k.wrap n))),M,.no)
  |_=>none
 |.yc f fi ca=>match evs E fi,evs E ca with
  |some a,some b =>
   if a.all (fun |.c _=>true |.a _=>false)&&b.all (fun |.c _=>true |.a _=>false) then
    some (.w (.c (.fn f (a.flatMap WV.cells) (b.flatMap WV.cells))),M,.no)
   else none
  |_,_=>none
 |.Ae q esz bytes zero l c=>match l.ev E,c.ev E with
  |some (.c (.int _ l)),some (.c (.int _ c)) =>
   if 0<=l/\l=c/\roomy l.toNat bytes=true/\zero.length=esz/\0<esz/\zero.all zcl=true then
    (zg M (n0+q) { box:=false,esz,rows:=List.replicate l.toNat zero,gen:=l.toNat,fz:=false,ver:=l.toNat }).map fun M' =>
     (.w (.c (.slice (n0+q) l.toNat esz 0 l.toNat none)),M',.no)
   else none
  |_,_=>none
 |.slice es x lo hi mx=>match x.ev E with
  |some (.c c)=>zhN (znj E es c lo hi mx) M
  |_=>none
 |.Bw off p=>match p.ev E with
  |some (.c c)=>zhN (zt9 off c) M
  |_=>none
 |.field agg off n x=>match x.ev E with
  |some (.a cs)=>match cut cs off n with
   |some cs'=>(zaI agg cs').map fun v=>(.w v,M,.no)
   |none=>none
  |_=>none
 |.A4 esz x i=>match x.ev E,i.ev E with
  |some (.c a),some (.c b)=>zhN (zt5 esz a b) M
  |_,_=>none
 |.Ab len esz x i=>match x.ev E,i.ev E with
  |some (.c a),some (.c b)=>zhN (zus len esz a b) M
  |_,_=>none
 |.aidx agg len esz x i=>match x.ev E,i.ev E with
  |some (.a cs),some (.c (.int _ n))=>match zmk n len with
   |some j=>match cut cs (j*esz) esz with
    |some cs'=>(zaI agg cs').map fun v=>(.w v,M,.no)
    |none=>none
   |none=>none
  |_,_=>none
 |.extract t i=>match E t with
  |some (.t xs)=>match xs[i]? with
   |some v=>some (.w v,M,.no)
   |none=>none
  |_=>none
 |.len x=>match x.ev E with
  |some (.c (.slice _ _ _ _ len _))=>some (.w (.c (.int .i64 len)),M,.no)
  |some (.c (.jc rows))=>some (.w (.c (.int .i64 rows.length)),M,.no)
  |some (.c .jd)=>some (.w (.c (.int .i64 0)),M,.no)
  |_=>none
 |.slen x=>match x.ev E with
  |some (.c (.str s))=>some (.w (.c (.int .i64 s.size)),M,.no)
  |_=>none
 |.j8 mx xs=>match evs E xs with
  |some (.c (.int k a)::r)=>zhN (zoU mx a k r) M
  |_=>none
 |.append esz bytes s x=>match s.ev E,x.ev E with
  |some (.c a),some (.c b)=>zcB M esz bytes a b
  |_,_=>none
 |.clear zero x=>match x.ev E with
  |some (.c a)=>zgI M zero a
  |_=>none
 |.call m f args=>match f.ev E,evs E args with
  |some fv,some as=>zx cf m fv as M
  |_,_=>none
 |.p1 k x=>match x.ev E with
  |some v=>match p1F k v with
   |some r=>some (r,M,.no)
   |none=>none
  |none=>none
 |.p2 k x y=>match x.ev E,y.ev E with
  |some v,some u=>match p2F k v u with
   |some r=>some (r,M,.no)
   |none=>none
  |_,_=>none
 |.B7 k q xs=>match evs E xs with
  |some vs=>zi2 M (n0+q) k vs
  |none=>none
def zke(E:Nat->Option AV)(g:Nat×Bool):Option Bool :=
 match E g.1 with
 |some (.w (.c (.bool b)))=>some (b==g.2)
 |some .u=>some false
 |_=>none
def zbm(cf:za4)(n0:Nat)(o:zaG)(E:Nat->Option AV)(M:Mem):Option (AV×Mem×FP) :=
 match o.guard with
 |none=>opF cf n0 E M o.op
 |some g=>match zke E g with
  |some true=>opF cf n0 E M o.op
  |some false=>some (.u,M,.no)
  |none=>none
def Env.put(E:Env)(dst:Option Nat)(v:AV):Env:=match dst with
 |some d=>(d,v)::E
 |none=>E
def zks(cf:za4)(n0:Nat):List zaG->Env->Mem->Option (Env×Mem×List FP)
 |[],E,M=>some (E,M,[])
 |o::os,E,M=>match zbm cf n0 o E.get M with
  |some (v,M',fp)=>match zks cf n0 os (E.put o.dst v) M' with
   |some (E2,M2,fs)=>some (E2,M2,fp::fs)
   |none=>none
  |none=>none
def zyi(base:Nat)(fs:List FP)(p:Nat×Nat):Bool:=match fs[p.1]?,fs[p.2]? with
 |some a,some b=>a.apart b&&b.old base
 |_,_=>false
inductive EX where
 |normal
 |exit (id:Nat)
 |ret
 deriving Inhabited,DecidableEq
def qF(n:Nat):Mem:=List.replicate n none
def Env.kept(E:Env):Option (List Nat)->Env
 |none=>E
 |some l=>E.vw l
def jN(n:Nat)(E:Env)(M:Mem):Mem :=
 if M.length<=n then M else
 if E.all (fun x=>x.2.below n)&&zH n (M.take n) then M.take n else M
def canon(n:Nat)(live:Option (List Nat))(E:Env)(M:Mem):Env×Mem :=
 match live with
 |none=>(E,M)
 |some l=>let E':=E.vw l;(E',jN n E' M)
def iter(body:Env->Mem->Option (EX×Env×Mem))(live:Option (List Nat))(n0:Nat):Nat->Env->Mem->Option (EX×Env×Mem)
 |0,_,_=>none
 |n+1,E,M=>match body E M with
  |some (.normal,E',M')=>let s:=canon n0 live E' M';iter body live n0 n s.1 s.2
  |r=>r
def zeN(E:Env):List Nat->List (Nat×Bool×Nat)×List Cl
 |[]=>([],[])
 |n::ns=>match E.get n with
  |some (.w (.c x))=>((n,false,1)::(zeN E ns).1,x::(zeN E ns).2)
  |some (.w (.a cs))=>((n,true,cs.length)::(zeN E ns).1,cs++(zeN E ns).2)
  |_=>zeN E ns
def Av:List (Nat×Bool×Nat)->List Cl->Option Env
 |[],_=>some []
 |(n,g,k)::sh,cs=>match zaI g (cs.take k),Av sh (cs.drop k)with
  |some v,some E=>some ((n,.w v)::E)
  |_,_=>none
def znr(s:Int):Option EX:=if s=0 then some .normal else if s=2 then some .ret else if 3<=s then some (.exit (s-3).toNat) else none
def zxZ:EX->Int
 |.normal=>0
 |.ret=>2
 |.exit id=>3+id
def ghost(cells:List Cl):Blk:={ box:=true,esz:=1+cells.length,rows:=[.int .i64 0::cells],gen:=0,fz:=false,ver:=0 }
def zsR(M:Mem)(id:Nat)(s s':Int):Option Mem:=match look M id 0 with
 |some b=>match b.rows with
  |[.int .i64 t::cells]=>if t=s then some (M.set id (some { b with rows:=[.int .i64 s'::cells],ver:=b.ver+1 })) else none
  |_=>none
 |none=>none
def jU(M:Mem)(id:Nat):Option Int:=match look M id 0 with
 |some b=>match b.rows with
  |[.int .i64 t::_]=>some t
  |_=>none
 |none=>none
def zxb(M:Mem)(id:Nat):Option (List Cl):=match look M id 0 with
 |some b=>match b.rows with
  |[.int .i64 _::cells]=>some cells
  |_=>none
 |none=>none
def zaV(cf:za4)(n:Nat):CC->Env->Mem->Option (EX×Env×Mem)
 |.skip,E,M=>some (.normal,E,M)
 |.region nA ops prs vw,E,M=>match zks cf M.length ops E (M++qF nA)with
  |some (E',M',fs)=>if prs.all (zyi (M.length+nA) fs) then some (.normal,E'.kept vw,M') else none
  |none=>none
 |.seq a b,E,M=>match zaV cf n a E M with
  |some (.normal,E',M')=>zaV cf n b E' M'
  |r=>r
 |.cond c a b,E,M=>match c.ev E.get with
  |some (.c (.bool t))=>if t then zaV cf n a E M else zaV cf n b E M
  |_=>none
 |.block id b,E,M=>match zaV cf n b E M with
  |some (.exit id',E',M')=>if id'=id then some (.normal,E',M') else some (.exit id',E',M')
  |r=>r
 |.loop live b,E,M=>let s:=canon M.length live E M;iter (zaV cf n b) live M.length n s.1 s.2
 |.exit id,E,M=>some (.exit id,E,M)
 |.ret,E,M=>some (.ret,E,M)
 |.rng f vf caps,E,M=>match f.ev E.get with
  |some (.c (.fn g fi ca))=>match zx cf ⟨true⟩ (.c (.fn g fi ca)) [.c (.yld M.length vf (zeN E caps).1)] (M++[some (ghost (zeN E caps).2)])with
   |some (_,M',_)=>match jU M' M.length with
    |some s=>match znr s,zsR M' M.length s (-1)with
     |some ex,some M2=>some (ex,E,M2)
     |_,_=>none
    |none=>none
   |none=>none
  |_=>none
def zoD(E:Env)(M:Mem):RC->Option WV
 |.slot n=>match E.get n with
  |some (.w v)=>some v
  |_=>none
 |.cell n agg size=>match E.get n with
  |some (.w (.c p))=>match zdZ M agg size p with
   |some (.w v,_,_)=>some v
   |_=>none
  |_=>none
def zlQ(E:Env)(M:Mem):List RC->Option (List WV)
 |[]=>some []
 |r::rs=>match zoD E M r,zlQ E M rs with
  |some v,some vs=>some (v::vs)
  |_,_=>none
def zpk(E:Env)(M:Mem)(l:List RC):Option AV :=
 match zlQ E M l with
 |some [v]=>some (.w v)
 |some vs=>some (.t vs)
 |none=>none
def vC:Nat->List WV->Env
 |_,[]=>[]
 |i,v::vs=>(i,.w v)::vC (i+1) vs
def leave(frz:Bool)(k:Nat)(r:AV)(M:Mem):Option (AV×Mem) :=
 if frz then match zoS M r with
  |some r'=>finish k r' (zbg M r.sls)
  |none=>none
 else finish k r M
def zv3:List Nat->List WV->Env
 |p::ps,v::vs=>(p,.w v)::zv3 ps vs
 |_,_=>[]
def zoC(cf:za4)(n:Nat)(f:FuncId)(ps:List Nat)(pre code:CC)(args:List WV)(M:Mem):Option (AV×Mem) :=
 match args with
 |.c (.yld id g sh)::as =>
  if g=f/\as.length=ps.length/\jU M id=some 0 then
   match zxb M id with
   |some cells=>match Av sh cells with
    |some E0=>match zaV cf n pre (zv3 ps as++E0) M with
     |some (.normal,E1,M1)=>match zsR M1 id 0 1 with
      |some M2=>match zaV cf n code E1 M2 with
       |some (ex,_,M3)=>match zsR M3 id 1 (zxZ ex)with
        |some M4=>finish M.length (.w (.c (.bool (ex==.normal)))) M4
        |none=>none
       |none=>none
      |none=>none
     |_=>none
    |none=>none
   |none=>none
  else none
 |_=>none
def zfk(T:FuncId->Option CFn)(X:za4):Nat->za4
 |0,_,_,_=>none
 |n+1,f,args,M=>match T f with
  |none=>X f args M
  |some fn =>
   match fn.rnd with
   |some (ps,pre)=>zoC (zfk T X n) n f ps pre fn.code args M
   |none =>
   if args.length=fn.nargs then
    match zaV (zfk T X n) n fn.code (vC 0 args) M with
    |some (.normal,E,M') |some (.ret,E,M')=>match zpk E M' fn.res with
     |some r=>leave fn.frz M.length r M'
     |none=>none
    |_=>none
   else none
open Go
def zAA:Value->Option Cl
 |.bool b=>some (.bool b)
 |.int k n=>some (.int k n)
 |.string s=>some (.str s)
 |.pointer none=>some .qS
 |.slice none 0 0=>some .jd
 |.nilFunc=>some .vl
 |.nilIface=>some .qy
 |_=>none
def zpz:List Value->Option (List Cl)
 |[]=>some []
 |v::vs=>match zAA v,zpz vs with
  |some c,some cs=>some (c::cs)
  |_,_=>none
def zzh:Value->Option WV
 |.agg cs=>(zpz cs.toList).map .a
 |v=>(zAA v).map .c
class GlobP where
 row:Nat->Option (List Cl)
variable[GlobP]
def za5:Operand->Option Opd
 |.tmp t=>some (.s t)
 |.const v=>(zzh v).map .k
 |.global g=>(GlobP.row g).map fun r=>.k (.c (.uR r 0))
 |.func f=>some (.k (.c (.fn f [] [])))
def zdB:List Operand->Option (List Opd)
 |[]=>some []
 |v::vs=>match za5 v,zdB vs with
  |some c,some cs=>some (c::cs)
  |_,_=>none
def zeh:Option Operand->Option (Option Opd)
 |none=>some none
 |some x=>(za5 x).map some
def zeU(P:Program)(t:TypeId):Option Bool :=
 match P.underlying t with
 |some (.struct _) |some (.array _ _)=>some true
 |some _=>some false
 |none=>none
def zbL(P:Program)(t:TypeId):Option Nat:=(P.info? t).map (·.size)
def zmi(P:Program)(t:TypeId):Option Nat:=(P.info? t).map (·.bytes)
def zhL(P:Program)(t:TypeId):Option (List Cl) :=
 match P.info? t with
 |some i=>match i.zero with
  |some z=>zpz z.cells.toList
  |none=>none
 |none=>none
def znJ(P:Program)(t:TypeId):Option WV :=
 match P.info? t with
 |some i=>match i.zero with
  |some z=>zzh z
  |none=>none
 |none=>none
def zmD(P:Program):List Field->Option (List (Nat×Nat))
 |[]=>some []
 |f::fs=>match zbL P f.type,zmD P fs with
  |some n,some l=>some ((f.offset,n)::l)
  |_,_=>none
def ziZ(place:Nat->Option (Nat×Nat)):List (Nat×Operand)->Option (List (Nat×Nat×Opd))
 |[]=>some []
 |(i,o)::r=>match place i,za5 o,ziZ place r with
  |some p,some x,some l=>some ((p.1,p.2,x)::l)
  |_,_,_=>none
def zgZ:List (Nat×Operand)->Option (List (Nat×Opd))
 |[]=>some []
 |(i,o)::r=>match za5 o,zgZ r with
  |some x,some l=>some ((i,x)::l)
  |_,_=>none
def zrc(flat:TypeId->Option (List Bool)):List Field->Nat->Option (List Bool)
 |[],_=>some []
 |f::fs,off=>match flat f.type with
  |some sh=>if f.name !="_" && f.offset=off then(zrc flat fs (off+sh.length)).map (sh ++ ·) else none
  |none=>none
def zvm(P:Program):Nat->TypeId->Option (List Bool)
 |0,_=>none
 |d+1,t=>match P.underlying t with
  |some (.int _)=>some [false]
  |some .bool=>some [true]
  |some (.struct fs)=>if P.stoodInHeld t then none else
   match zrc (zvm P d) fs.toList 0 with
   |some sh=>if zbL P t=some sh.length/\0<sh.length then some sh else none
   |none=>none
  |_=>none
def zq1:Operand->Bool
 |.const (.pointer none)=>true
 |_=>false
def zmI:Operand->Bool
 |.const (.slice none 0 0)=>true
 |_=>false
def zpP(P:Program)(t:TypeId):Option Bool:=match P.underlying t with
 |some (.map kt e)=>match P.underlying kt with
  |some (.int _)=>zeU P e
  |_=>none
 |_=>none
def zq3(P:Program)(t:TypeId):Bool:=match P.underlying t with
 |some (.slice e)=>(match P.underlying e with
  |some (.int .u8)=>true
  |_=>false)
 |_=>false
def zAk(P:Program)(t:TypeId):Bool:=match P.underlying t with
 |some (.func ..)=>true
 |some (.pointer _)=>true
 |_=>false
def zA(P:Program)(q:Nat)(m:zbz)(o:Oper):Option CO :=
 match o.op with
 |.move x |.assign x=>if zmI x then match P.underlying o.type with
   |some (.slice e)=>(zbL P e).map (.ko q)
   |_=>(za5 x).map .mv
  else(za5 x).map .mv
 |.pick c a b=>match za5 c,za5 a,za5 b with
  |some c,some a,some b=>some (.pick c a b)
  |_,_,_=>none
 |.alloc t=>match zhL P t with
  |some zs=>some (.box q zs.length (.k (.a zs)))
  |none=>none
 |.box t x=>match za5 x,zbL P t with
  |some x,some n=>some (.box q n x)
  |_,_=>none
 |.build t parts=>match P.underlying t,zhL P t with
  |some (.struct fs),some z=>match zmD P fs.toList with
   |some ps=>(ziZ (ps[·]?) parts.toList).map (.build z)
   |none=>none
  |some (.array _ e),some z=>match zbL P e with
   |some n=>(ziZ (fun i=>some (i*n,n)) parts.toList).map (.build z)
   |none=>none
  |_,_=>none
 |.buildSlice t len parts=>match P.underlying t with
  |some (.slice e)=>if zAk P e=true then(if parts.toList.map (·.1)=List.range len/\zbL P e=some 1/\len<=1000/\(zhL P e).isSome=true then(zdB (parts.toList.map (·.2))).map (.B7 .CZ q) else none) else
   match zbL P e,zhL P e,zgZ parts.toList with
   |some n,some z,some ps=>if len*n<=16777216/\z.length=n/\z.all zcl then some (.lit q n (List.replicate len z) ps) else none
   |_,_,_=>none
  |_=>none
 |.load t a=>match za5 a,zeU P t,zbL P t with
  |some a,some g,some n=>some (.load g (if g then n else 1) a)
  |_,_,_=>none
 |.store t a v=>match za5 a,za5 v,zbL P t with
  |some a,some v,some n=>some (.store n a v)
  |_,_,_=>none
 |.nilCheck x=>(za5 x).map .kC
 |.binOp op t x y _=>match za5 x,za5 y with
  |some x',some y'=>match P.underlying t with
   |some (.int _)=>some (.bin op x' y')
   |some .bool=>(match op with
    |.eql=>some (.eqb false x' y')
    |.neq=>some (.eqb true x' y')
    |_=>none)
   |some .string=>some (.p2 (.str op) x' y')
   |some (.pointer _)=>if zq1 y then(match op with
    |.eql=>some (.BI false x')
    |.neq=>some (.BI true x')
    |_=>none) else none
   |some (.struct _)=>match zvm P 10000 t with
    |some sh=>if P.eqGuardType P.depth t then none else(match op with
     |.eql=>some (.eqa false sh x' y')
     |.neq=>some (.eqa true sh x' y')
     |_=>none)
    |none=>none
   |_=>none
  |_,_=>none
 |.unOp op _ x=>(za5 x).map (.un op)
 |.makeInterface t x=>match P.underlying t,za5 x with
  |some (.interface _),_=>none
  |some _,some x=>some (.p1 (.CX t) x)
  |_,_=>none
 |.typeAssert x _ t ok=>match P.underlying t,znJ P t,za5 x with
  |some (.interface _),_,_=>none
  |some _,some z,some x=>some (.p1 (.Cp ok t z) x)
  |_,_,_=>none
 |.convert s d x=>match P.underlying s,P.underlying d,za5 x with
  |some (.int _),some (.int k),some x=>some (.conv k x)
  |_,_,_=>none
 |.makeFunc (.func f) fi ca=>match zdB fi.toList,zdB ca.toList with
  |some a,some b=>some (.yc f a b)
  |_,_=>none
 |.makeSlice t l c=>match P.underlying t with
  |some (.slice e)=>match zbL P e,zmi P e,zhL P e,za5 l,za5 c with
   |some n,some b,some z,some l,some c=>if 0<b then some (.Ae q n b z l c) else none
   |_,_,_,_,_=>none
  |_=>none
 |.slice t x lo hi mx=>match P.underlying t with
  |some (.slice e)=>match zbL P e,za5 x,zeh lo,zeh hi,zeh mx with
   |some n,some x,some lo,some hi,some mx=>some (.slice n x lo hi mx)
   |_,_,_,_,_=>none
  |_=>none
 |.fieldAddr t x f=>match P.underlying t,za5 x with
  |some (.struct fs),some x=>match fs[f]? with
   |some fd=>match zbL P fd.type with
    |some n=>if n=0 then none else some (.Bw fd.offset x)
    |none=>none
   |none=>none
  |_,_=>none
 |.field t x f=>match P.underlying t,za5 x with
  |some (.struct fs),some x=>match fs[f]? with
   |some fd=>match zbL P fd.type,zeU P fd.type with
    |some n,some g=>some (.field g fd.offset (if g then n else 1) x)
    |_,_=>none
   |none=>none
  |_,_=>none
 |.indexAddr t x i=>match P.underlying t,za5 x,za5 i with
  |some (.slice e),some x,some i=>match zbL P e with
   |some n=>some (.A4 n x i)
   |none=>none
  |some (.array len e),some x,some i=>match zbL P e with
   |some n=>some (.Ab len n x i)
   |none=>none
  |_,_,_=>none
 |.index t x i=>match P.underlying t,za5 x,za5 i with
  |some (.array len e),some x,some i=>match zbL P e,zeU P e with
   |some n,some g=>if g||n=1 then some (.aidx g len n x i) else none
   |_,_=>none
  |some .string,some x,some i=>some (.p2 .sidx x i)
  |_,_,_=>none
 |.extract t i=>match t with
  |.tmp t=>some (.extract t i)
  |_=>none
 |.call c=>match c.callee with
  |.value f=>match za5 f,zdB c.args.toList with
   |some f,some as=>some (.call m f as)
   |_,_=>none
  |.builtin .len=>match c.argTypes.toList,c.args.toList with
   |[t],[x]=>match P.underlying t,za5 x with
    |some (.slice _),some x=>some (.len x)
    |some .string,some x=>some (.slen x)
    |_,_=>none
   |_,_=>none
  |.builtin .max=>(zdB c.args.toList).map (.j8 true)
  |.builtin .min=>(zdB c.args.toList).map (.j8 false)
  |.builtin .append=>match c.argTypes.toList,c.args.toList with
   |[t,u],[s,x]=>match P.underlying t,P.underlying u with
    |some (.slice e),some (.slice _)=>match zbL P e,zmi P e,zhL P e,za5 s,za5 x with
     |some n,some b,some z,some s,some x=>if 0<b/\z.length=n then some (.append n b s x) else none
     |_,_,_,_,_=>none
    |_,_=>none
   |_,_=>none
  |.builtin .clear=>match c.argTypes.toList,c.args.toList with
   |[t],[x]=>match P.underlying t with
    |some (.slice e)=>match zhL P e,za5 x with
     |some z,some x=>some (.clear z x)
     |_,_=>none
    |_=>none
   |_,_=>none
  |_=>none
 |_=>none
inductive Cls where
 |pure |alloc |load |yR
 deriving DecidableEq,Inhabited
def CO.cls:CO->Cls
 |.box .. |.lit .. |.Ae .. |.ko .. |.B7 ..=>.alloc
 |.load ..=>.load
 |.store .. |.append .. |.clear .. |.call .. |.bad=>.yR
 |_=>.pure
def Opd.slots:Opd->List Nat
 |.s n=>[n]
 |.k _=>[]
def CO.slots:CO->List Nat
 |.bad |.ko _ _=>[]
 |.mv x |.box _ _ x |.load _ _ x |.BI _ x |.kC x |.un _ x |.conv _ x |.Bw _ x |.field _ _ _ x |.len x |.slen x |.clear _ x=>x.slots
 |.pick c a b=>c.slots++a.slots++b.slots
 |.build _ ps=>ps.flatMap fun p=>p.2.2.slots
 |.lit _ _ _ ps=>ps.flatMap fun p=>p.2.slots
 |.store _ a b |.bin _ a b |.eqb _ a b |.eqa _ _ a b |.Ae _ _ _ _ a b |.A4 _ a b |.Ab _ _ a b |.aidx _ _ _ a b |.append _ _ a b=>a.slots++b.slots
 |.yc _ a b=>a.flatMap Opd.slots++b.flatMap Opd.slots
 |.slice _ x l h m=>x.slots++(l.toList++h.toList++m.toList).flatMap Opd.slots
 |.extract t _=>[t]
 |.j8 _ xs=>xs.flatMap Opd.slots
 |.call _ f as=>f.slots++as.flatMap Opd.slots
 |.p1 _ x=>x.slots
 |.p2 _ x y=>x.slots++y.slots
 |.B7 _ _ xs=>xs.flatMap Opd.slots
def zaG.slots(o:zaG):List Nat:=(match o.guard with |some g=>[g.1] |none=>[])++o.op.slots
def zaG.cls(o:zaG):Cls:=o.op.cls
def zyP:Op->Bool
 |.alloc _ |.box .. |.buildSlice .. |.makeSlice .. |.makeMap .. |.range ..=>true
 |.move x |.assign x=>zmI x
 |_=>false
def zgO(ops:List Oper)(i:Nat):Nat:=((ops.take i).filter fun o=>zyP o.op).length
def zqf(ops:List Oper):Option (Nat×Bool)->Option (Option (Nat×Bool))
 |none=>some none
 |some (j,b)=>match ops[j]? with
  |some o=>o.dst.map fun d=>some (d,b)
  |none=>none
def zdT(P:Program)(ops:List Oper)(m:Oper->zbz)(ntmps i:Nat):Option zaG :=
 match ops[i]? with
 |some o=>match some ((zA P (zgO ops i) (m o) o).getD .bad),zqf ops o.guard with
  |some c,some g=>match o.dst with
   |some d=>if d<ntmps then some { ix:=i,dst:=some d,guard:=g,op:=c } else none
   |none=>some { ix:=i,dst:=none,guard:=g,op:=c }
  |_,_=>none
 |none=>none
def zcL(P:Program)(ops:List Oper)(m:Oper->zbz)(ntmps:Nat):List Nat->Option (List zaG)
 |[]=>some []
 |i::is=>match zdT P ops m ntmps i,zcL P ops m ntmps is with
  |some c,some cs=>some (c::cs)
  |_,_=>none
def zkJ(o:Oper):List Nat:=(o.after.toList.filter (Region.binds .any)).map (·.on)
def vI:List Oper->List Nat->List Nat
 |[],acc=>acc
 |o::os,acc=>vI os (acc++[(zkJ o).foldl (fun s j=>s ||| 2 ^ j ||| acc.getD j 0) 0])
def znW(a b:zaG):Bool :=
 (match a.dst with |some d=>!(b.slots).contains d&&b.dst !=some d |none=>true) &&
 (match b.dst with |some d=>!(a.slots).contains d |none=>true) &&
 match a.cls,b.cls with
 |.pure,_ |_,.pure=>true
 |.load,.load=>true
 |.load,.alloc |.yR,.alloc |.alloc,.alloc=>true
 |.load,.yR |.yR,.load=>true
 |.alloc,.load |.alloc,.yR=>false
 |.yR,.yR=>false
def zqg(bef:List Nat):List zaG->Bool
 |[]=>true
 |a::r=>r.all (fun b=>(bef.getD b.ix 0).testBit a.ix||znW a b)&&zqg bef r
def znU(bef:List Nat)(a:zaG)(i:Nat):Nat->List zaG->List (Nat×Nat)
 |_,[]=>[]
 |j,b::r =>
  let rest:=znU bef a i (j+1) r
  if(bef.getD b.ix 0).testBit a.ix then rest
  else match a.cls,b.cls with
   |.pure,_ |_,.pure |.load,.load=>rest
   |_,_=>(i,j)::rest
def zxr(bef:List Nat):Nat->List zaG->List (Nat×Nat)
 |_,[]=>[]
 |i,a::r=>znU bef a i (i+1) r++zxr bef (i+1) r
def ztq(ops:List Oper):List Nat->List Nat->Bool
 |[],_=>true
 |i::is,done=>(match ops[i]? with |some o=>(zkJ o).all (done.contains ·) |none=>false)&&ztq ops is (i::done)
def zCA:Op->Nat
 |.alloc _ |.box .. |.buildSlice .. |.makeSlice .. |.makeMap .. |.range ..=>3
 |.move x |.assign x=>if zmI x then 3 else 0
 |.load ..=>1
 |.store .. |.call _ |.mapUpdate .. |.insert ..=>2
 |.lookup ..=>1
 |_=>0
def schedule(ops:List Oper):Nat->List Nat->List Nat
 |0,done=>done.reverse
 |n+1,done =>
  let ready:=(List.range ops.length).filter fun i=>!done.contains i&&(match ops[i]? with |some o=>(zkJ o).all (done.contains ·) |none=>false)
  let ux:=fun r=>ready.find? fun i=>match ops[i]? with |some o=>zCA o.op==r |none=>false
  match ux 0<|>ux 1<|>ux 2<|>ux 3 with
  |some i=>schedule ops n (i::done)
  |none=>done.reverse
structure Ann where
 mode:Oper->zbz
 frz:FuncId->Bool
def zeP(P:Program)(an:Ann)(ntmps id:Nat)(ops:List Oper)(draw:Bool):Option (Nat×List zaG×List (Nat×Nat)) :=
 let nA:=zgO ops ops.length
 if draw then
  let ord:=schedule ops ops.length [];let bef:=vI ops []
  match zcL P ops an.mode ntmps ord with
  |some cs =>
   if ord.length=ops.length&&zku ord&&ztq ops ord []&&zqg bef cs then some (nA,cs,zxr bef 0 cs) else none
  |none=>none
 else match zcL P ops an.mode ntmps (List.range ops.length)with
  |some cs=>some (nA,cs,[])
  |none=>none
def zDm(l:List Nat)(x:Nat):List Nat:=if l.contains x then l else x::l
def union(a b:List Nat):List Nat:=b.foldl zDm a
def zCf:List zaG->List Nat->List Nat
 |[],l=>l
 |o::os,l =>
  let l':=zCf os l
  union (match o.dst with |some d=>l'.filter (· !=d) |none=>l') o.slots
def lvC:CC->List Nat->List (Nat×List Nat)->List Nat->List Nat
 |.skip,l,_,_=>l
 |.region _ ops _ _,l,_,_=>zCf ops l
 |.seq a b,l,ex,rt=>lvC a (lvC b l ex rt) ex rt
 |.cond c a b,l,ex,rt=>union (union (lvC a l ex rt) (lvC b l ex rt)) c.slots
 |.block id b,l,ex,rt=>lvC b l ((id,l)::ex) rt
 |.loop _ b,_,ex,rt =>
  let l1:=lvC b [] ex rt;let l2:=lvC b l1 ex rt
  lvC b l2 ex rt
 |.exit id,_,ex,_=>(ex.lookup id).getD []
 |.ret,_,_,rt=>rt
 |.rng f _ caps,l,ex,rt=>union (union (union l caps) f.slots) (union rt (ex.flatMap (·.2)))
def annot:CC->List Nat->List (Nat×List Nat)->List Nat->CC
 |.skip,_,_,_=>.skip
 |.region nA ops prs _,l,_,_=>.region nA ops prs (some l)
 |.seq a b,l,ex,rt=>.seq (annot a (lvC b l ex rt) ex rt) (annot b l ex rt)
 |.cond c a b,l,ex,rt=>.cond c (annot a l ex rt) (annot b l ex rt)
 |.block id b,l,ex,rt=>.block id (annot b l ((id,l)::ex) rt)
 |.loop _ b,l,ex,rt =>
  let l3:=lvC (.loop none b) l ex rt
  .loop (some l3) (annot b l3 ex rt)
 |.exit id,_,_,_=>.exit id
 |.ret,_,_,_=>.ret
 |.rng f v caps,_,_,_=>.rng f v caps
def zeV:Code->Nat
 |.seq a b |.cond _ a b=>zeV a+zeV b
 |.block _ b |.loop b |.scope b=>zeV b
 |.rangeFunc ..=>1
 |_=>0
def rfs:Code->List (Array Tmp×Code×Code)
 |.seq a b |.cond _ a b=>rfs a++rfs b
 |.block _ b |.loop b |.scope b=>rfs b
 |.rangeFunc _ ps a b=>[(ps,a,b)]
 |_=>[]
def zbj(P:Program)(an:Ann)(ntmps:Nat):Option FuncId->Code->Option CC
 |_,.skip=>some .skip
 |_,.region id ops draw=>match zeP P an ntmps id ops.toList draw with
  |some (nA,cs,prs)=>some (.region nA cs prs none)
  |none=>none
 |vf,.seq a b=>match zbj P an ntmps vf a,zbj P an ntmps (vf.map (· + zeV a)) b with
  |some a,some b=>some (.seq a b)
  |_,_=>none
 |vf,.cond c a b=>match za5 c,zbj P an ntmps vf a,zbj P an ntmps (vf.map (· + zeV a)) b with
  |some c,some a,some b=>some (.cond c a b)
  |_,_,_=>none
 |vf,.block id b=>(zbj P an ntmps vf b).map (.block id)
 |vf,.loop b=>(zbj P an ntmps vf b).map (.loop none)
 |vf,.scope b=>(zbj P an ntmps vf b).map fun b'=>.seq b' .skip
 |_,.exit id=>some (.exit id)
 |_,.ret=>some .ret
 |_,.label _=>some .skip
 |vf,.rangeFunc g ps a b=>match vf,za5 g,zbj P an ntmps none a,zbj P an ntmps none b with
  |some v,some f,some a',some b'=>some (.rng f v ((lvC (.seq a' b') [] [] []).filter (!ps.contains ·)))
  |_,_,_,_=>none
 |_,_=>none
def zBn(P:Program):ResultVar->Option RC
 |.tmp t=>some (.slot t)
 |.cell a t=>match zeU P t,zbL P t with
  |some g,some n=>some (.cell a g (if g then n else 1))
  |_,_=>none
def znS(P:Program):List ResultVar->Option (List RC)
 |[]=>some []
 |r::rs=>match zBn P r,znS P rs with
  |some x,some xs=>some (x::xs)
  |_,_=>none
def RC.slots:RC->Nat
 |.slot n=>n
 |.cell n _ _=>n
def zoZ(P:Program)(an:Ann)(ann:Bool)(f:FuncId):Option CFn :=
 match P.funcs[f]? with
 |some fn=>match fn.body,znS P fn.results.toList with
  |some c,some rs =>
   if fn.name == "runtime.NumGoroutine" then none else
   match zbj P an fn.ntmps (some (P.funcs.size+16*f)) c with
   |some cc =>
    if fn.params.size+fn.nfree<=fn.ntmps/\zeV c<=16 then
     let rt:=rs.map RC.slots
     some { frz:=an.frz f,rnd:=none,nargs:=fn.params.size+fn.nfree,ntmps:=fn.ntmps,code:=if ann then annot cc rt [] rt else cc,res:=rs }
    else none
   |none=>none
  |_,_=>none
 |none=>none
def zDv(nofa nofrz:List Nat):Ann:={ mode:=fun o=>match o.op with |.call c=>(match c.callee with |.value (.func f)=>⟨!nofa.contains f⟩ |_=>⟨true⟩) |_=>⟨true⟩,frz:=fun f=>!nofrz.contains f }
def zho(P:Program)(an:Ann)(ann:Bool)(v:FuncId):Option CFn :=
 match P.funcs[(v-P.funcs.size) / 16]? with
 |some fn=>match fn.body with
  |some c=>match (rfs c)[(v-P.funcs.size) % 16]? with
   |some (ps,a,b)=>match zbj P an fn.ntmps none a,zbj P an fn.ntmps none b with
    |some a',some b' =>
     if zku ps.toList&&ps.toList.all (· < fn.ntmps) then
      some { frz:=false,rnd:=some (ps.toList,if ann then annot a' (lvC b' [] [] []) [] [] else a'),nargs:=ps.size+1,ntmps:=fn.ntmps,code:=if ann then annot b' [] [] [] else b',res:=[] }
     else none
    |_,_=>none
   |none=>none
  |none=>none
 |none=>none
def zcF(P:Program)(an:Ann)(ann:Bool)(f:FuncId):Option CFn:=if f<P.funcs.size then zoZ P an ann f else zho P an ann f
end Go.Eng
namespace Go.Eng
open Go
structure Loc where
 blk:Nat
 off:Nat
 esz:Nat
 tot:Nat
inductive Pl where
 |loc (L:Loc)
 |empty
 |rnd (l:Nat) (r:Loop) (f:FuncId) (sh:List (Nat×Bool×Nat))
def Pl.at:Pl->Option Nat
 |.loc L=>some L.blk
 |.rnd l _ _ _=>some l
 |.empty=>none
class zb0 extends GlobP where
 base:Nat
 okc:FuncId->Array Tmp->Code->Code->Nat->Prop
 le:∀f ps a b n,okc f ps a b n->base<=f
def zb0.ok [zb0](f:FuncId)(r:Loop):Prop:=zb0.okc f r.params r.assign r.body r.tmps.size
def Pl.OK [zb0]:Pl->Prop
 |.rnd _ r f _=>zb0.ok f r
 |_=>True
abbrev Inj:=Nat->Nat->Option Pl
abbrev zP:=Nat->Nat->Option Value
def zb1:Inj:=fun _ _=>none
def Inj.atk(j:Inj)(id g:Nat):Option Nat:=(j id g).bind Pl.at
theorem Inj.v8{j:Inj}{id g:Nat}{L:Loc}(h:j id g=some (.loc L)):j.atk id g=some L.blk:=by simp[Inj.atk,h,Pl.at]
theorem Inj.CT{j:Inj}{id g l:Nat}{r:Loop}{f:FuncId}{sh:List (Nat×Bool×Nat)}(h:j id g=some (.rnd l r f sh)):j.atk id g=some l:=by simp[Inj.atk,h,Pl.at]
theorem Inj.yC{j:Inj}{id g k:Nat}{pl:Pl}(h:j id g=some pl)(hk:pl.at=some k):j.atk id g=some k:=by simp[Inj.atk,h,hk]
theorem Inj.Bz{j:Inj}{id g k:Nat}(h:j.atk id g=some k):∃pl,j id g=some pl/\pl.at=some k:=by simpa [Inj.atk,Option.bind_eq_some_iff]using h
inductive VC (σ:zP):Inj->Cl->Value->Prop where
 |bool (j:Inj) (b:Bool):VC σ j (.bool b) (.bool b)
 |int (j:Inj) (k:IntKind) (n:Int):VC σ j (.int k n) (.int k n)
 |str (j:Inj) (s:ByteArray):VC σ j (.str s) (.string s)
 |ptr (j:Inj) (id g i k:Nat) (L:Loc) (h:j id g=some (.loc L)):VC σ j (.ptr id g i k) (.pointer (some ⟨L.blk,L.off+i*L.esz+k,none⟩))
 |uR (j:Inj) (row:List Cl) (k b o:Nat) (val:Nat->Value) (h1:∀(n:Nat) (c:Cl),row[n]?=some c->σ b (o+n)=some (val n))
   (h2:∀(n:Nat) (c:Cl),row[n]?=some c->VC σ zb1 c (val n)):VC σ j (.uR row k) (.pointer (some ⟨b,o+k,none⟩))
 |qS (j:Inj):VC σ j .qS (.pointer none)
 |slice (j:Inj) (id g es off len:Nat) (cap:Option Nat) (pl:Pl) (a:Option Addr) (c:Nat) (h:j id g=some pl) (hl:len<=c) (hc:∀c',cap=some c'->c=c')
   (ha:c≠0->∃L,pl=.loc L/\L.esz=es/\a=some ⟨L.blk,L.off+off*L.esz,none⟩/\L.off+(off+c)*L.esz<=L.tot):VC σ j (.slice id g es off len cap) (.slice a len c)
 |jc (j:Inj) (esz:Nat) (rows:List (List Cl)) (a:Option Addr) (c b o:Nat) (val:Nat->Nat->Value)
   (hl:rows.length<=c) (ha:rows=[]\/a=some ⟨b,o,none⟩) (hr:∀row∈rows,row.length=esz)
   (h1:∀(i:Nat) (row:List Cl) (n:Nat) (cl:Cl),rows[i]?=some row->row[n]?=some cl->σ b (o+i*esz+n)=some (val i n))
   (h2:∀(i:Nat) (row:List Cl) (n:Nat) (cl:Cl),rows[i]?=some row->row[n]?=some cl->VC σ zb1 cl (val i n)):VC σ j (.jc rows) (.slice a rows.length c)
 |jd (j:Inj):VC σ j .jd (.slice none 0 0)
 |fn (j:Inj) (f:FuncId) (fi ca:List Cl) (fi' ca':Array Value) (l1:fi.length=fi'.toList.length) (l2:ca.length=ca'.toList.length)
   (h1:∀(n:Nat) (c:Cl) (v:Value),fi[n]?=some c->fi'.toList[n]?=some v->VC σ j c v) (h2:∀(n:Nat) (c:Cl) (v:Value),ca[n]?=some c->ca'.toList[n]?=some v->VC σ j c v) :
   VC σ j (.fn f fi ca) (.func (.func f) fi' ca')
 |vl (j:Inj):VC σ j .vl .nilFunc
 |ye (j:Inj) (t:TypeId) (c:Cl) (v:Value) (h:VC σ j c v):VC σ j (.iface t false [c]) (.iface t v)
 |yd (j:Inj) (t:TypeId) (cs:List Cl) (vs:Array Value) (l:cs.length=vs.toList.length) (h:∀(n:Nat) (c:Cl) (v:Value),cs[n]?=some c->vs.toList[n]?=some v->VC σ j c v) :
   VC σ j (.iface t true cs) (.iface t (.agg vs))
 |qy (j:Inj):VC σ j .qy .nilIface
 |yld (j:Inj) (id:Nat) (f:FuncId) (sh:List (Nat×Bool×Nat)) (l:Nat) (r:Loop) (h:j id 0=some (.rnd l r f sh)):VC σ j (.yld id f sh) (.func (.yield l) #[] #[])
def zP.le(σ σ':zP):Prop:=∀b o v,σ b o=some v->σ' b o=some v
def Inj.le(j j':Inj):Prop:=∀id g pl,j id g=some pl->j' id g=some pl
theorem zP.le_refl(σ:zP):σ.le σ:=fun _ _ _ h=>h
theorem Inj.le_refl(j:Inj):j.le j:=fun _ _ _ h=>h
theorem zP.le_trans{a b c:zP}(h:a.le b)(h':b.le c):a.le c:=fun _ _ _ x=>h' _ _ _ (h _ _ _ x)
theorem Inj.le_trans{a b c:Inj}(h:a.le b)(h':b.le c):a.le c:=fun _ _ _ x=>h' _ _ _ (h _ _ _ x)
theorem zzX(j:Inj):zb1.le j:=fun _ _ _ h=>by simp[zb1]at h
theorem VC.mono{σ σ':zP}{j:Inj}{c:Cl}{v:Value}(hσ:σ.le σ')(h:VC σ j c v):∀{j':Inj},j.le j'->VC σ' j' c v:=by
 induction h with
 |bool=>intro j' _;exact .bool _ _
 |int=>intro j' _;exact .int _ _ _
 |str=>intro j' _;exact .str _ _
 |ptr j id g i k L h=>intro j' hj;exact .ptr _ _ _ _ _ _ (hj _ _ _ h)
 |uR j row k b o val h1 h2 ih=>intro j' _;exact .uR _ _ _ _ _ val (fun n c hn=>hσ _ _ _ (h1 n c hn)) (fun n c hn=>ih n c hn (Inj.le_refl _))
 |qS=>intro j' _;exact .qS _
 |slice j id g es off len cap pl a c h hl hc ha=>intro j' hj;exact .slice _ _ _ _ _ _ _ pl _ _ (hj _ _ _ h) hl hc ha
 |jc j esz rows a c b o val hl ha hr h1 h2 ih =>
  intro j' _;exact .jc _ esz _ _ _ b o val hl ha hr (fun i row n cl hi hn=>hσ _ _ _ (h1 i row n cl hi hn)) (fun i row n cl hi hn=>ih i row n cl hi hn (Inj.le_refl _))
 |jd=>intro j' _;exact .jd _
 |fn j f fi ca fi' ca' l1 l2 h1 h2 ih1 ih2=>intro j' hj;exact .fn _ _ _ _ _ _ l1 l2 (fun n c v hc hv=>ih1 n c v hc hv hj) (fun n c v hc hv=>ih2 n c v hc hv hj)
 |vl=>intro j' _;exact .vl _
 |ye j t c v h ih=>intro j' hj;exact .ye _ _ _ _ (ih hj)
 |yd j t cs vs l h ih=>intro j' hj;exact .yd _ _ _ _ l (fun n c v hc hv=>ih n c v hc hv hj)
 |qy=>intro j' _;exact .qy _
 |yld j id f sh l r h=>intro j' hj;exact .yld _ _ _ _ l r (hj _ _ _ h)
theorem VC.Bi{σ:zP}{j:Inj}{c:Cl}{v:Value}(h:VC σ zb1 c v):VC σ j c v:=h.mono (zP.le_refl _) (zzX _)
theorem VC.yv{σ:zP}{j:Inj}{c:Cl}{v:Value}(hn:zcl c=true)(h:VC σ j c v):VC σ zb1 c v:=by
 cases h with
 |bool=>exact .bool _ _
 |int=>exact .int _ _ _
 |str=>exact .str _ _
 |ptr=>simp[zcl]at hn
 |uR _ row k b o val h1 h2=>exact .uR _ _ _ _ _ val h1 h2
 |qS=>exact .qS _
 |slice=>simp[zcl]at hn
 |jc _ esz rows a c b o val hl ha hr h1 h2=>exact .jc _ esz _ _ _ b o val hl ha hr h1 h2
 |jd=>exact .jd _
 |fn _ f fi ca fi' ca' l1 l2 h1 h2 =>
  simp[zcl]at hn;obtain⟨rfl,rfl⟩:=hn;exact .fn _ _ _ _ _ _ l1 l2 (fun n c v hc _=>by simp at hc) (fun n c v hc _=>by simp at hc)
 |vl=>exact .vl _
 |ye=>simp[zcl]at hn
 |yd=>simp[zcl]at hn
 |qy=>exact .qy _
 |yld=>simp[zcl]at hn
theorem VC.plain{σ σ':zP}{j j':Inj}{c:Cl}{v:Value}(hn:ztI c=true)(h:VC σ j c v):VC σ' j' c v:=by
 cases h<;>first |(simp[ztI]at hn;done) |constructor
theorem VC.one{σ:zP}{j:Inj}{c:Cl}{v:Value}(h:VC σ j c v):v.cells = #[v]:=by
 cases h<;>rfl
def VCs(σ:zP)(j:Inj)(cs:List Cl)(vs:List Value):Prop:=cs.length=vs.length/\∀(n:Nat) (c:Cl) (v:Value),cs[n]?=some c->vs[n]?=some v->VC σ j c v
theorem VCs.nil{σ:zP}{j:Inj}:VCs σ j [] []:=⟨rfl,fun n c v h=>by simp at h⟩
theorem VCs.cons{σ:zP}{j:Inj}{c:Cl}{cs:List Cl}{v:Value}{vs:List Value}(h:VC σ j c v)(hs:VCs σ j cs vs):VCs σ j (c::cs) (v::vs):=by
 refine⟨by simp[hs.1],fun n c' v' hc hv=>?_⟩;cases n with
 |zero=>simp at hc hv;subst hc;subst hv;exact h
 |succ n=>simp at hc hv;exact hs.2 n c' v' hc hv
theorem VCs.qM{σ:zP}{j:Inj}{c:Cl}{cs:List Cl}{vs:List Value}(h:VCs σ j (c::cs) vs):∃v vs',vs=v::vs'/\VC σ j c v/\VCs σ j cs vs':=by
 obtain⟨hl,hh⟩:=h;cases vs with
 |nil=>simp at hl
 |cons v vs'=>exact⟨v,vs',rfl,hh 0 c v rfl rfl,by simpa using hl,fun n c' v' hc hv=>hh (n+1) c' v' (by simpa using hc) (by simpa using hv)⟩
theorem VCs.yl{σ:zP}{j:Inj}{vs:List Value}(h:VCs σ j [] vs):vs=[]:=by
 have:=h.1;simp at this;exact kA this.symm
theorem VCs.mono{σ σ':zP}{j j':Inj}{cs:List Cl}{vs:List Value}(hσ:σ.le σ')(hj:j.le j')(h:VCs σ j cs vs):VCs σ' j' cs vs :=
 ⟨h.1,fun n c v hc hv=>(h.2 n c v hc hv).mono hσ hj⟩
theorem VCs.get{σ:zP}{j:Inj}{cs:List Cl}{vs:List Value}(h:VCs σ j cs vs){n:Nat}{c:Cl}(hc:cs[n]?=some c):∃v,vs[n]?=some v/\VC σ j c v:=by
 have hn:n<cs.length:=by
  rcases kD n cs.length with hh|hh
  ·exact hh
  ·rw[jK hh]at hc;cases hc
 have hn':n<vs.length:=by rw[<-h.1];exact hn
 exact⟨vs[n],jv hn',h.2 n c _ hc (jv hn')⟩
theorem VCs.Df{σ:zP}{j:Inj}{cs:List Cl}{vs:List Value}(hl:cs.length=vs.length)(h:∀(n:Nat) (c:Cl),cs[n]?=some c->∃v,vs[n]?=some v/\VC σ j c v):VCs σ j cs vs :=
 ⟨hl,fun n c v hc hv=>by obtain⟨v',hv',hh⟩:=h n c hc;rw[hv]at hv';cases hv';exact hh⟩
theorem VCs.append{σ:zP}{j:Inj}{cs ds:List Cl}{vs us:List Value}(h:VCs σ j cs vs)(h':VCs σ j ds us):VCs σ j (cs++ds) (vs++us):=by
 induction cs generalizing vs with
 |nil=>have:=h.yl;subst this;simpa using h'
 |cons c cs ih =>
  obtain⟨v,vs',rfl,hv,hs⟩:=h.qM;exact VCs.cons hv (ih hs)
theorem VCs.drop{σ:zP}{j:Inj}{cs:List Cl}{vs:List Value}(h:VCs σ j cs vs)(k:Nat):VCs σ j (cs.drop k) (vs.drop k) :=
 ⟨by simp[h.1],fun n c v hc hv=>h.2 (k+n) c v (by simpa using hc) (by simpa using hv)⟩
theorem VCs.take{σ:zP}{j:Inj}{cs:List Cl}{vs:List Value}(h:VCs σ j cs vs)(k:Nat):VCs σ j (cs.take k) (vs.take k):=by
 refine⟨by simp[h.1],fun n c v hc hv=>?_⟩;rw[kM]at hc hv;split at hc
 ·rename_i hn;rw[if_pos hn]at hv;exact h.2 n c v hc hv
 ·cases hc
def WVR(σ:zP)(j:Inj):WV->Value->Prop
 |.c x,v=>VC σ j x v
 |.a cs,v=>∃arr:Array Value,v=.agg arr/\VCs σ j cs arr.toList
theorem WVR.mono{σ σ':zP}{j j':Inj}{x:WV}{v:Value}(hσ:σ.le σ')(hj:j.le j')(h:WVR σ j x v):WVR σ' j' x v:=by
 cases x with
 |c x=>exact VC.mono hσ h hj
 |a cs=>obtain⟨arr,rfl,h⟩:=h;exact⟨arr,rfl,h.mono hσ hj⟩
theorem WVR.cells{σ:zP}{j:Inj}{x:WV}{v:Value}(h:WVR σ j x v):VCs σ j x.cells v.cells.toList:=by
 cases x with
 |c x=>have h:VC σ j x v:=h;rw[h.one];exact VCs.cons h VCs.nil
 |a cs=>obtain⟨arr,rfl,h⟩:=h;exact h
theorem WVR.Bx{σ:zP}{j:Inj}{x:WV}{v:Value}(h:WVR σ j x v):v.cells.size=x.cells.length:=by
 have:=h.cells.1;simpa using this.symm
theorem WVR.An{σ:zP}{j:Inj}{agg:Bool}{cs:List Cl}{x:WV}(vs:List Value)(h:VCs σ j cs vs)(hx:zaI agg cs=some x) :
  WVR σ j x (if agg then .agg vs.toArray else vs.headD undef):=by
 cases agg with
 |true=>simp[zaI]at hx;subst hx;exact⟨vs.toArray,by simp,by simpa using h⟩
 |false =>
  match cs,h,hx with
  |[c],h,hx =>
   simp[zaI]at hx;subst hx;obtain⟨v,vs',rfl,hv,hs⟩:=h.qM;simpa [WVR]using hv
def zac(σ:zP)(j:Inj)(xs:List WV)(vs:List Value):Prop:=xs.length=vs.length/\∀(n:Nat) (x:WV) (v:Value),xs[n]?=some x->vs[n]?=some v->WVR σ j x v
theorem zac.nil{σ:zP}{j:Inj}:zac σ j [] []:=⟨rfl,fun n c v h=>by simp at h⟩
theorem zac.cons{σ:zP}{j:Inj}{c:WV}{cs:List WV}{v:Value}{vs:List Value}(h:WVR σ j c v)(hs:zac σ j cs vs):zac σ j (c::cs) (v::vs):=by
 refine⟨by simp[hs.1],fun n c' v' hc hv=>?_⟩;cases n with
 |zero=>simp at hc hv;subst hc;subst hv;exact h
 |succ n=>simp at hc hv;exact hs.2 n c' v' hc hv
theorem zac.qM{σ:zP}{j:Inj}{c:WV}{cs:List WV}{vs:List Value}(h:zac σ j (c::cs) vs):∃v vs',vs=v::vs'/\WVR σ j c v/\zac σ j cs vs':=by
 obtain⟨hl,hh⟩:=h;cases vs with
 |nil=>simp at hl
 |cons v vs'=>exact⟨v,vs',rfl,hh 0 c v rfl rfl,by simpa using hl,fun n c' v' hc hv=>hh (n+1) c' v' (by simpa using hc) (by simpa using hv)⟩
theorem zac.yl{σ:zP}{j:Inj}{vs:List Value}(h:zac σ j [] vs):vs=[]:=by
 have:=h.1;simp at this;exact kA this.symm
theorem zac.mono{σ σ':zP}{j j':Inj}{cs:List WV}{vs:List Value}(hσ:σ.le σ')(hj:j.le j')(h:zac σ j cs vs):zac σ' j' cs vs :=
 ⟨h.1,fun n c v hc hv=>(h.2 n c v hc hv).mono hσ hj⟩
theorem zac.append{σ:zP}{j:Inj}{cs ds:List WV}{vs us:List Value}(h:zac σ j cs vs)(h':zac σ j ds us):zac σ j (cs++ds) (vs++us):=by
 induction cs generalizing vs with
 |nil=>have:=h.yl;subst this;simpa using h'
 |cons c cs ih =>
  obtain⟨v,vs',rfl,hv,hs⟩:=h.qM;exact zac.cons hv (ih hs)
theorem zac.get{σ:zP}{j:Inj}{cs:List WV}{vs:List Value}(h:zac σ j cs vs){n:Nat}{c:WV}(hc:cs[n]?=some c):∃v,vs[n]?=some v/\WVR σ j c v:=by
 have hn:n<cs.length:=by
  rcases kD n cs.length with hh|hh
  ·exact hh
  ·rw[jK hh]at hc;cases hc
 have hn':n<vs.length:=by rw[<-h.1];exact hn
 exact⟨vs[n],jv hn',h.2 n c _ hc (jv hn')⟩
def AVR(σ:zP)(j:Inj):AV->Value->Prop
 |.w x,v=>WVR σ j x v
 |.t xs,v=>∃arr:Array Value,v=.tuple arr/\zac σ j xs arr.toList
 |.u,v=>v=undef
theorem AVR.mono{σ σ':zP}{j j':Inj}{x:AV}{v:Value}(hσ:σ.le σ')(hj:j.le j')(h:AVR σ j x v):AVR σ' j' x v:=by
 cases x with
 |w x=>exact WVR.mono hσ hj h
 |t xs=>obtain⟨arr,rfl,h⟩:=h;exact⟨arr,rfl,h.mono hσ hj⟩
 |u=>exact h
def GK [GlobP](σ:zP):Prop:=∀(g:Nat) (row:List Cl),GlobP.row g=some row->∀(n:Nat) (c:Cl),row[n]?=some c->∃v,σ g n=some v/\VC σ zb1 c v
theorem GK.mono [GlobP]{σ σ':zP}(h:GK σ)(hσ:σ.le σ'):GK σ':=fun g row hg n c hc=>by
 obtain⟨v,h1,h2⟩:=h g row hg n c hc;exact⟨v,hσ _ _ _ h1,h2.mono hσ (Inj.le_refl _)⟩
def zcs(σ:zP)(j:Inj)(E:Nat->Option AV)(tmps:Array Value):Prop:=∀n x,E n=some x->∃v,tmps[n]?=some v/\AVR σ j x v
theorem zcs.mono{σ σ':zP}{j j':Inj}{E:Nat->Option AV}{t:Array Value}(hσ:σ.le σ')(hj:j.le j')(h:zcs σ j E t):zcs σ' j' E t :=
 fun n x hx=>let ⟨v,hv,hr⟩:=h n x hx;⟨v,hv,hr.mono hσ hj⟩
def zDq(σ:zP)(jj:Inj)(b:Blk)(L:Loc)(C:Array Value):Prop :=
 ∀(i:Nat) (row:List Cl) (n:Nat) (cl:Cl),b.rows[i]?=some row->row[n]?=some cl->∃v,C[L.off+i*b.esz+n]?=some v/\VC σ jj cl v
structure BL(σ:zP)(j:Inj)(b:Blk)(L:Loc)(w:World):Prop where
 esz:L.esz=b.esz
 pos:0<b.esz
 len:∀row∈b.rows,row.length=b.esz
 fit:L.off+b.rows.length*b.esz<=L.tot
 heap:∃C T,w.heap[L.blk]?=some (.cells C T (0,0))/\C.size=L.tot/\zDq σ (if b.box then j else zb1) b L C
 A8:∀o,L.off<=o->(b.fz=true->L.off+b.rows.length*b.esz<=o)->σ L.blk o=none
def zfS(s:Int):LoopState:=if s=0 then .ready else if s=1 then .busy else if s=-1 then .exhausted else .done
def zqM(s:Int):Option Code:=match znr s with
 |some .ret=>some .ret
 |some (.exit id)=>some (.exit id)
 |_=>none
def zCb(tmps:Array Value):List (Nat×Bool×Nat)->List Value->Prop
 |[],_=>True
 |(n,g,k)::sh,vs=>(if g then tmps[n]?=some (.agg (vs.take k).toArray) else k=1/\tmps[n]?=vs[0]?)/\zCb tmps sh (vs.drop k)
structure RB [zb0](σ:zP)(j:Inj)(b:Blk)(l:Nat)(r:Loop)(f:FuncId)(sh:List (Nat×Bool×Nat))(w:World):Prop where
 box:b.box=true
 ok:zb0.ok f r
 st:∃s cells pd vs,b.rows=[.int .i64 s::cells]/\w.heap[l]?=some (.loop { r with state:=zfS s,pending:=pd })/\(s≠-1->pd=zqM s)/\VCs σ j cells vs/\zCb r.tmps sh vs
def BR [zb0](σ:zP)(j:Inj)(b:Blk)(pl:Pl)(w:World):Prop :=
 match pl with
 |.empty=>b.rows=[]/\b.box=false
 |.loc L=>BL σ j b L w
 |.rnd l r f sh=>RB σ j b l r f sh w
structure MR [zb0](own:Nat->Prop)(σ:zP)(j:Inj)(M:Mem)(w:World):Prop where
 yh:∀(id:Nat) (b:Blk),M[id]?=some (some b)->∃pl,j id b.gen=some pl/\BR σ j b pl w/\(∀k,pl.at=some k->own k)
 vR:∀(id id':Nat) (b b':Blk) (k:Nat),M[id]?=some (some b)->M[id']?=some (some b')->j.atk id b.gen=some k->j.atk id' b'.gen=some k->id=id'
 dom:∀id g pl,j id g=some pl->∃b,M[id]?=some (some b)/\g<=b.gen
 okP:∀id g pl,j id g=some pl->pl.OK
theorem MR.blk [zb0]{own:Nat->Prop}{σ:zP}{j:Inj}{M:Mem}{w:World}(hm:MR own σ j M w)(id:Nat)(b:Blk)(h:M[id]?=some (some b)):∃pl,j id b.gen=some pl/\BR σ j b pl w/\(∀L,pl=.loc L->own L.blk):=by
 obtain⟨pl,h1,h2,h3⟩:=hm.yh id b h;exact⟨pl,h1,h2,fun L e=>h3 _ (by rw[e];rfl)⟩
theorem MR.inj [zb0]{own:Nat->Prop}{σ:zP}{j:Inj}{M:Mem}{w:World}(hm:MR own σ j M w)(id id':Nat)(b b':Blk)(L L':Loc)(h1:M[id]?=some (some b))(h2:M[id']?=some (some b'))(h3:j id b.gen=some (.loc L))(h4:j id' b'.gen=some (.loc L'))(h5:L.blk=L'.blk):id=id' :=
 hm.vR id id' b b' L.blk h1 h2 (Inj.v8 h3) (by rw[h5];exact Inj.v8 h4)
structure zM [zb0](σ:zP)(w:World):Prop where
 cells:∀b o v,σ b o=some v->w.cell? ⟨b,o,none⟩=some v
 qw:GK σ
structure zd9(w w':World):Prop where
 os:w'.os=w.os
 output:w'.output=w.output
 tape:w'.tape=w.tape
 drawn:w.drawn<=w'.drawn
theorem zd9.refl(w:World):zd9 w w:=⟨rfl,rfl,rfl,jq _⟩
theorem zd9.trans{a b c:World}(h:zd9 a b)(h':zd9 b c):zd9 a c:=⟨by rw[h'.os,h.os],by rw[h'.output,h.output],by rw[h'.tape,h.tape],j7 h.drawn h'.drawn⟩
structure za2(own:Nat->Prop)(k:Nat)(σ:zP)(j:Inj)(M:Mem)(w:World)(σ':zP)(j':Inj)(M':Mem)(w':World):Prop where
 sle:σ.le σ'
 jle:∀id g pl,id<k->j id g=some pl->j' id g=some pl
 size:w.heap.size<=w'.heap.size
 frame:∀b,b<w.heap.size->¬own b->w'.heap[b]?=w.heap[b]?
 BS:∀b o v,σ' b o=some v->σ b o=some v\/own b
 vw:∀(id:Nat) (b:Blk),id<k->M[id]?=some (some b)->∃b',M'[id]?=some (some b')/\b.ver<=b'.ver /\
  (b'.ver=b.ver->b'=b/\∀k,j.atk id b.gen=some k->w'.heap[k]?=w.heap[k]?)
 side:zd9 w w'
theorem za2.refl{own:Nat->Prop}{k:Nat}{σ:zP}{j:Inj}{M:Mem}{w:World}:za2 own k σ j M w σ j M w :=
 ⟨zP.le_refl _,fun _ _ _ _ h=>h,jq _,fun _ _ _=>rfl,fun _ _ _ h=>.inl h,fun _ b _ h=>⟨b,h,jq _,fun _=>⟨rfl,fun _ _=>rfl⟩⟩,zd9.refl _⟩
theorem za2.trans{own:Nat->Prop}{k:Nat}{σ σ' σ'':zP}{j j' j'':Inj}{M M' M'':Mem}{w w' w'':World}
  (h:za2 own k σ j M w σ' j' M' w') (h':za2 own k σ' j' M' w' σ'' j'' M'' w''):za2 own k σ j M w σ'' j'' M'' w'':=by
 refine⟨zP.le_trans h.sle h'.sle,fun id g pl hk hj=>h'.jle _ _ _ hk (h.jle _ _ _ hk hj),j7 h.size h'.size,fun b hb ho=>?_,fun b o v hv=>?_,fun id b hk hb=>?_,h.side.trans h'.side⟩
 ·rw[h'.frame b (vz hb h.size) ho,h.frame b hb ho]
 ·rcases h'.BS b o v hv with h1|h1
  ·exact h.BS b o v h1
  ·exact .inr h1
 ·obtain⟨b1,hb1,hv1,he1⟩:=h.vw id b hk hb;obtain⟨b2,hb2,hv2,he2⟩:=h'.vw id b1 hk hb1;refine⟨b2,hb2,j7 hv1 hv2,fun hv=>?_⟩;have e1:b1.ver=b.ver:=by omega
  have e2:b2.ver=b1.ver:=by omega
  obtain⟨rfl,hh1⟩:=he1 e1;obtain⟨rfl,hh2⟩:=he2 e2;refine⟨rfl,fun L hL=>?_⟩;obtain⟨pl,hpl,hat⟩:=Inj.Bz hL;rw[hh2 L (Inj.yC (h.jle _ _ _ hk hpl) hat),hh1 L hL]
theorem za2.le{own:Nat->Prop}{k k':Nat}{σ σ':zP}{j j':Inj}{M M':Mem}{w w':World}(hk:k'<=k)(h:za2 own k σ j M w σ' j' M' w'):za2 own k' σ j M w σ' j' M' w' :=
 ⟨h.sle,fun id g pl hi hj=>h.jle _ _ _ (vz hi hk) hj,h.size,h.frame,h.BS,fun id b hi hb=>h.vw id b (vz hi hk) hb,h.side⟩
theorem za2.vk{own Az:Nat->Prop}{k:Nat}{σ σ':zP}{j j':Inj}{M M':Mem}{w w':World}(ho:∀b,own b->Az b)(h:za2 own k σ j M w σ' j' M' w'):za2 Az k σ j M w σ' j' M' w' :=
 ⟨h.sle,h.jle,h.size,fun b hb hn=>h.frame b hb (fun x=>hn (ho b x)),fun b o v hv=>(h.BS b o v hv).imp id (ho b),h.vw,h.side⟩
theorem za2.jle' [zb0]{own:Nat->Prop}{k:Nat}{σ σ':zP}{j j':Inj}{M M':Mem}{w w':World}(h:za2 own k σ j M w σ' j' M' w')(hm:MR own σ j M w)(hk:M.length<=k):j.le j':=by
 intro id g pl hj;obtain⟨b,hb,_⟩:=hm.dom id g pl hj;refine h.jle _ _ _ ?_ hj;rcases kD id M.length with hl|hl
 ·omega
 ·rw[jK hl]at hb;cases hb
theorem MR.lt [zb0]{own:Nat->Prop}{σ:zP}{j:Inj}{M:Mem}{w:World}(hm:MR own σ j M w){id g:Nat}{pl:Pl}(h:j id g=some pl):id<M.length:=by
 obtain⟨b,hb,_⟩:=hm.dom id g pl h;rcases kD id M.length with hl|hl
 ·exact hl
 ·rw[jK hl]at hb;cases hb
theorem zaz{M:Mem}{id g:Nat}{b:Blk}(h:look M id g=some b):M[id]?=some (some b)/\g=b.gen:=by
 unfold look at h;split at h
 ·rename_i b' hb;split at h
  ·rename_i hg;cases h;exact⟨hb,hg⟩
  ·cases h
 ·cases h
theorem MR.cell [zb0]{own:Nat->Prop}{σ:zP}{j:Inj}{M:Mem}{w:World}(hm:MR own σ j M w){id:Nat}{b:Blk}{L:Loc}(hb:M[id]?=some (some b))(hL:j id b.gen=some (.loc L))
  {i n:Nat} {row:List Cl} {cl:Cl} (hi:b.rows[i]?=some row) (hn:row[n]?=some cl) :
  ∃v,w.cell? ⟨L.blk,L.off+i*L.esz+n,none⟩=some v/\VC σ j cl v/\VC σ (if b.box then j else zb1) cl v:=by
 obtain⟨pl,hpl,hbr,_⟩:=hm.blk id b hb;rw[hL]at hpl;cases hpl;have hbr:BL σ j b L w:=hbr;obtain⟨C,T,hC,hs,qB⟩:=hbr.heap;obtain⟨v,hv,hvc⟩:=qB i row n cl hi hn;refine⟨v,?_,?_,hvc⟩
 ·simp[World.cell?,hC,hbr.esz,hv]
 ·cases hbx:b.box with
  |true=>rw[hbx]at hvc;exact hvc
  |false=>rw[hbx]at hvc;exact VC.Bi hvc
variable[zb0]
theorem BR.mono{σ σ':zP}{j j':Inj}{b:Blk}{pl:Pl}{w w':World}(h:BR σ j b pl w)(hσ:σ.le σ')(hj:j.le j')
  (hw:∀k,pl.at=some k->w'.heap[k]?=w.heap[k]?) (hs:∀L,pl=.loc L->∀o,σ L.blk o=none->L.off<=o->(b.fz=true->L.off+b.rows.length*b.esz<=o)->σ' L.blk o=none):BR σ' j' b pl w':=by
 cases pl with
 |empty=>exact h
 |loc L =>
  have h:BL σ j b L w:=h;obtain⟨C,T,hC,hsz,qB⟩:=h.heap;refine(⟨h.esz,h.pos,h.len,h.fit,⟨C,T,by rw[hw L.blk rfl];exact hC,hsz,?_⟩,fun o h1 h2=>hs L rfl o (h.A8 o h1 h2) h1 h2⟩:BL σ' j' b L w');intro i row n cl hi hn;obtain⟨v,hv,hvc⟩:=qB i row n cl hi hn;refine⟨v,hv,VC.mono hσ hvc ?_⟩;cases b.box with
  |true=>simpa using hj
  |false=>exact Inj.le_refl _
 |rnd l r f sh =>
  have h:RB σ j b l r f sh w:=h;obtain⟨s,cells,pd,vs,h1,h2,h3,h4,h5⟩:=h.st;exact(⟨h.box,h.ok,s,cells,pd,vs,h1,by rw[hw l rfl];exact h2,h3,h4.mono hσ hj,h5⟩:RB σ' j' b l r f sh w')
theorem BR.OK{σ:zP}{j:Inj}{b:Blk}{pl:Pl}{w:World}(h:BR σ j b pl w):pl.OK:=by
 cases pl with
 |rnd l r f sh=>exact(h:RB σ j b l r f sh w).ok
 |_=>trivial
theorem MR.u7{own:Nat->Prop}{σ:zP}{j:Inj}{M:Mem}{w:World}(hm:MR own σ j M w){id:Nat}{b:Blk}{k:Nat}(hb:M[id]?=some (some b))(hk:j.atk id b.gen=some k):k<w.heap.size:=by
 obtain⟨pl,hpl,hbr,_⟩:=hm.yh id b hb;obtain⟨pl',Al,hat⟩:=Inj.Bz hk;rw[hpl]at Al;cases Al;cases pl with
 |empty=>cases hat
 |loc L =>
  obtain⟨C,T,hC,_⟩:=(hbr:BL σ j b L w).heap;cases hat;exact(jR.1 hC).1
 |rnd l r f sh =>
  obtain⟨s,cells,pd,vs,h1,h2,_⟩:=(hbr:RB σ j b l r f sh w).st;cases hat;exact(jR.1 h2).1
theorem MR.CV{own:Nat->Prop}{σ:zP}{j:Inj}{M:Mem}{w:World}(hm:MR own σ j M w){id:Nat}{b:Blk}{k:Nat}(hb:M[id]?=some (some b))(hk:j.atk id b.gen=some k):own k:=by
 obtain⟨pl,hpl,_,h⟩:=hm.yh id b hb;obtain⟨pl',Al,hat⟩:=Inj.Bz hk;rw[hpl]at Al;cases Al;exact h k hat
theorem MR.same{own:Nat->Prop}{σ:zP}{j:Inj}{M:Mem}{w w':World}(hm:MR own σ j M w)(h:w'.heap=w.heap):MR own σ j M w':=by
 refine⟨fun id b hb=>?_,hm.vR,hm.dom,hm.okP⟩;obtain⟨pl,h1,h2,h3⟩:=hm.yh id b hb;exact⟨pl,h1,h2.mono (zP.le_refl _) (Inj.le_refl _) (fun L _=>by rw[h]) (fun _ _ _ h _ _=>h),h3⟩
theorem zM.same{σ:zP}{w w':World}(hm:zM σ w)(h:w'.heap=w.heap):zM σ w':=by
 refine⟨?_,hm.qw⟩;intro b o v hv;have:=hm.cells b o v hv;simpa [World.cell?,h]using this
theorem zM.lt{σ:zP}{w:World}(hm:zM σ w){b o:Nat}{v:Value}(h:σ b o=some v):b<w.heap.size:=by
 have:=hm.cells b o v h;unfold World.cell? at this;split at this
 ·rename_i c _ _ hc;exact(jR.1 hc).1
 ·cases this
theorem zM.BH{σ:zP}{w w':World}(hm:zM σ w)(h:∀b o v,σ b o=some v->w'.heap[b]?=w.heap[b]?):zM σ w':=by
 refine⟨?_,hm.qw⟩;intro b o v hv;have:=hm.cells b o v hv;simpa [World.cell?,h b o v hv]using this
theorem MR.write{own:Nat->Prop}{σ:zP}{j:Inj}{M:Mem}{w w':World}(hm:MR own σ j M w){id:Nat}{b b':Blk}{L:Loc}
  (hb:M[id]?=some (some b)) (hL:j id b.gen=some (.loc L)) (hg:b'.gen=b.gen) (hw:∀k,k≠L.blk->w'.heap[k]?=w.heap[k]?) (hbl:BL σ j b' L w') :
  MR own σ j (M.set id (some b')) w':=by
 have hlt:id<M.length:=by
  rcases kD id M.length with hl|hl
  ·exact hl
  ·rw[jK hl]at hb;cases hb
 have get:∀k x,(M.set id (some b'))[k]?=some (some x)->(k=id/\x=b')\/(k≠id/\M[k]?=some (some x)):=by
  intro k x hx;rw[uU]at hx;by_cases hk:id=k
  ·subst hk;simp[hlt]at hx;exact .inl ⟨rfl,hx.symm⟩
  ·rw[if_neg hk]at hx;exact .inr ⟨fun e=>hk e.symm,hx⟩
 refine⟨fun k x hx=>?_,fun k k' x x' q hx hx' hj hj'=>?_,fun k g pl hj=>?_,hm.okP⟩
 ·rcases get k x hx with⟨rfl,rfl⟩ |⟨hk,hx⟩
  ·obtain⟨pl,hpl,_,ho⟩:=hm.yh k b hb;rw[hL]at hpl;cases hpl;exact⟨.loc L,by rw[hg];exact hL,hbl,ho⟩
  ·obtain⟨pl,hpl,hbr,ho⟩:=hm.yh k x hx;refine⟨pl,hpl,hbr.mono (zP.le_refl _) (Inj.le_refl _) (fun q e=>?_) (fun _ _ _ h _ _=>h),ho⟩;refine hw _ (fun e'=>hk (hm.vR k id x b q hx hb (Inj.yC hpl e) (by rw[e'];exact Inj.v8 hL)))
 ·rcases get k x hx with⟨rfl,rfl⟩ |⟨hk,hx1⟩<;>rcases get k' x' hx' with⟨rfl,rfl⟩ |⟨hk',B9⟩
  ·rfl
  ·rw[hg]at hj;exact hm.vR k k' b x' q hb B9 hj hj'
  ·rw[hg]at hj';exact hm.vR k k' x b q hx1 hb hj hj'
  ·exact hm.vR k k' x x' q hx1 B9 hj hj'
 ·obtain⟨x,hx,hgx⟩:=hm.dom k g pl hj;by_cases hk:id=k
  ·subst hk;rw[hb]at hx;cases hx;exact⟨b',by simp[hlt],by rw[hg];exact hgx⟩
  ·exact⟨x,by rw[jJ hk];exact hx,hgx⟩
def Inj.put(j:Inj)(id g:Nat)(pl:Pl):Inj:=fun id' g'=>if id'=id/\g'=g then some pl else j id' g'
theorem Inj.vW(j:Inj)(id g:Nat)(pl:Pl):j.put id g pl id g=some pl:=by simp[Inj.put]
theorem Inj.Bf(j:Inj){id g id' g':Nat}(pl:Pl)(h:¬(id'=id/\g'=g)):j.put id g pl id' g'=j id' g':=by simp[Inj.put,h]
theorem Inj.AY{j:Inj}{id g:Nat}{pl:Pl}(h:j id g=none):j.le (j.put id g pl):=by
 intro id' g' pl' hh;rw[Inj.Bf]
 ·exact hh
 ·rintro⟨rfl,rfl⟩;rw[h]at hh;cases hh
theorem MR.renew{own:Nat->Prop}{σ:zP}{j:Inj}{M:Mem}{w w':World}(hm:MR own σ j M w){id:Nat}{b':Blk}{pl':Pl}(hlt:id<M.length)
  (hg:∀b,M[id]?=some (some b)->b.gen<b'.gen)
  (hw:∀k b q,k≠id->M[k]?=some (some b)->j.atk k b.gen=some q->w'.heap[q]?=w.heap[q]?/\pl'.at≠some q)
  (hbr:BR σ (j.put id b'.gen pl') b' pl' w') (ho:∀k,pl'.at=some k->own k) :
  j id b'.gen=none/\MR own σ (j.put id b'.gen pl') (M.set id (some b')) w':=by
 have vm:j id b'.gen=none:=by
  cases h:j id b'.gen with
  |none=>rfl
  |some pl =>
   obtain⟨b,hb,hgb⟩:=hm.dom id _ pl h;have:=hg b hb;omega
 have hle:=Inj.AY (pl:=pl') vm;have get:∀k x,(M.set id (some b'))[k]?=some (some x)->(k=id/\x=b')\/(k≠id/\M[k]?=some (some x)):=by
  intro k x hx;rw[uU]at hx;by_cases hk:id=k
  ·subst hk;simp[hlt]at hx;exact .inl ⟨rfl,hx.symm⟩
  ·rw[if_neg hk]at hx;exact .inr ⟨fun e=>hk e.symm,hx⟩
 refine⟨vm,fun k x hx=>?_,fun k k' x x' q hx hx' hj hj'=>?_,fun k g pl hj=>?_,fun k g pl hj=>by
  by_cases hk:k=id/\g=b'.gen
  ·rw[hk.1,hk.2,Inj.vW]at hj;cases hj;exact hbr.OK
  ·rw[Inj.Bf _ _ hk]at hj;exact hm.okP k g pl hj⟩
 ·rcases get k x hx with⟨rfl,rfl⟩ |⟨hk,hx⟩
  ·exact⟨pl',Inj.vW _ _ _ _,hbr,ho⟩
  ·obtain⟨pl,hpl,hbx,hox⟩:=hm.yh k x hx;refine⟨pl,hle _ _ _ hpl,hbx.mono (zP.le_refl _) hle (fun q e=>?_) (fun _ _ _ h _ _=>h),hox⟩;exact(hw k x q hk hx (Inj.yC hpl e)).1
 ·have ne:∀k,k≠id->∀g,(j.put id b'.gen pl').atk k g=j.atk k g:=fun k hk g=>by simp[Inj.atk,Inj.Bf _ _ (fun h=>hk h.1)]
  have same:(j.put id b'.gen pl').atk id b'.gen=pl'.at:=by simp[Inj.atk,Inj.vW]
  rcases get k x hx with⟨rfl,rfl⟩ |⟨hk,hx1⟩<;>rcases get k' x' hx' with⟨rfl,rfl⟩ |⟨hk',B9⟩
  ·rfl
  ·rw[same]at hj;rw[ne _ hk']at hj';exact absurd hj (hw k' x' q hk' B9 hj').2
  ·rw[same]at hj';rw[ne _ hk]at hj;exact absurd hj' (hw k x q hk hx1 hj).2
  ·rw[ne _ hk]at hj;rw[ne _ hk']at hj';exact hm.vR k k' x x' q hx1 B9 hj hj'
 ·by_cases hk:id=k
  ·subst hk;refine⟨b',by simp[hlt],?_⟩;by_cases hgg:g=b'.gen
   ·omega
   ·rw[Inj.Bf _ _ (fun h=>hgg h.2)]at hj;obtain⟨b,hb,hgb⟩:=hm.dom id g pl hj;have:=hg b hb;omega
  ·rw[Inj.Bf _ _ (fun h=>hk h.1.symm)]at hj;obtain⟨x,hx,hgx⟩:=hm.dom k g pl hj;exact⟨x,by rw[jJ hk];exact hx,hgx⟩
theorem MR.qF{own:Nat->Prop}{σ:zP}{j:Inj}{M:Mem}{w:World}(hm:MR own σ j M w)(n:Nat):MR own σ j (M++qF n) w:=by
 have get:∀(k:Nat) (x:Blk),(M++Eng.qF n)[k]?=some (some x)->M[k]?=some (some x):=by
  intro k x hx;rw[qE]at hx;split at hx
  ·exact hx
  ·simp only[Eng.qF,vE]at hx;split at hx<;>cases hx
 refine⟨fun k x hx=>hm.yh k x (get k x hx),fun k k' x x' q hx hx'=>hm.vR k k' x x' q (get k x hx) (get k' x' hx'),fun k g pl hj=>?_,hm.okP⟩;obtain⟨b,hb,hgb⟩:=hm.dom k g pl hj;refine⟨b,?_,hgb⟩;rw[qE];split
 ·exact hb
 ·rename_i hl;rw[jK (Nat.le_of_not_lt hl)]at hb;cases hb
theorem zzu{M:Mem}{b:Blk}:(M++qF 1).set M.length (some b)=M++[some b]:=by
 simp[qF]
theorem MR.vk{own Az:Nat->Prop}{σ:zP}{j:Inj}{M:Mem}{w:World}(ho:∀b,own b->Az b)(hm:MR own σ j M w):MR Az σ j M w :=
 ⟨fun id b hb=>let ⟨pl,h1,h2,h3⟩:=hm.yh id b hb;⟨pl,h1,h2,fun L e=>ho _ (h3 L e)⟩,hm.vR,hm.dom,hm.okP⟩
theorem zd9.Ax{w w':World}{C:Array Value}{T:TypeId}(h:w'.heap=w.heap.push (.cells C T (0,0)))(ho:w'.os=w.os)(hp:w'.output=w.output)(ht:w'.tape=w.tape:=by rfl)(hd:w.drawn<=w'.drawn:=by first |exact jq _ |exact uj _):zd9 w w':=by
 exact⟨ho,hp,ht,hd⟩
theorem zd9.setRow(w:World)(g:Nat)(cs:Array Value):zd9 w (w.setRow g cs):=by
 exact⟨rfl,rfl,rfl,jq _⟩
end Go.Eng
namespace Go.Eng
open Go
variable[zb0]
def za0(own:Nat->Prop)(σ:zP)(j:Inj)(M:Mem)(w:World)(av:AV)(M':Mem)(r:Result Value):Prop :=
 ∃v w' σ' j',r=.ok v w'/\AVR σ' j' av v/\zM σ' w'/\MR own σ' j' M' w'/\za2 own M.length σ j M w σ' j' M' w'
theorem za0.same{own:Nat->Prop}{σ:zP}{j:Inj}{M:Mem}{w:World}{av:AV}{v:Value}{r:Result Value}(hr:r=.ok v w)(ha:AVR σ j av v)(hg:zM σ w)(hm:MR own σ j M w) :
  za0 own σ j M w av M r:=⟨v,w,σ,j,hr,ha,hg,hm,za2.refl⟩
theorem za0.map{own:Nat->Prop}{σ:zP}{j:Inj}{M:Mem}{w:World}{av:AV}{M':Mem}{P:Program}{s:Sem Value}
  (h:za0 own σ j M w av M' (s.run P w)):∃v w' σ' j',(s.run P w)=.ok v w'/\AVR σ' j' av v/\zM σ' w'/\MR own σ' j' M' w'/\za2 own M.length σ j M w σ' j' M' w':=h
theorem zfc{P:Program}{t:TypeId}{g:Bool}(h:zeU P t=some g)(w:World):(isAgg t).run P w=.ok g w:=by
 unfold zeU at h;cases hd:P.underlying t with
 |none=>rw[hd]at h;cases h
 |some d=>rw[hd]at h;cases d<;>simp at h<;>subst h<;>simp[isAgg,run_underlying hd]
theorem zaJ{P:Program}{t:TypeId}{n:Nat}(h:zbL P t=some n)(w:World):(sizeOf t).run P w=.ok n w:=by
 unfold zbL at h;cases hd:P.info? t with
 |none=>rw[hd]at h;cases h
 |some d=>rw[hd]at h;simp at h;subst h;simp[sizeOf,typeInfo,hd]
theorem ztA{P:Program}{t:TypeId}{i:TypeInfo}(h:P.info? t=some i)(w:World):(typeInfo t).run P w=.ok i w:=by
 simp[typeInfo,h]
theorem zru{σ:zP}{j:Inj}{v:Value}{c:Cl}(h:zAA v=some c):VC σ j c v:=by
 unfold zAA at h;split at h<;>first
  |(cases h;constructor;done)
  |(cases h;done)
theorem zdu{σ:zP}{j:Inj}:∀{vs:List Value} {cs:List Cl},zpz vs=some cs->VCs σ j cs vs
 |[],cs,h=>by simp[zpz]at h;subst h;exact VCs.nil
 |v::vs,cs,h=>by
  unfold zpz at h;split at h
  ·rename_i c cs' hc hcs;cases h;exact VCs.cons (zru hc) (zdu hcs)
  ·cases h
theorem zkd{σ:zP}{j:Inj}{v:Value}{x:WV}(h:zzh v=some x):WVR σ j x v:=by
 unfold zzh at h;split at h
 ·rename_i cs;cases hc:zpz cs.toList with
  |none=>rw[hc]at h;cases h
  |some l=>rw[hc]at h;cases h;exact⟨cs,rfl,zdu hc⟩
 ·cases hc:zAA v with
  |none=>rw[hc]at h;cases h
  |some l=>rw[hc]at h;cases h;exact zru hc
section
variable{own:Nat->Prop}{σ:zP}{j:Inj}{M:Mem}{w:World}{E:Nat->Option AV}{a:Act}{P:Program}
theorem zqt(hE:zcs σ j E a.tmps){n:Nat}{x:AV}(h:E n=some x):AVR σ j x (a.eval (.tmp n)):=by
 obtain⟨v,hv,hr⟩:=hE n x h;have:a.eval (.tmp n)=v:=by simp[Act.eval,kX,hv]
 rw[this];exact hr
theorem zq7(hG:GK σ){g:Nat}{row:List Cl}(h:GlobP.row g=some row):VC σ j (.uR row 0) (a.eval (.global g)):=by
 have hk:=hG g row h;have h1:∀n c,row[n]?=some c->∃v,σ g (0+n)=some v/\VC σ zb1 c v:=fun n c hc=>by rw[jH];exact hk n c hc
 have:=VC.uR (σ:=σ) j row 0 g 0 (fun n=>(σ g (0+n)).getD undef) (fun n c hc=>by obtain⟨v,hv,_⟩:=h1 n c hc;rw[hv];rfl) (fun n c hc=>by obtain⟨v,hv,hvc⟩:=h1 n c hc;rw[hv];exact hvc);exact this
theorem zWl(hG:GK σ)(hE:zcs σ j E a.tmps){x:Operand}{o:Opd}{y:WV}(ho:za5 x=some o)(hy:o.ev E=some y):WVR σ j y (a.eval x):=by
 cases x with
 |tmp t =>
  simp only[za5,ji]at ho;subst ho;simp only[Opd.ev]at hy;split at hy
  ·rename_i x hx;cases hy;exact zqt hE hx
  ·cases hy
 |const v =>
  simp only[za5,jb]at ho;obtain⟨z,hz,rfl⟩:=ho;simp only[Opd.ev,ji]at hy;subst hy;exact zkd hz
 |global g =>
  simp only[za5,jb]at ho;obtain⟨row,qB,rfl⟩:=ho;simp only[Opd.ev,ji]at hy;subst hy;exact zq7 hG qB
 |func f =>
  simp only[za5,ji]at ho;subst ho;simp only[Opd.ev,ji]at hy;subst hy;exact .fn _ _ _ _ _ _ rfl rfl (fun n c v hc _=>by simp at hc) (fun n c v hc _=>by simp at hc)
theorem ztM(hG:GK σ)(hE:zcs σ j E a.tmps){x:Operand}{o:Opd}{y:AV}(ho:za5 x=some o)(hy:o.av E=some y):AVR σ j y (a.eval x):=by
 cases x with
 |tmp t =>
  simp only[za5,ji]at ho;subst ho;simp only[Opd.av]at hy;obtain⟨v,hv,hr⟩:=hE t y hy;have:a.eval (.tmp t)=v:=by simp[Act.eval,kX,hv]
  rw[this];exact hr
 |const v =>
  simp only[za5,jb]at ho;obtain⟨z,hz,rfl⟩:=ho;simp only[Opd.av,ji]at hy;subst hy;exact zkd hz
 |global g =>
  simp only[za5,jb]at ho;obtain⟨row,qB,rfl⟩:=ho;simp only[Opd.av,ji]at hy;subst hy;exact zq7 (σ:=σ) hG qB
 |func f =>
  simp only[za5,ji]at ho;subst ho;simp only[Opd.av,ji]at hy;subst hy;exact .fn _ _ _ _ _ _ rfl rfl (fun n c v hc _=>by simp at hc) (fun n c v hc _=>by simp at hc)
theorem zbr(hG:GK σ)(hE:zcs σ j E a.tmps):∀{xs:List Operand} {os:List Opd} {ys:List WV},zdB xs=some os->evs E os=some ys->zac σ j ys (xs.map a.eval)
 |[],os,ys,ho,hy=>by simp only[zdB,ji]at ho;subst ho;simp only[evs,ji]at hy;subst hy;exact zac.nil
 |x::xs,os,ys,ho,hy=>by
  simp only[zdB]at ho;split at ho
  ·rename_i c cs hc hcs;cases ho;simp only[evs]at hy;split at hy
   ·rename_i v vs hv hvs;cases hy;exact zac.cons (zWl hG hE hc hv) (zbr hG hE hcs hvs)
   ·cases hy
  ·cases ho
theorem zh1{cs:List Cl}{f:Nat->Option Value}(h:∀(m:Nat) (c:Cl),cs[m]?=some c->∃v,f m=some v/\VC σ j c v) :
  ∃vs,VCs σ j cs vs/\∀(m:Nat) (v:Value),vs[m]?=some v->f m=some v:=by
 refine⟨(List.range cs.length).map fun m=>(f m).getD undef,VCs.Df (by simp) (fun n c hc=>?_),fun m v hv=>?_⟩
 ·obtain⟨v,hv,hr⟩:=h n c hc;have hn:n<cs.length:=by
   rcases kD n cs.length with hh|hh
   ·exact hh
   ·rw[jK hh]at hc;cases hc
  exact⟨v,by simp[hn,hv],hr⟩
 ·rw[qG]at hv;rcases kD m cs.length with hm|hm
  ·simp[hm]at hv;obtain⟨v',hv',_⟩:=h m _ (jv hm);rw[hv']at hv;simp at hv;rw[hv',hv]
  ·simp[hm]at hv
theorem zmL{row cs:List Cl}{k n:Nat}(h:cut row k n=some cs):cs.length=n/\k+n<=row.length/\∀(m:Nat) (c:Cl),cs[m]?=some c->row[k+m]?=some c:=by
 unfold cut at h;split at h
 ·rename_i hk;cases h;refine⟨by simp;omega,hk,fun m c hc=>?_⟩;rw[kM]at hc;split at hc
  ·simpa using hc
  ·cases hc
 ·cases h
theorem ze3{t:TypeId}{agg:Bool}{size:Nat}{cs:List Cl}{vs:List Value}{x:WV}(hg:zeU P t=some agg)(hs:zbL P t=some size)
  (hn:cs.length=if agg then size else 1) (hv:VCs σ j cs vs) (hx:zaI agg cs=some x) {b o:Nat} (hc:∀(m:Nat) (v:Value),vs[m]?=some v->w.cell? ⟨b,o+m,none⟩=some v) :
  (loadVar t ⟨b,o,none⟩).run P w=.ok (if agg then .agg vs.toArray else vs.headD undef) w:=by
 cases agg with
 |true =>
  simp only[if_true]at hn;have hl:vs.length=size:=by rw[<-hv.1,hn]
  have:=run_loadCells_list (P:=P) w ⟨b,o,none⟩ vs (fun m v h=>by rw[Addr.add_lit];exact hc m v h);rw[hl]at this;simp[loadVar,zfc hg,zaJ hs,this]
 |false =>
  match cs,hv,hx with
  |[c],hv,hx =>
   obtain⟨v,vs',rfl,h1,h2⟩:=hv.qM;have:=h2.yl;subst this;have h0:=hc 0 v rfl;simp only[kH]at h0;simp[loadVar,zfc hg,h0]
theorem zyC{t:TypeId}{agg:Bool}{size:Nat}{p:Cl}{v:Value}{av:AV}{M':Mem}{fp:FP}(hg:zeU P t=some agg)(hs:zbL P t=some size)
  (h:zdZ M agg (if agg then size else 1) p=some (av,M',fp)) (hv:VC σ j p v) (hag:zM σ w) (hm:MR own σ j M w) :
  za0 own σ j M w av M' ((Instr.loadAt t v).run P w):=by
 unfold zdZ at h;split at h
 ·rename_i id g i k;cases hv with
  |ptr _ _ _ _ _ L hL =>
   split at h
   ·rename_i b hb0;obtain⟨hb,BZ⟩:=zaz hb0;subst BZ;split at h
    ·rename_i row qB;split at h
     ·rename_i cs hcs;obtain⟨hl,hk,u0⟩:=zmL hcs;simp only[jb]at h;obtain⟨x,hx,he⟩:=h;cases he;obtain⟨vs,hvs,Bt⟩:=zh1 (σ:=σ) (j:=j) (cs:=cs) (f:=fun m=>w.cell? ⟨L.blk,L.off+i*L.esz+k+m,none⟩) (fun m c hc=>by
       obtain⟨v,h1,h2,_⟩:=hm.cell hb hL qB (u0 m c hc);exact⟨v,by rw[<-h1,kU],h2⟩)
      have:=ze3 (P:=P) (w:=w) hg hs hl hvs hx Bt;exact za0.same (by simp[Instr.loadAt,Instr.sureAddr,this]) (WVR.An vs hvs hx) hag hm
     ·cases h
    ·cases h
   ·cases h
 ·rename_i row k;cases hv with
  |uR _ _ _ b o val h1 h2 =>
   split at h
   ·rename_i cs hcs;obtain⟨hl,hk,u0⟩:=zmL hcs;simp only[jb]at h;obtain⟨x,hx,he⟩:=h;cases he;obtain⟨vs,hvs,Bt⟩:=zh1 (σ:=σ) (j:=j) (cs:=cs) (f:=fun m=>w.cell? ⟨b,o+k+m,none⟩) (fun m c hc=>by
     refine⟨val (k+m),?_,VC.Bi (h2 _ _ (u0 m c hc))⟩;rw[kU];exact hag.cells _ _ _ (h1 _ _ (u0 m c hc)))
    have:=ze3 (P:=P) (w:=w) hg hs hl hvs hx Bt;exact za0.same (by simp[Instr.loadAt,Instr.sureAddr,this]) (WVR.An vs hvs hx) hag hm
   ·cases h
 ·cases h
end
end Go.Eng
namespace Go.Eng
open Go
variable[zb0]
section
variable{own:Nat->Prop}{σ:zP}{j:Inj}{M:Mem}{w:World}{E:Nat->Option AV}{a:Act}{P:Program}
theorem zef{k:IntKind}{n:Int}{v:Value}(h:VC σ j (.int k n) v):v=.int k n:=by cases h;rfl
theorem zmx{b:Bool}{v:Value}(h:VC σ j (.bool b) v):v=.bool b:=by cases h;rfl
theorem zAI{op:BinOp}{t:TypeId}{xo yo:Operand}{x y c:Cl}{vx vy:Value}(h:zBR op x y=some c)(hx:VC σ j x vx)(hy:VC σ j y vy) :
  ∃v,(do eqGuard op t xo yo vx vy;binOp op t vx vy:Sem Value).run P w=.ok v w/\VC σ j c v:=by
 unfold zBR at h;split at h
 ·rename_i k x k' y;obtain rfl:=zef hx;obtain rfl:=zef hy;split at h
  ·split at h
   ·cases h
   ·rename_i h0;cases h;refine⟨_,?_,.int _ _ _⟩;simp[eqGuard,binOp,Op.shift,h0]
  ·split at h
   ·cases h
   ·rename_i h0;cases h;refine⟨_,?_,.int _ _ _⟩;simp[eqGuard,binOp,Op.shift,h0]
  ·rename_i hs1 hs2;split at h
   ·rename_i hk;subst hk;cases op<;>simp only[zCG]at h<;>first
     |(cases h;done)
     |(exact absurd rfl hs1)
     |(exact absurd rfl hs2)
     |(cases h;refine⟨_,?_,.int _ _ _⟩;simp[eqGuard,binOp,Op.intArith];done)
     |(cases h;refine⟨_,?_,.bool _ _⟩;simp[eqGuard,binOp,Op.intCmp];done)
     |(cases h;refine⟨_,?_,.int _ _ _⟩;simp[eqGuard,binOp,Op.intBits];done)
     |(split at h
       ·cases h
       ·rename_i h0;cases h;refine⟨_,?_,.int _ _ _⟩;simp[eqGuard,binOp,Op.intDiv,h0])
   ·cases h
 ·cases h
theorem zTq{op:BinOp}{t:TypeId}{xo yo:Operand}{x y:ByteArray}{c:Cl}(h:zTc op x y=some c) :
  ∃v,(do eqGuard op t xo yo (.string x) (.string y);binOp op t (.string x) (.string y):Sem Value).run P w=.ok v w/\VC σ j c v:=by
 unfold zTc at h;split at h
 ·split at h
  ·cases h
  ·rename_i h0;cases h;refine⟨_,?_,.str _ _⟩;have hm:IntKind.i64.max=9223372036854775807:=rfl;rw[hm]at h0;simp[eqGuard,binOp,Op.stringOp];omega
 all_goals first
  |(cases h;done)
  |(cases h;refine⟨_,?_,.bool _ _⟩;simp[eqGuard,binOp,Op.stringOp];done)
theorem zxt{k:P1}{v:WV}{r:AV}{u:Value}(h:p1F k v=some r)(hv:WVR σ j v u):match (generalizing:=false) k with
  |.CX t=>r≠.u/\AVR σ j r (.iface t u)
  |.Cp ok t z=>∃t' u',(u=.iface t' u'/\((t'=t/\AVR σ j r (if ok then .tuple #[u',.bool true] else u'))\/(t'≠t/\ok=true/\r=.t [z,.c (.bool false)])))\/(u=.nilIface/\ok=true/\r=.t [z,.c (.bool false)]):=by
 cases k with
 |CX t =>
  cases v with
  |c x=>cases h;exact⟨by simp,VC.ye _ t x u hv⟩
  |a cs =>
   cases h;obtain⟨arr,rfl,hs⟩:=hv;exact⟨by simp,VC.yd _ t cs arr hs.1 hs.2⟩
 |Cp ok t z =>
  show ∃t' u',_;cases v with
  |a cs=>cases h
  |c x =>
   cases x with
   |iface t' agg cs =>
    have hv:VC σ j (.iface t' agg cs) u:=hv;have key:∃u',u=.iface t' u'/\∀x,zaI agg cs=some x->WVR σ j x u':=by
     cases hv with
     |ye _ _ c v hc=>exact⟨v,rfl,fun x hx=>by simp[zaI]at hx;subst hx;exact hc⟩
     |yd _ _ _ vs l hs=>exact⟨.agg vs,rfl,fun x hx=>by simp[zaI]at hx;subst hx;exact⟨vs,rfl,l,hs⟩⟩
    obtain⟨u',rfl,hk⟩:=key;simp only[p1F]at h;split at h
    ·rename_i ht;split at h
     ·rename_i x hx;cases h;refine⟨t',u',.inl ⟨rfl,.inl ⟨ht,?_⟩⟩⟩;cases ok with
      |true=>exact⟨_,rfl,zac.cons (hk x hx) (zac.cons (show WVR σ j (.c (.bool true)) _ from .bool _ _) zac.nil)⟩
      |false=>exact hk x hx
     ·cases h
    ·rename_i ht;split at h
     ·rename_i hok;cases h;exact⟨t',u',.inl ⟨rfl,.inr ⟨ht,hok,rfl⟩⟩⟩
     ·cases h
   |qy =>
    have hv:VC σ j .qy u:=hv;cases hv;simp only[p1F]at h;split at h
    ·rename_i hok;cases h;exact⟨0,.nilIface,.inr ⟨rfl,hok,rfl⟩⟩
    ·cases h
   |_=>cases h
theorem zqx(t:TypeId)(a b:Bool)(w:World)(h:P.underlying t=some .bool):(Op.equal t (.bool a) (.bool b)).run P w=.ok (a==b) w :=
 run_equalIn_bool' w 9999 t a b h
theorem zpL(d:Nat)(t e:TypeId)(p:Option Addr)(w:World)(h:P.underlying t=some (.pointer e)):(Op.equalIn (d+1) t (.pointer p) (.pointer none)).run P w=.ok p.isNone w:=by
 cases p<;>simp[Op.equalIn,run_underlying h]
theorem zjb(t e:TypeId)(p:Option Addr)(w:World)(h:P.underlying t=some (.pointer e)):(Op.equal t (.pointer p) (.pointer none)).run P w=.ok p.isNone w :=
 zpL 9999 t e p w h
theorem zvo{op:BinOp}{neg:Bool}{t:TypeId}{xo yo:Operand}{x y c:Cl}{vx vy:Value}(ht:P.underlying t=some .bool)(hop:(op=.eql/\neg=false)\/(op=.neq/\neg=true))(h:zBL neg x y=some c)
  (hx:VC σ j x vx) (hy:VC σ j y vy):∃v,(do eqGuard op t xo yo vx vy;binOp op t vx vy:Sem Value).run P w=.ok v w/\VC σ j c v:=by
 unfold zBL at h;split at h
 ·rename_i a b;cases h;obtain rfl:=zmx hx;obtain rfl:=zmx hy;refine⟨_,?_,.bool _ _⟩;rcases hop with⟨rfl,rfl⟩ |⟨rfl,rfl⟩<;>simp[eqGuard,binOp,zqx _ _ _ _ ht]
 ·cases h
theorem zq0{op:BinOp}{neg:Bool}{t e:TypeId}{xo yo:Operand}{x c:Cl}{vx:Value}(ht:P.underlying t=some (.pointer e))(hop:(op=.eql/\neg=false)\/(op=.neq/\neg=true))(h:zBB neg x=some c)
  (hx:VC σ j x vx):∃v,(do eqGuard op t xo yo vx (.pointer none);binOp op t vx (.pointer none):Sem Value).run P w=.ok v w/\VC σ j c v:=by
 unfold zBB at h;split at h
 ·cases h;cases hx;refine⟨_,?_,.bool _ _⟩;rcases hop with⟨rfl,rfl⟩ |⟨rfl,rfl⟩<;>simp[eqGuard,binOp,zjb _ _ _ _ ht]
 ·cases h;cases hx;refine⟨_,?_,.bool _ _⟩;rcases hop with⟨rfl,rfl⟩ |⟨rfl,rfl⟩<;>simp[eqGuard,binOp,zjb _ _ _ _ ht]
 ·cases h;cases hx;refine⟨_,?_,.bool _ _⟩;rcases hop with⟨rfl,rfl⟩ |⟨rfl,rfl⟩<;>simp[eqGuard,binOp,zjb _ _ _ _ ht]
 ·cases h
theorem zmc:∀(ss:List Bool) (as bs:List Cl) (ss':List Bool) (as' bs':List Cl),as.length=ss.length->bs.length=ss.length->zbM (ss++ss') (as++as') (bs++bs')=match zbM ss as bs with
  |some true=>zbM ss' as' bs'
  |r=>r
 |[],[],[],ss',as',bs',_,_=>by simp[zbM]
 |s::ss,x::as,y::bs,ss',as',bs',h,h'=>by
  simp only[jp,zbM];cases zue s x y with
  |none=>rfl
  |some r=>cases r with
   |true=>exact zmc ss as bs ss' as' bs' (by simpa using h) (by simpa using h')
   |false=>rfl
 |[],[],_::_,_,_,_,_,h=>by simp at h
 |[],_::_,_,_,_,_,h,_=>by simp at h
 |_::_,[],_,_,_,_,h,_=>by simp at h
 |_::_,_::_,[],_,_,_,_,h=>by simp at h
theorem ztc{t:TypeId}{d:Nat}{s:Bool}{x y:Cl}{vx vy:Value}{r:Bool}(ht:if s then P.underlying t=some .bool else ∃k,P.underlying t=some (.int k))(h:zue s x y=some r)
  (hx:VC σ j x vx) (hy:VC σ j y vy):(Op.equalIn (d+1) t vx vy).run P w=.ok r w:=by
 unfold zue at h;split at h
 ·split at h
  ·rename_i hkk;subst hkk;cases h;obtain rfl:=zef hx;obtain rfl:=zef hy;simp at ht;obtain⟨k',hk'⟩:=ht;exact run_equalIn_int w d t _ _ _ _ hk'
  ·cases h
 ·cases h;obtain rfl:=zmx hx;obtain rfl:=zmx hy;exact run_equalIn_bool' w d t _ _ (by simpa using ht)
 ·cases h
def zA8(P:Program)(d:Nat)(t:TypeId)(sh:List Bool):Prop :=
 0<sh.length/\((zeU P t=some true/\zbL P t=some sh.length/\∀(σ:zP) (j:Inj) (w:World) (as bs:List Cl) (va vb:List Value) (r:Bool),VCs σ j as va->VCs σ j bs vb->as.length=sh.length->bs.length=sh.length->zbM sh as bs=some r ->
  (Op.equalIn d t (.agg va.toArray) (.agg vb.toArray)).run P w=.ok r w) \/
 (zeU P t=some false/\∃s,sh=[s]/\∀(σ:zP) (j:Inj) (w:World) (x y:Cl) (vx vy:Value) (r:Bool),VC σ j x vx->VC σ j y vy->zue s x y=some r->(Op.equalIn d t vx vy).run P w=.ok r w))
theorem znb{d:Nat}{flat:TypeId->Option (List Bool)}(hflat:∀t sh,flat t=some sh->zA8 P d t sh):∀(fs:List Field) (off:Nat) (sh:List Bool),zrc flat fs off=some sh ->
  ∀(as bs:List Cl) (va vb:List Value) (r:Bool) (w:World),VCs σ j as va->VCs σ j bs vb->as.length=off+sh.length->bs.length=off+sh.length->zbM sh (as.drop off) (bs.drop off)=some r ->
  (Op.eqFields d va.toArray vb.toArray fs).run P w=.ok r w
 |[],off,sh,h,as,bs,va,vb,r,w,ha,hb,hla,hlb,he=>by
  simp only[zrc,ji]at h;subst h;have h1:as.drop off=[]:=uF (by simp at hla;omega);have h2:bs.drop off=[]:=uF (by simp at hlb;omega);rw[h1,h2]at he;simp only[zbM,ji]at he;subst he;simp[Op.eqFields]
 |f::fs,off,sh,h,as,bs,va,vb,r,w,ha,hb,hla,hlb,he=>by
  simp only[zrc]at h;split at h
  ·rename_i s1 hs1;split at h
   ·rename_i Ai;simp only[jh,bne_iff_ne,ne_eq,decide_eq_true_eq]at Ai;obtain⟨AR,C4⟩:=Ai;simp only[jb]at h;obtain⟨s2,hs2,rfl⟩:=h;obtain⟨qI,hok⟩:=hflat _ _ hs1;simp only[jr]at hla hlb;have e1:as.drop off=(as.drop off).take s1.length++as.drop (off+s1.length):=by rw[<-vM,ke]
    have e2:bs.drop off=(bs.drop off).take s1.length++bs.drop (off+s1.length):=by rw[<-vM,ke]
    have l1:((as.drop off).take s1.length).length=s1.length:=by simp;omega
    have l2:((bs.drop off).take s1.length).length=s1.length:=by simp;omega
    rw[e1,e2,zmc _ _ _ _ _ _ l1 l2]at he;have q1:=(ha.drop off).take s1.length;have q2:=(hb.drop off).take s1.length;have hrest:∀w,zbM s2 (as.drop (off+s1.length)) (bs.drop (off+s1.length))=some r->(Op.eqFields d va.toArray vb.toArray fs).run P w=.ok r w :=
     fun w h=>znb hflat fs (off+s1.length) s2 hs2 as bs va vb r w ha hb (by omega) (by omega) h
    have key:∃x y b,(part f.type va.toArray f.offset).run P w=.ok x w/\(part f.type vb.toArray f.offset).run P w=.ok y w/\zbM s1 ((as.drop off).take s1.length) ((bs.drop off).take s1.length)=some b /\
      (Op.equalIn d f.type x y).run P w=.ok b w:=by
     have hb':∃b,zbM s1 ((as.drop off).take s1.length) ((bs.drop off).take s1.length)=some b:=by
      cases hh:zbM s1 ((as.drop off).take s1.length) ((bs.drop off).take s1.length)with
      |none=>rw[hh]at he;cases he
      |some b=>exact⟨b,rfl⟩
     obtain⟨b,hb'⟩:=hb';rcases hok with⟨hg,hsz,vo⟩ |⟨hg,s,rfl,vo⟩
     ·refine⟨_,_,b,?_,?_,hb',vo σ j w _ _ _ _ b q1 q2 l1 l2 hb'⟩
      ·simp[part,zfc hg,zaJ hsz,C4]
      ·simp[part,zfc hg,zaJ hsz,C4]
     ·have la:off<as.length:=by simp at hla;omega
      have lb:off<bs.length:=by simp at hlb;omega
      have ea:(as.drop off).take 1=[as[off]]:=by rw[ki la];rfl
      have eb:(bs.drop off).take 1=[bs[off]]:=by rw[ki lb];rfl
      obtain⟨x,hx,hxr⟩:=ha.get (jv la);obtain⟨y,hy,hyr⟩:=hb.get (jv lb);have hb2:=hb';simp only[List.length_singleton,ea,eb,zbM]at hb2;have hb3:zue s as[off] bs[off]=some b:=by
       cases hq:zue s as[off] bs[off]with
       |none=>rw[hq]at hb2;cases hb2
       |some q=>rw[hq]at hb2;cases q<;>simpa using hb2
      refine⟨x,y,b,?_,?_,hb',vo σ j w _ _ _ _ b hxr hyr hb3⟩
      ·simp[part,zfc hg,C4,hx]
      ·simp[part,zfc hg,C4,hy]
    obtain⟨x,y,b,k1,k2,k3,k4⟩:=key;rw[k3]at he;simp only[Op.eqFields,ne_eq,AR,not_false_eq_true,if_true,Sem.run_bind,k1,k2,k4,Result.andThen_ok];cases b with
    |true=>simpa using hrest w he
    |false=>simp only[ji]at he;subst he;simp
   ·cases h
  ·cases h
theorem zs8:∀(d:Nat) (t:TypeId) (sh:List Bool),zvm P d t=some sh->zA8 P d t sh
 |0,t,sh,h=>by simp[zvm]at h
 |d+1,t,sh,h=>by
  simp only[zvm]at h;split at h
  ·rename_i k hk;cases h;exact⟨by simp,.inr ⟨by simp[zeU,hk],false,rfl,fun σ j w x y vx vy r hx hy he=>ztc (by simpa using⟨k,hk⟩) he hx hy⟩⟩
  ·rename_i hk;cases h;exact⟨by simp,.inr ⟨by simp[zeU,hk],true,rfl,fun σ j w x y vx vy r hx hy he=>ztc (by simpa using hk) he hx hy⟩⟩
  ·rename_i fs hk;split at h
   ·cases h
   ·rename_i hst;split at h
    ·rename_i s hs;split at h
     ·rename_i hsz;cases h;have hfo:P.fieldsOf t=fs:=by simp[Program.fieldsOf,hk]
      refine⟨hsz.2,.inl ⟨by simp[zeU,hk],hsz.1,fun σ j w as bs va vb r ha hb hla hlb he=>?_⟩⟩;rw[run_equalIn_struct w d t _ _ (by rw[hfo];exact hk) (by simpa using hst),hfo];exact znb (fun t sh h=>zs8 d t sh h) fs.toList 0 sh hs as bs va vb r w ha hb (by simpa using hla) (by simpa using hlb) (by simpa using he)
     ·cases h
    ·cases h
  ·cases h
end
end Go.Eng
namespace Go.Eng
open Go
variable[zb0]
theorem zdb{α:Type}(l vs:List α)(o:Nat)(h:o+vs.length<=l.length)(p:Nat) :
  (l.take o++vs++l.drop (o+vs.length))[p]?=if p<o then l[p]? else if p<o+vs.length then vs[p-o]? else l[p]?:=by
 have ho:(l.take o).length=o:=by simp;omega
 split
 ·rename_i hp;rw[jF,jw (by omega),kM,if_pos hp]
 ·split
  ·rename_i hp hp';rw[jF,jX (by omega),ho,jw (by omega)]
  ·rename_i hp hp';rw[jX (by simp;omega)];simp only[jr,ho,qn]
   congr 1
   omega
theorem znl{i i' esz n n':Nat}(hne:i≠i')(hn:n<esz)(hn':n'<esz):i*esz+n≠i'*esz+n':=by
 intro h;rcases Nat.lt_or_gt_of_ne hne with hlt|hlt
 ·have:=kc esz (yS hlt);rw[qt]at this;omega
 ·have:=kc esz (yS hlt);rw[qt]at this;omega
theorem zjf{i k esz:Nat}(h:i<k):i*esz+esz<=k*esz:=by
 have:=kc esz (yS h)
 rwa [qt]at this
theorem zC{α:Type}{l:List α}{i:Nat}{x:α}(h:l[i]?=some x):i<l.length:=by
 rcases kD i l.length with hh|hh
 ·exact hh
 ·rw[jK hh]at h;cases h
theorem zat{α:Type}{l:List α}{i:Nat}{x:α}(h:l[i]?=some x):x∈l:=kF h
theorem VC.BV{σ:zP}{j:Inj}{c:Cl}{v:Value}(h:VC σ j c v):v.oneCell'=true:=by
 cases h<;>rfl
theorem VCs.one{σ:zP}{j:Inj}{cs:List Cl}{vs:List Value}(h:VCs σ j cs vs):∀v∈vs,v.oneCell'=true:=by
 intro v hv;obtain⟨n,hn⟩:=kd hv;have hl:=zC hn;rw[<-h.1]at hl;exact(h.2 n _ v (jv hl) hn).BV
section
variable{own:Nat->Prop}{σ:zP}{j:Inj}{M:Mem}{w:World}{E:Nat->Option AV}{a:Act}{P:Program}
theorem zng{row Ay cs:List Cl}{k:Nat}(h:AH row k cs=some Ay):k+cs.length<=row.length/\Ay.length=row.length /\
  ∀(p:Nat) (c:Cl),Ay[p]?=some c->(k<=p/\p<k+cs.length/\cs[p-k]?=some c)\/((p<k\/k+cs.length<=p)/\row[p]?=some c):=by
 unfold AH at h;split at h
 ·rename_i hk;cases h;refine⟨hk,by simp;omega,fun p c hp=>?_⟩;rw[zdb _ _ _ hk]at hp;split at hp
  ·rename_i h1;exact .inr ⟨.inl h1,hp⟩
  ·split at hp
   ·rename_i h1 h2;exact .inl ⟨by omega,h2,hp⟩
   ·rename_i h1 h2;exact .inr ⟨.inr (by omega),hp⟩
 ·cases h
theorem zuF{id i k:Nat}{b:Blk}{L:Loc}{row Ay cs:List Cl}{vs:List Value}(hm:MR own σ j M w)(hag:zM σ w)(hb:M[id]?=some (some b))(hL:j id b.gen=some (.loc L))(hfz:b.fz=false)
  (qB:b.rows[i]?=some row) (hsp:AH row k cs=some Ay) (hv:VCs σ (if b.box then j else zb1) cs vs) :
  ∃w',(storeCells ⟨L.blk,L.off+i*L.esz+k,none⟩ vs).run P w=.ok () w'/\zM σ w'/\MR own σ j (M.set id (some { b with rows:=b.rows.set i Ay,ver:=b.ver+1 })) w' /\
   za2 own M.length σ j M w σ j (M.set id (some { b with rows:=b.rows.set i Ay,ver:=b.ver+1 })) w':=by
 obtain⟨pl,hpl,hbr,k8⟩:=hm.blk id b hb;rw[hL]at hpl;cases hpl;have hbr:BL σ j b L w:=hbr;obtain⟨C,T,hC,hsz,hr⟩:=hbr.heap;obtain⟨hk,hlen,u0⟩:=zng hsp;have hrl:row.length=b.esz:=hbr.len row (zat qB);have hi:i<b.rows.length:=zC qB;have hin:=zjf (esz:=b.esz) hi;have Ap:=hbr.fit;have hes:=hbr.esz;have jZ:L.off+i*b.esz+k+vs.length<=C.size:=by rw[<-hv.1];omega
 have hst:=run_storeCells_at P L.blk (L.off+i*L.esz+k) T vs 0 C w hC (by rw[hes];omega) hv.one;simp only[kH]at hst;generalize hC':(C.toList.take (L.off+i*L.esz+k)++vs++C.toList.drop (L.off+i*L.esz+k+vs.length)).toArray=C' at hst;have Bv:C'.size=C.size:=by rw[<-hC'];simp;rw[hes];omega
 have vH:∀p,C'[p]?=if p<L.off+i*L.esz+k then C[p]? else if p<L.off+i*L.esz+k+vs.length then vs[p-(L.off+i*L.esz+k)]? else C[p]?:=by
  intro p;rw[<-hC',qL,zdb _ _ _ (by rw[hes];simpa using jZ)];simp
 have vn:(w.setRow L.blk C').heap[L.blk]?=some (.cells C' T (0,0)):=setRow_heap w _ C C' T _ hC;have hblt:L.blk<w.heap.size:=(jR.1 hC).1;have hslen:(b.rows.set i Ay).length=b.rows.length:=by simp
 refine⟨w.setRow L.blk C',hst,?_,?_,?_⟩
 ·refine⟨?_,hag.qw⟩;intro b' o v hv';have hold:=hag.cells b' o v hv';by_cases hbb:b'=L.blk
  ·subst hbb;have hlo:o<L.off:=by
    rcases kD o L.off with h|h
    ·exact h
    ·have:=hbr.A8 o h (fun hh=>by rw[hfz]at hh;cases hh);rw[this]at hv';cases hv'
   simp only[World.cell?,hC,qm,jI,if_false]at hold;simp only[World.cell?,vn,qm,jI,if_false];rw[vH,if_pos (by omega)];exact hold
  ·simpa [World.cell?,setRow_other w L.blk b' C' hbb]using hold
 ·refine hm.write hb hL rfl (fun k' hk'=>setRow_other w _ _ _ hk') ?_;refine⟨hes,hbr.pos,fun r hr'=>?_,by simpa using Ap,⟨C',T,vn,by rw[Bv,hsz],?_⟩,fun o h1 h2=>hbr.A8 o h1 (fun h=>by rw[hfz]at h;cases h)⟩
  ·rcases qc hr' with h|h
   ·exact hbr.len r h
   ·rw[h,hlen];exact hrl
  ·intro i' r n cl hi' hn;simp only at hi' ⊢;rw[uU]at hi';by_cases hii:i=i'
   ·subst hii;rw[if_pos rfl,if_pos hi]at hi';cases hi';have hnl:=zC hn;rcases u0 n cl hn with⟨h1,h2,h3⟩ |⟨h1,h3⟩
    ·obtain⟨v,hv1,hv2⟩:=hv.get h3;refine⟨v,?_,hv2⟩;rw[vH,if_neg (by rw[hes];omega),if_pos (by rw[hes,<-hv.1];omega),<-hv1]
     congr 1
     rw[hes];omega
    ·obtain⟨v,hv1,hv2⟩:=hr i row n cl qB h3;refine⟨v,?_,hv2⟩;rw[vH];split
     ·exact hv1
     ·rw[if_neg]
      ·exact hv1
      ·rw[hes,<-hv.1]at *;omega
   ·rw[if_neg hii]at hi';obtain⟨v,hv1,hv2⟩:=hr i' r n cl hi' hn;refine⟨v,?_,hv2⟩;have hrl':r.length=b.esz:=hbr.len r (zat hi');have hnl:=zC hn;rw[vH];split
    ·exact hv1
    ·rw[if_neg]
     ·exact hv1
     ·intro hlt;rename_i hge;rw[hes,<-hv.1]at *;exact znl (n:=L.off+i'*b.esz+n-(L.off+i*b.esz)) (n':=0) (esz:=b.esz) (i:=0) (i':=1) (by omega) (by omega) (by omega) (by
       exfalso;have:=znl (i:=i) (i':=i') (esz:=b.esz) (n:=L.off+i'*b.esz+n-(L.off+i*b.esz)) (n':=n) hii (by omega) (by omega);omega)
 ·refine⟨zP.le_refl _,fun _ _ _ _ h=>h,by simp[World.setRow],fun b' hb' ho=>?_,fun _ _ _ h=>.inl h,fun id' b' hid hb'=>?_,zd9.setRow _ _ _⟩
  ·exact setRow_other w _ _ _ (fun e=>ho (e ▸ k8 L rfl))
  ·by_cases yW:id=id'
   ·subst yW;rw[hb]at hb';cases hb';exact⟨_,by simp[hid];rfl,by simp,fun h=>by simp at h⟩
   ·refine⟨b',by rw[jJ yW];exact hb',jq _,fun _=>⟨rfl,fun L' hL'=>?_⟩⟩;exact setRow_other w _ _ _ (fun e=>yW (hm.vR id id' b b' L' hb hb' (by rw[e];exact Inj.v8 hL) hL'))
theorem zmH{id:Nat}{b':Blk}{C:Array Value}{T:TypeId}{w':World}(hm:MR own σ j M w)(hag:zM σ w)(k8:∀b,w.heap.size<=b->own b)(hlt:id<M.length)
  (hg:∀b,M[id]?=some (some b)->b.gen<b'.gen/\b.ver<b'.ver) (vn:w'.heap=w.heap.push (.cells C T (0,0))) (Dj:zd9 w w') (qI:0<b'.esz) (hlen:∀row∈b'.rows,row.length=b'.esz)
  (Ap:b'.rows.length*b'.esz<=C.size)
  (qB:∀(i:Nat) (row:List Cl) (n:Nat) (cl:Cl),b'.rows[i]?=some row->row[n]?=some cl->∃v,C[i*b'.esz+n]?=some v/\VC σ (if b'.box then j else zb1) cl v) :
  j id b'.gen=none/\zM σ w'/\MR own σ (j.put id b'.gen (.loc ⟨w.heap.size,0,b'.esz,C.size⟩)) (M.set id (some b')) w' /\
    za2 own M.length σ j M w σ (j.put id b'.gen (.loc ⟨w.heap.size,0,b'.esz,C.size⟩)) (M.set id (some b')) w':=by
 have hold:∀k,k<w.heap.size->w'.heap[k]?=w.heap[k]?:=fun k hk=>by
  rw[vn,qX];rw[if_neg (by omega)]
 have Ba:w'.heap[w.heap.size]?=some (.cells C T (0,0)):=by rw[vn];simp
 have vm:j id b'.gen=none:=by
  cases h:j id b'.gen with
  |none=>rfl
  |some pl =>
   obtain⟨b,hb,hgb⟩:=hm.dom id _ pl h;have:=(hg b hb).1;omega
 have hle:=Inj.AY (pl:=.loc ⟨w.heap.size,0,b'.esz,C.size⟩) vm;obtain⟨_,hm'⟩:=hm.renew (w':=w') (pl':=.loc ⟨w.heap.size,0,b'.esz,C.size⟩) hlt (fun b hb=>(hg b hb).1) (fun k b q _ hb hL=>⟨hold _ (hm.u7 hb hL),fun e=>by
   cases e;exact uo _ (hm.u7 hb hL)⟩)
  (⟨rfl,qI,hlen,by simpa using Ap,⟨C,T,Ba,rfl,fun i row n cl hi hn=>by
    obtain⟨v,hv,hvc⟩:=qB i row n cl hi hn;refine⟨v,by simpa using hv,VC.mono (zP.le_refl _) hvc ?_⟩;cases b'.box with
    |true=>simpa using hle
    |false=>exact Inj.le_refl _⟩,fun o _ _=>by
    cases h:σ w.heap.size o with
    |none=>rfl
    |some v=>exact absurd (hag.lt h) (uo _)⟩:BL σ _ b' _ w') (fun k e=>by cases e;exact k8 _ (jq _))
 refine⟨vm,hag.BH (fun b o v hv=>hold b (hag.lt hv)),hm',zP.le_refl _,fun k g pl _ h=>hle k g pl h,by rw[vn];simp,fun k hk _=>hold k hk,fun _ _ _ h=>.inl h,fun k b hk hb=>?_,Dj⟩;by_cases hid:id=k
 ·subst hid;exact⟨b',by simp[hlt],Nat.le_of_lt (hg b hb).2,fun h=>absurd (hg b hb).2 (by omega)⟩
 ·exact⟨b,by rw[jJ hid];exact hb,jq _,fun _=>⟨rfl,fun L hL=>hold _ (hm.u7 hb hL)⟩⟩
theorem za1{id:Nat}{b:Blk}{M':Mem}(h:zg M id b=some M'):M[id]?=some none/\id<M.length/\M'=M.set id (some b):=by
 unfold zg at h;split at h
 ·rename_i hh;cases h;exact⟨hh,zC hh,rfl⟩
 ·cases h
theorem zvD{t:TypeId}{n id:Nat}{cs:List Cl}{vx:Value}{M':Mem}(hc:VCs σ j cs vx.cells.toList)(hn:cs.length=n)(qI:0<n)
  (h:zg M id { box:=true,esz:=n,rows:=[cs],gen:=0,fz:=false,ver:=0 }=some M') (hag:zM σ w) (hm:MR own σ j M w) (k8:∀b,w.heap.size<=b->own b) :
  za0 own σ j M w (.w (.c (.ptr id 0 0 0))) M' ((do pure (.pointer (some (<-newVar t vx))):Sem Value).run P w):=by
 obtain⟨yy,hlt,rfl⟩:=za1 h;have hsz:vx.cells.size=n:=by rw[<-hn];simpa using hc.1.symm
 obtain⟨_,yA,hm',hst⟩:=zmH (b':={ box:=true,esz:=n,rows:=[cs],gen:=0,fz:=false,ver:=0 }) (C:=vx.cells) (T:=t) (w':=w.alloc (.cells vx.cells t (0,0))) hm hag k8 hlt
  (fun b hb=>by rw[yy]at hb;cases hb) rfl (zd9.Ax rfl rfl rfl) qI (by simp[hn]) (by simp[hsz]) (fun i row k cl hi hk=>by
   rcases i with _|i
   ·simp at hi;subst hi;obtain⟨v,hv,hvc⟩:=hc.get hk;exact⟨v,by simpa using hv,by simpa using hvc⟩
   ·simp at hi)
 refine⟨.pointer (some ⟨w.heap.size,0,none⟩),_,σ,_,?_,?_,yA,hm',hst⟩
 ·simp[newVar,newRow]
 ·have:=VC.ptr (σ:=σ) (j.put id 0 (.loc ⟨w.heap.size,0,n,vx.cells.size⟩)) id 0 0 0 _ (Inj.vW _ _ _ _);show VC _ _ _ _;simpa using this
theorem zeu{M:Mem}{id:Nat}{k:Nat}{b:Blk}(h:M[k]?=some (some b)):∃b',(zX M id)[k]?=some (some b')/\b'.box=b.box/\b'.esz=b.esz/\b'.rows=b.rows/\b'.gen=b.gen/\b.ver<=b'.ver /\
  (b'.ver=b.ver->b'=b)/\(k=id->b'.fz=true)/\(b.fz=true->b'.fz=true)/\(k≠id->b'=b):=by
 unfold zX;split
 ·rename_i b0 h0;split
  ·rename_i hf;refine⟨b,h,rfl,rfl,rfl,rfl,jq _,fun _=>rfl,fun e=>?_,fun h=>h,fun _=>rfl⟩;subst e;rw[h]at h0;cases h0;exact hf
  ·rename_i hf;by_cases hk:id=k
   ·subst hk;rw[h]at h0;cases h0;refine⟨{ b with fz:=true,ver:=b.ver+1 },by simp[zC h],rfl,rfl,rfl,rfl,by simp,fun e=>by simp at e,fun _=>rfl,fun _=>rfl,fun e=>absurd rfl e⟩
   ·exact⟨b,by rw[jJ hk];exact h,rfl,rfl,rfl,rfl,jq _,fun _=>rfl,fun e=>absurd e.symm hk,fun h=>h,fun _=>rfl⟩
 ·rename_i h0;refine⟨b,h,rfl,rfl,rfl,rfl,jq _,fun _=>rfl,fun e=>?_,fun h=>h,fun _=>rfl⟩;subst e;exact absurd h (h0 b)
theorem zhV{M:Mem}{id:Nat}{k:Nat}{b':Blk}(h:(zX M id)[k]?=some (some b')):∃b,M[k]?=some (some b):=by
 unfold zX at h;split at h
 ·rename_i b0 h0;split at h
  ·exact⟨b',h⟩
  ·by_cases hk:id=k
   ·subst hk;exact⟨b0,h0⟩
   ·rw[jJ hk]at h;exact⟨b',h⟩
 ·exact⟨b',h⟩
theorem zpq(M:Mem)(id:Nat):(zX M id).length=M.length:=by
 unfold zX;split
 ·split<;>simp
 ·rfl
theorem zsb(hm:MR own σ j M w)(hag:zM σ w)(id:Nat):∃σ',σ.le σ'/\zM σ' w/\MR own σ' j (zX M id) w/\za2 own M.length σ j M w σ' j (zX M id) w /\
  ∀(b:Blk) (L:Loc) (i:Nat) (row:List Cl) (n:Nat) (cl:Cl),M[id]?=some (some b)->j id b.gen=some (.loc L)->b.rows[i]?=some row->row[n]?=some cl->σ' L.blk (L.off+i*b.esz+n)=w.cell? ⟨L.blk,L.off+i*b.esz+n,none⟩:=by
 classical
 let inn:Nat->Nat->Prop:=fun k o=>∃b L,M[id]?=some (some b)/\j id b.gen=some (.loc L)/\L.blk=k/\L.off<=o/\o<L.off+b.rows.length*b.esz
 let σ':zP:=fun k o=>match σ k o with
  |some v=>some v
  |none=>if inn k o then w.cell? ⟨k,o,none⟩ else none
 have hle:σ.le σ':=fun k o v h=>by show(match σ k o with |some v=>some v |none=>_)=some v;rw[h]
 have yA:zM σ' w:=by
  refine⟨?_,hag.qw.mono hle⟩;intro k o v h;have h:(match σ k o with |some v=>some v |none=>if inn k o then w.cell? ⟨k,o,none⟩ else none)=some v:=h;split at h
  ·rename_i v' hv';cases h;exact hag.cells k o v hv'
  ·split at h
   ·exact h
   ·cases h
 have hsn:∀k o v,σ' k o=some v->σ k o=some v\/inn k o:=by
  intro k o v h;have h:(match σ k o with |some v=>some v |none=>if inn k o then w.cell? ⟨k,o,none⟩ else none)=some v:=h;split at h
  ·rename_i v' hv';exact .inl (hv'.trans h)
  ·split at h
   ·rename_i hi;exact .inr hi
   ·cases h
 have vm:∀k o,σ k o=none->¬inn k o->σ' k o=none:=by
  intro k o h hn;show(match σ k o with |some v=>some v |none=>if inn k o then w.cell? ⟨k,o,none⟩ else none)=none;rw[h];simp[hn]
 have hownin:∀k o,inn k o->own k:=by
  rintro k o ⟨b,L,hb,hL,rfl,_,_⟩;obtain⟨pl,hpl,_,ho⟩:=hm.blk id b hb;rw[hL]at hpl;cases hpl;exact ho L rfl
 refine⟨σ',hle,yA,⟨fun k b' hb'=>?_,fun k k' b b' q hb hb' hL hL'=>?_,fun k g pl hj=>?_,hm.okP⟩,?_,?_⟩
 ·obtain⟨b,hb⟩:=zhV hb';obtain⟨b'',hb'',e1,e2,e3,e4,_,_,hfz,hfz2,hne⟩:=zeu (id:=id) hb;rw[hb']at hb'';cases hb'';obtain⟨pl,hpl,hbr,ho⟩:=hm.yh k b hb;refine⟨pl,by rw[e4];exact hpl,?_,ho⟩;cases pl with
  |empty=>exact⟨by rw[e3];exact hbr.1,by rw[e1];exact hbr.2⟩
  |rnd l r f sh =>
   have hbr:RB σ j b l r f sh w:=hbr;obtain⟨s,cells,pd,vs,h1,h2,h3,h4,h5⟩:=hbr.st;exact(⟨by rw[e1];exact hbr.box,hbr.ok,s,cells,pd,vs,by rw[e3];exact h1,h2,h3,h4.mono hle (Inj.le_refl _),h5⟩:RB σ' j b' l r f sh w)
  |loc L =>
   have hbr:BL σ j b L w:=hbr;obtain⟨C,T,hC,hsz,qB⟩:=hbr.heap;refine(⟨by rw[e2];exact hbr.esz,by rw[e2];exact hbr.pos,by rw[e3,e2];exact hbr.len,by rw[e3,e2];exact hbr.fit,⟨C,T,hC,hsz,?_⟩,fun o h1 h2=>?_⟩:BL σ' j b' L w)
   ·intro i row n cl hi hn;rw[e3]at hi;obtain⟨v,hv,hvc⟩:=qB i row n cl hi hn;exact⟨v,by rw[e2];exact hv,by rw[e1];exact VC.mono hle hvc (Inj.le_refl _)⟩
   ·rw[e3,e2]at h2;have hold:σ L.blk o=none:=hbr.A8 o h1 (fun h=>h2 (hfz2 h));refine vm _ _ hold ?_;rintro⟨b0,L0,hb0,hL0,he0,hlo,hhi⟩;have hkid:k=id:=hm.inj k id b b0 L L0 hb hb0 hpl hL0 he0.symm;subst hkid;rw[hb]at hb0;cases hb0;rw[hpl]at hL0;cases hL0;have:=h2 (hfz rfl);omega
 ·obtain⟨c,hc⟩:=zhV hb;obtain⟨c1,hc1,_,_,_,e4,_⟩:=zeu (id:=id) hc;rw[hb]at hc1;cases hc1;obtain⟨c',hc'⟩:=zhV hb';obtain⟨c2,hc2,_,_,_,e4',_⟩:=zeu (id:=id) hc';rw[hb']at hc2;cases hc2;rw[e4]at hL;rw[e4']at hL';exact hm.vR k k' c c' q hc hc' hL hL'
 ·obtain⟨b,hb,hg⟩:=hm.dom k g pl hj;obtain⟨b',hb',_,_,_,e4,_⟩:=zeu (id:=id) hb;exact⟨b',hb',by rw[e4];exact hg⟩
 ·refine⟨hle,fun _ _ _ _ h=>h,jq _,fun _ _ _=>rfl,fun k o v h=>(hsn k o v h).imp _root_.id (hownin k o),fun k b _ hb=>?_,zd9.refl _⟩;obtain⟨b',hb',_,_,_,_,hv,hve,_⟩:=zeu (id:=id) hb;exact⟨b',hb',hv,fun e=>⟨hve e,fun _ _=>rfl⟩⟩
 ·intro b L i row n cl hb hL hi hn;have hin:inn L.blk (L.off+i*b.esz+n):=by
   obtain⟨pl,hpl,hbr,_⟩:=hm.blk id b hb;rw[hL]at hpl;cases hpl;have hbr:BL σ j b L w:=hbr;have h1:=zjf (esz:=b.esz) (zC hi);have h2:=hbr.len row (zat hi);have h3:=zC hn;exact⟨b,L,hb,hL,rfl,by omega,by omega⟩
  show(match σ L.blk (L.off+i*b.esz+n)with |some v=>some v |none=>if inn L.blk (L.off+i*b.esz+n) then w.cell? ⟨L.blk,L.off+i*b.esz+n,none⟩ else none)=_;cases hs:σ L.blk (L.off+i*b.esz+n)with
  |some v=>exact(hag.cells _ _ _ hs).symm
  |none=>simp[hin]
theorem zgi(ids:List Nat):∀(M:Mem),(zbg M ids).length=M.length:=by
 induction ids with
 |nil=>intro M;rfl
 |cons id ids ih=>intro M;show(zbg (zX M id) ids).length=_;rw[ih,zpq]
theorem zhe(ids:List Nat):∀{σ:zP} {M:Mem},MR own σ j M w->zM σ w->∃σ',σ.le σ'/\zM σ' w/\MR own σ' j (zbg M ids) w/\za2 own M.length σ j M w σ' j (zbg M ids) w /\
  ∀id∈ids,∀(b:Blk) (L:Loc) (i:Nat) (row:List Cl) (n:Nat) (cl:Cl),M[id]?=some (some b)->j id b.gen=some (.loc L)->b.rows[i]?=some row->row[n]?=some cl->∃v,σ' L.blk (L.off+i*b.esz+n)=some v/\w.cell? ⟨L.blk,L.off+i*b.esz+n,none⟩=some v:=by
 induction ids with
 |nil=>intro σ M hm hag;exact⟨σ,zP.le_refl _,hag,hm,za2.refl,fun id h=>by cases h⟩
 |cons id ids ih =>
  intro σ M hm hag;obtain⟨σ1,Ce,CA,hm1,yp,hin1⟩:=zsb hm hag id;obtain⟨σ2,hle2,B3,hm2,yw,hin2⟩:=ih hm1 CA;refine⟨σ2,zP.le_trans Ce hle2,B3,hm2,yp.trans (by rw[zpq]at yw;exact yw),fun id' yW b L i row n cl hb hL hi hn=>?_⟩;rcases jB.1 yW with rfl|yW
  ·have e:=hin1 b L i row n cl hb hL hi hn;obtain⟨v,hv,_⟩:=hm.cell hb hL hi hn;have hes:L.esz=b.esz:=by
    obtain⟨pl,hpl,hbr,_⟩:=hm.blk id' b hb;rw[hL]at hpl;cases hpl;exact(hbr:BL σ j b L w).esz
   rw[hes]at hv;rw[hv]at e;exact⟨v,hle2 _ _ _ e,hv⟩
  ·obtain⟨b',hb',_,e2,e3,e4,_⟩:=zeu (id:=id) hb;have:=hin2 id' yW b' L i row n cl hb' (by rw[e4];exact hL) (by rw[e3];exact hi) hn
   rwa [e2]at this
theorem zq9{M0:Mem}{σ0:zP}{c c':Cl}{v:Value}(hm:MR own σ0 j M0 w)(hle:σ0.le σ)(hag:zM σ w)
  (hin:∀id∈slC c,∀(b:Blk) (L:Loc) (i:Nat) (row:List Cl) (n:Nat) (cl:Cl),M0[id]?=some (some b)->j id b.gen=some (.loc L)->b.rows[i]?=some row->row[n]?=some cl->∃v,σ L.blk (L.off+i*b.esz+n)=some v/\w.cell? ⟨L.blk,L.off+i*b.esz+n,none⟩=some v)
  (h:zdR M0 c=some c') (hv:VC σ0 j c v):VC σ j c' v:=by
 cases hv with
 |slice _ id g es off len cap pl a cc hj hl hc ha =>
  simp only[zdR]at h;split at h
  ·rename_i b hb0;obtain⟨hb,rfl⟩:=zaz hb0;split at h
   ·cases h
   ·rename_i u9;split at h
    ·rename_i Ap;cases h;have hlen:((b.rows.drop off).take len).length=len:=by simp;omega
     obtain⟨pl',Al,hbr,_⟩:=hm.blk id b hb;rw[hj]at Al;cases Al;by_cases hc0:cc=0
     ·subst hc0;have hl0:len=0:=by omega
      subst hl0;have e:(b.rows.drop off).take 0=[]:=by simp
      rw[e];have:=VC.jc (σ:=σ) j b.esz [] a 0 0 0 (fun _ _=>undef) (by simp) (.inl rfl) (by simp) (by simp) (by simp);simpa using this
     ·obtain⟨L,rfl,_,rfl,Du⟩:=ha hc0;have hbr:BL σ0 j b L w:=hbr;have hes:=hbr.esz;have get:∀(i:Nat) (row:List Cl),((b.rows.drop off).take len)[i]?=some row->b.rows[off+i]?=some row:=by
       intro i row hi;rw[kM]at hi;split at hi
       ·simpa using hi
       ·cases hi
      have key:∀(i:Nat) (row:List Cl) (n:Nat) (cl:Cl),((b.rows.drop off).take len)[i]?=some row->row[n]?=some cl->∃v,σ L.blk (L.off+(off+i)*b.esz+n)=some v/\VC σ zb1 cl v:=by
       intro i row n cl hi hn;obtain⟨v,h1,h2⟩:=hin id (by simp[slC]) b L (off+i) row n cl hb hj (get i row hi) hn;obtain⟨v',h3,_,h4⟩:=hm.cell hb hj (get i row hi) hn;rw[hes]at h3;rw[h3]at h2;cases h2;rw[if_neg (by simpa using u9)]at h4;exact⟨v,h1,VC.mono hle h4 (Inj.le_refl _)⟩
      have:=VC.jc (σ:=σ) j b.esz ((b.rows.drop off).take len) (some ⟨L.blk,L.off+off*L.esz,none⟩) cc L.blk (L.off+off*L.esz) (fun i n=>(σ L.blk (L.off+(off+i)*b.esz+n)).getD undef)
       (by rw[hlen];exact hl) (.inr rfl) (fun row hr=>hbr.len row (uk (qD hr))) (fun i row n cl hi hn=>by
        obtain⟨v,h1,_⟩:=key i row n cl hi hn;have e:L.off+off*L.esz+i*b.esz+n=L.off+(off+i)*b.esz+n:=by rw[hes,kW];omega
        rw[e,h1];rfl) (fun i row n cl hi hn=>by
        obtain⟨v,h1,h2⟩:=key i row n cl hi hn;simpa [h1]using h2)
      rw[hlen]at this;exact this
    ·cases h
  ·cases h
 |jd =>
  simp only[zdR,ji]at h;subst h;have:=VC.jc (σ:=σ) j 0 [] none 0 0 0 (fun _ _=>undef) (by simp) (.inl rfl) (by simp) (by simp) (by simp);simpa using this
 |bool=>simp only[zdR,ji]at h;subst h;exact .bool _ _
 |int=>simp only[zdR,ji]at h;subst h;exact .int _ _ _
 |str=>simp only[zdR,ji]at h;subst h;exact .str _ _
 |ptr _ id g i k L hL=>simp only[zdR,ji]at h;subst h;exact .ptr _ _ _ _ _ L hL
 |uR _ row k b o val h1 h2=>simp only[zdR,ji]at h;subst h;exact VC.mono hle (.uR _ row k b o val h1 h2) (Inj.le_refl _)
 |qS=>simp only[zdR,ji]at h;subst h;exact .qS _
 |jc _ esz rows a c b o val q1 q3 q4 q5 q6=>simp only[zdR,ji]at h;subst h;exact VC.mono hle (.jc _ esz rows a c b o val q1 q3 q4 q5 q6) (Inj.le_refl _)
 |fn _ f fi ca fi' ca' l1 l2 h1 h2=>simp only[zdR,ji]at h;subst h;exact VC.mono hle (.fn _ f fi ca fi' ca' l1 l2 h1 h2) (Inj.le_refl _)
 |vl=>simp only[zdR,ji]at h;subst h;exact .vl _
 |ye _ t c v q=>simp only[zdR,ji]at h;subst h;exact VC.mono hle (.ye _ t c v q) (Inj.le_refl _)
 |yd _ t cs vs l q=>simp only[zdR,ji]at h;subst h;exact VC.mono hle (.yd _ t cs vs l q) (Inj.le_refl _)
 |qy=>simp only[zdR,ji]at h;subst h;exact .qy _
 |yld _ id f sh l r h0=>simp only[zdR,ji]at h;subst h;exact .yld _ id f sh l r h0
end
end Go.Eng
namespace Go.Eng
open Go
variable[zb0]
section
variable{own:Nat->Prop}{σ:zP}{j:Inj}{M:Mem}{w:World}{E:Nat->Option AV}{a:Act}{P:Program}
def z4H(σ:zP)(j:Inj)(M0:Mem)(w:World)(ids:List Nat):Prop :=
 ∀id∈ids,∀(b:Blk) (L:Loc) (i:Nat) (row:List Cl) (n:Nat) (cl:Cl),M0[id]?=some (some b)->j id b.gen=some (.loc L)->b.rows[i]?=some row->row[n]?=some cl ->
  ∃v,σ L.blk (L.off+i*b.esz+n)=some v/\w.cell? ⟨L.blk,L.off+i*b.esz+n,none⟩=some v
theorem z4H.sub{M0:Mem}{ids ids':List Nat}(h:z4H σ j M0 w ids)(hs:∀x∈ids',x∈ids):z4H σ j M0 w ids':=fun id hid=>h id (hs id hid)
theorem z4H.left{M0:Mem}{a b:List Nat}(h:z4H σ j M0 w (a++b)):z4H σ j M0 w a:=h.sub fun _ hx=>jt.2 (.inl hx)
theorem z4H.right{M0:Mem}{a b:List Nat}(h:z4H σ j M0 w (a++b)):z4H σ j M0 w b:=h.sub fun _ hx=>jt.2 (.inr hx)
theorem ztX(ids:List Nat):∀{M:Mem} {k:Nat} {b':Blk},(zbg M ids)[k]?=some (some b')->∃b,M[k]?=some (some b)/\b'.box=b.box/\b'.esz=b.esz/\b'.rows=b.rows/\b'.gen=b.gen:=by
 induction ids with
 |nil=>intro M k b' h;exact⟨b',h,rfl,rfl,rfl,rfl⟩
 |cons id ids ih =>
  intro M k b' h;obtain⟨b1,h1,e1,e2,e3,e4⟩:=ih (M:=zX M id) h;obtain⟨b0,h0⟩:=zhV h1;obtain⟨b2,h2,q1,q2,q3,q4,_⟩:=zeu (id:=id) h0;rw[h1]at h2;cases h2;exact⟨b0,h0,e1.trans q1,e2.trans q2,e3.trans q3,e4.trans q4⟩
theorem zkB{M0:Mem}{σ0:zP}(hm:MR own σ0 j M0 w)(hle:σ0.le σ)(hag:zM σ w):∀{cs cs':List Cl} {vs:List Value},z4H σ j M0 w (cs.flatMap slC)->yK M0 cs=some cs'->VCs σ0 j cs vs->VCs σ j cs' vs
 |[],cs',vs,_,h,hv=>by simp only[yK,ji]at h;subst h;have:=hv.yl;subst this;exact VCs.nil
 |c::cs,cs',vs,hf,h,hv=>by
  simp only[yK]at h;split at h
  ·rename_i y ys hy hys;cases h;obtain⟨v,vs',rfl,h1,h2⟩:=hv.qM;rw[jY]at hf;exact VCs.cons (zq9 hm hle hag hf.left hy h1) (zkB hm hle hag hf.right hys h2)
  ·cases h
theorem zq8{M0:Mem}{σ0:zP}(hm:MR own σ0 j M0 w)(hle:σ0.le σ)(hag:zM σ w){x y:WV}{v:Value}(hf:z4H σ j M0 w x.sls)(h:zn7 M0 x=some y)(hv:WVR σ0 j x v):WVR σ j y v:=by
 cases x with
 |c x =>
  simp only[zn7,jb]at h;obtain⟨c,hc,rfl⟩:=h;exact zq9 hm hle hag (hf.sub (by simp[WV.sls,WV.cells])) hc hv
 |a cs =>
  simp only[zn7,jb]at h;obtain⟨c,hc,rfl⟩:=h;obtain⟨arr,rfl,hv⟩:=hv;exact⟨arr,rfl,zkB hm hle hag hf hc hv⟩
theorem zl3{M0:Mem}{σ0:zP}(hm:MR own σ0 j M0 w)(hle:σ0.le σ)(hag:zM σ w):∀{cs cs':List WV} {vs:List Value},z4H σ j M0 w (cs.flatMap WV.sls)->zla M0 cs=some cs'->zac σ0 j cs vs->zac σ j cs' vs
 |[],cs',vs,_,h,hv=>by simp only[zla,ji]at h;subst h;have:=hv.yl;subst this;exact zac.nil
 |c::cs,cs',vs,hf,h,hv=>by
  simp only[zla]at h;split at h
  ·rename_i y ys hy hys;cases h;obtain⟨v,vs',rfl,h1,h2⟩:=hv.qM;rw[jY]at hf;exact zac.cons (zq8 hm hle hag hf.left hy h1) (zl3 hm hle hag hf.right hys h2)
  ·cases h
theorem zwX{M0:Mem}{σ0:zP}(hm:MR own σ0 j M0 w)(hle:σ0.le σ)(hag:zM σ w){x y:AV}{v:Value}(hf:z4H σ j M0 w x.sls)(h:zoS M0 x=some y)(hv:AVR σ0 j x v):AVR σ j y v:=by
 cases x with
 |w x =>
  simp only[zoS,jb]at h;obtain⟨c,hc,rfl⟩:=h;exact zq8 hm hle hag hf hc hv
 |t cs =>
  simp only[zoS,jb]at h;obtain⟨c,hc,rfl⟩:=h;obtain⟨arr,rfl,hv⟩:=hv;exact⟨arr,rfl,zl3 hm hle hag hf hc hv⟩
 |u=>simp only[zoS,ji]at h;subst h;exact hv
theorem VCs.yv{cs:List Cl}{vs:List Value}(hn:cs.all zcl=true)(h:VCs σ j cs vs):VCs σ zb1 cs vs :=
 ⟨h.1,fun n c v hc hv=>VC.yv (jA.1 hn c (zat hc)) (h.2 n c v hc hv)⟩
theorem zkh{id g i k:Nat}{cs:List Cl}{vs:List Value}{M':Mem}{L:Loc}(h:storeAt M id g i k cs=some M')(hj:j id g=some (.loc L))
  (hv:VCs σ (if zfJ M id g then j else zb1) cs vs) (hag:zM σ w) (hm:MR own σ j M w) :
  ∃w',(storeCells ⟨L.blk,L.off+i*L.esz+k,none⟩ vs).run P w=.ok () w'/\zM σ w'/\MR own σ j M' w'/\za2 own M.length σ j M w σ j M' w':=by
 unfold storeAt at h;split at h
 ·rename_i b hb0;have hbx:zfJ M id g=b.box:=by simp[zfJ,hb0]
  obtain⟨hb,rfl⟩:=zaz hb0;split at h
  ·cases h
  ·rename_i hfz;split at h
   ·rename_i row qB;split at h
    ·rename_i Ay hsp;cases h;exact zuF hm hag hb hj (by simpa using hfz) qB hsp (by rw[<-hbx];exact hv)
    ·cases h
   ·cases h
 ·cases h
theorem zpj{t:TypeId}{n:Nat}{b o:Nat}{vx:Value}{w':World}(hs:zbL P t=some n)(hn:vx.cells.size=n)
  (h:(storeCells ⟨b,o,none⟩ vx.cells.toList).run P w=.ok () w'):(Instr.storeAt t (.pointer (some ⟨b,o,none⟩)) vx).run P w=.ok () w':=by
 simp[Instr.storeAt,Instr.sureAddr,storeVar,zaJ hs,hn,h]
theorem zwc{t:TypeId}{n:Nat}{p:Cl}{x:WV}{vp vx:Value}{av:AV}{M':Mem}{fp:FP}(hs:zbL P t=some n)(h:zhT M n p x=some (av,M',fp))(hp:VC σ j p vp)(hx:WVR σ j x vx)(hag:zM σ w)(hm:MR own σ j M w) :
  av=.u/\∃w' σ',(Instr.storeAt t vp vx).run P w=.ok () w'/\zM σ' w'/\MR own σ' j M' w'/\za2 own M.length σ j M w σ' j M' w':=by
 unfold zhT at h;split at h
 ·rename_i id g i k;cases hp with
  |ptr _ _ _ _ _ L hL =>
   split at h
   ·rename_i hn;have hn':vx.cells.size=n:=by rw[hx.Bx,hn]
    split at h
    ·rename_i u9;simp only[jb]at h;obtain⟨M1,hM1,he⟩:=h;cases he;obtain⟨w',h1,h2,h3,h4⟩:=zkh (P:=P) hM1 hL (by rw[u9];simpa using hx.cells) hag hm;exact⟨rfl,w',σ,zpj hs hn' h1,h2,h3,h4⟩
    ·rename_i u9;split at h
     ·rename_i cs hcs;split at h
      ·rename_i hno;simp only[jb]at h;obtain⟨M1,hM1,he⟩:=h;cases he;obtain⟨σ1,q1,q2,q3,q4,q5⟩:=zhe x.sls hm hag;have v5:=zkB hm q1 q2 (cs:=x.cells) q5 hcs hx.cells;have hbox':zfJ (zbg M x.sls) id g=true->False:=by
        intro hb;unfold zfJ at hb u9;cases hl:look (zbg M x.sls) id g with
        |none=>rw[hl]at hb;cases hb
        |some b =>
         rw[hl]at hb;obtain⟨hb1,hg⟩:=zaz hl;obtain⟨b',hb',hbx',_,_,hg'⟩:=ztX _ hb1;simp[look,hb',hg,hg',<-hbx',hb]at u9
       obtain⟨w',h1,h2,h3,h4⟩:=zkh (P:=P) hM1 hL (by
        rw[if_neg (by simpa using hbox')];exact v5.yv hno) q2 q3
       exact⟨rfl,w',σ1,zpj hs hn' h1,h2,h3,q4.trans (by rw[zgi]at h4;exact h4)⟩
      ·cases h
     ·cases h
   ·cases h
 ·cases h
theorem zo9(off:Nat):∀(l:List Value) (k:Nat) (cells:Array Value),off+k+l.length<=cells.size ->
  ((l.zipIdx k).foldl (fun(cs:Array Value) x=>cs.setIfInBounds (off+x.2) x.1) cells).size=cells.size /\
  ∀p,((l.zipIdx k).foldl (fun(cs:Array Value) x=>cs.setIfInBounds (off+x.2) x.1) cells)[p]?=if off+k<=p/\p<off+k+l.length then l[p-(off+k)]? else cells[p]?
 |[],k,cells,h=>⟨by simp,fun p=>by simp;intro h1 h2;omega⟩
 |v::l,k,cells,h=>by
  simp only[List.zipIdx_cons,jT];obtain⟨h1,h2⟩:=zo9 off l (k+1) (cells.setIfInBounds (off+k) v) (by simp at h ⊢;omega);refine⟨by rw[h1];simp,fun p=>?_⟩;rw[h2];simp only[jm]at h ⊢;by_cases hp:p=off+k
  ·subst hp;rw[if_neg (by omega),if_pos (by omega)];simp[yk];omega
  ·by_cases hp2:off+(k+1)<=p/\p<off+(k+1)+l.length
   ·rw[if_pos hp2,if_pos (by omega)];obtain⟨q,rfl⟩:∃q,p=off+(k+1)+q:=⟨p-(off+(k+1)),by omega⟩;have e1:off+(k+1)+q-(off+(k+1))=q:=by omega
    have e2:off+(k+1)+q-(off+k)=q+1:=by omega
    rw[e1,e2];simp
   ·rw[if_neg hp2,if_neg (by omega)];simp[qK hp]
theorem zvn(off:Nat)(v:Value)(cells:Array Value)(h:off+v.cells.size<=cells.size) :
  (v.cells.zipIdx.foldl (fun cs (c,j)=>cs.setIfInBounds (off+j) c) cells).size=cells.size /\
  ∀p,(v.cells.zipIdx.foldl (fun cs (c,j)=>cs.setIfInBounds (off+j) c) cells)[p]?=if off<=p/\p<off+v.cells.size then v.cells[p-off]? else cells[p]?:=by
 have:=zo9 off v.cells.toList 0 cells (by simpa using h);have e:v.cells.zipIdx.foldl (fun(cs:Array Value) (x:Value×Nat)=>cs.setIfInBounds (off+x.2) x.1) cells=(v.cells.toList.zipIdx 0).foldl (fun(cs:Array Value) x=>cs.setIfInBounds (off+x.2) x.1) cells:=by
  rw[<-Array.foldl_toList];simp
 have e':(v.cells.zipIdx.foldl (fun cs (c,j)=>cs.setIfInBounds (off+j) c) cells)=v.cells.zipIdx.foldl (fun(cs:Array Value) (x:Value×Nat)=>cs.setIfInBounds (off+x.2) x.1) cells:=rfl;rw[e',e];refine⟨this.1,fun p=>?_⟩;rw[this.2 p];simp
theorem zin(hG:GK σ)(hE:zcs σ j E a.tmps){place:Nat->Option (Nat×Nat)}:∀{parts:List (Nat×Operand)} {cps:List (Nat×Nat×Opd)} {cs cs':List Cl} {cells:Array Value},ziZ place parts=some cps->zdv E cs cps=some cs'->VCs σ j cs cells.toList ->
  ∃yB,Instr.fill place cells (parts.map fun x=>(x.1,a.eval x.2))=some yB/\VCs σ j cs' yB.toList
 |[],cps,cs,cs',cells,hp,h,hv=>by
  simp only[ziZ,ji]at hp;subst hp;simp only[zdv,ji]at h;subst h;exact⟨cells,rfl,hv⟩
 |(i,o)::parts,cps,cs,cs',cells,hp,h,hv=>by
  simp only[ziZ]at hp;split at hp
  ·rename_i p x l h1 h2 h3;cases hp;simp only[zdv]at h;split at h
   ·rename_i v hvv;split at h
    ·rename_i cs1 hf;have hr:=zWl hG hE h2 hvv;unfold zt8 at hf;split at hf
     ·rename_i hsz;obtain⟨hk,hlen,u0⟩:=zng hf;have hcl:cs.length=cells.size:=by simpa using hv.1
      have hvs:=hr.Bx;have Ap:p.1+(a.eval o).cells.size<=cells.size:=by rw[hvs,<-hcl];exact hk
      obtain⟨hs1,hs2⟩:=zvn p.1 (a.eval o) cells Ap;obtain⟨yB,hc',hv'⟩:=zin hG hE (cells:=(a.eval o).cells.zipIdx.foldl (fun cs (c,j)=>cs.setIfInBounds (p.1+j) c) cells) h3 h (VCs.Df (by simp only[Array.length_toList];rw[hs1,hlen,hcl]) (fun q c hq=>by
       rcases u0 q c hq with⟨g1,g2,g3⟩ |⟨g1,g3⟩
       ·obtain⟨u,hu,hur⟩:=hr.cells.get g3;refine⟨u,?_,hur⟩;rw[vV,hs2,if_pos (by rw[hvs];omega)];simpa using hu
       ·obtain⟨u,hu,hur⟩:=hv.get g3;refine⟨u,?_,hur⟩;rw[vV,hs2,if_neg (by rw[hvs];omega)];simpa using hu))
      refine⟨yB,?_,hv'⟩;simp only[kV,Instr.fill,h1];rw[if_neg (by simp[hvs,hsz];rw[<-hsz,<-hvs];omega)];exact hc'
     ·cases hf
    ·cases h
   ·cases h
  ·cases hp
theorem zew{t:TypeId}{zs:List Cl}(h:zhL P t=some zs):∃i z,P.info? t=some i/\i.zero=some z/\zpz z.cells.toList=some zs:=by
 unfold zhL at h;split at h
 ·rename_i i hi;split at h
  ·rename_i z hz;exact⟨i,z,hi,hz,h⟩
  ·cases h
 ·cases h
theorem zcJ{t:TypeId}{i:TypeInfo}{z:Value}(hi:P.info? t=some i)(hz:i.zero=some z):(zeroValue t).run P w=.ok z w:=by
 simp[zeroValue,typeInfo,hi,hz]
theorem zqv:∀{fs:List Field} {ps:List (Nat×Nat)},zmD P fs=some ps->(fs.mapM (fun f=>do pure (f.offset,<-sizeOf f.type)):Sem (List (Nat×Nat))).run P w=.ok ps w
 |[],ps,h=>by simp only[zmD,ji]at h;subst h;simp
 |f::fs,ps,h=>by
  simp only[zmD]at h;split at h
  ·rename_i n l hn hl;cases h;simp only[yH,Sem.run_bind,zaJ hn,Result.andThen_ok,Sem.run_pure,zqv hl]
  ·cases h
theorem zoj(hG:GK σ)(hE:zcs σ j E a.tmps){t:TypeId}{fs:Array Field}{z:List Cl}{ps:List (Nat×Nat)}{parts:Array (Nat×Operand)}{cps:List (Nat×Nat×Opd)}{cs:List Cl}(ht:P.underlying t=some (.struct fs))(hz:zhL P t=some z)
  (hps:zmD P fs.toList=some ps) (hp:ziZ (ps[·]?) parts.toList=some cps) (h:zdv E z cps=some cs) :
  ∃arr:Array Value,(Instr.build t (parts.map fun(i,x)=>(i,a.eval x))).run P w=.ok (.agg arr) w/\VCs σ j cs arr.toList:=by
 obtain⟨i,zv,hi,hzv,hzc⟩:=zew hz;obtain⟨yB,hc',hv'⟩:=zin hG hE (cells:=zv.cells) hp h (zdu hzc);refine⟨yB,?_,hv'⟩;have hm:(fs.mapM (fun f=>do pure (f.offset,<-sizeOf f.type)):Sem (Array (Nat×Nat))).run P w=.ok ps.toArray w:=by
  rw[yP];simp only[Sem.run_map,zqv hps,Result.andThen_ok]
 have e:(parts.map fun(x:Nat×Operand)=>(x.1,a.eval x.2)).toList=parts.toList.map fun x=>(x.1,a.eval x.2):=by simp
 have hc'':Instr.fill (fun x=>ps.toArray[x]?) zv.cells ((parts.map fun(x:Nat×Operand)=>(x.1,a.eval x.2)).toList)=some yB:=by
  rw[e];simpa using hc'
 simp only[Instr.build,Sem.run_bind,zcJ hi hzv,Result.andThen_ok,run_underlying ht,hm];simp only[hc''];rfl
theorem zo5(hG:GK σ)(hE:zcs σ j E a.tmps){t e len n:Nat}{z:List Cl}{parts:Array (Nat×Operand)}{cps:List (Nat×Nat×Opd)}{cs:List Cl}(ht:P.underlying t=some (.array len e))(hz:zhL P t=some z)
  (hn:zbL P e=some n) (hp:ziZ (fun i=>some (i*n,n)) parts.toList=some cps) (h:zdv E z cps=some cs) :
  ∃arr:Array Value,(Instr.build t (parts.map fun(i,x)=>(i,a.eval x))).run P w=.ok (.agg arr) w/\VCs σ j cs arr.toList:=by
 obtain⟨i,zv,hi,hzv,hzc⟩:=zew hz;obtain⟨yB,hc',hv'⟩:=zin hG hE (cells:=zv.cells) hp h (zdu hzc);refine⟨yB,?_,hv'⟩;have e:(parts.map fun(x:Nat×Operand)=>(x.1,a.eval x.2)).toList=parts.toList.map fun x=>(x.1,a.eval x.2):=by simp
 rw[<-e]at hc';simp only[Instr.build,Sem.run_bind,zcJ hi hzv,Result.andThen_ok,run_underlying ht,zaJ hn];simp only[hc'];rfl
def zpF(σ:zP)(esz:Nat)(rows:List (List Cl))(C:Array Value):Prop :=
 C.size=rows.length*esz/\(∀row∈rows,row.length=esz)/\∀(i:Nat) (row:List Cl) (n:Nat) (cl:Cl),rows[i]?=some row->row[n]?=some cl->∃v,C[i*esz+n]?=some v/\VC σ zb1 cl v
theorem zqy{zs:List Cl}{z:Array Value}(hz:VCs σ zb1 zs z.toList)(qI:0<zs.length)(n len:Nat)(hn:n=len*zs.length):zpF σ zs.length (List.replicate len zs) ((Array.range n).map (z[· % z.size]!)):=by
 subst hn;have hsz:z.size=zs.length:=by simpa using hz.1.symm
 refine⟨by simp,fun row hr=>by rw[(List.mem_replicate.1 hr).2],fun i row k cl hi hk=>?_⟩;have hil:=zC hi;simp only[uS]at hil;rw[vE,if_pos hil]at hi;cases hi;have hkl:=zC hk;have qB:=zjf (esz:=zs.length) hil;obtain⟨v,hv,hvc⟩:=hz.get hk;refine⟨v,?_,hvc⟩;have hmod:(i*zs.length+k) % z.size=k:=by rw[hsz,yq,yF,Nat.mod_eq_of_lt hkl]
 have hb:k<z.size:=by omega
 simp only[Array.getElem?_map,Array.getElem?_range];rw[if_pos (by omega)];simp only[uJ,hmod];rw[getElem!_pos z k hb];have:z[k]?=some v:=by simpa using hv
 rw[uh hb]at this;exact this
theorem zm9{M0:Mem}{σ0:zP}{esz:Nat}(hm:MR own σ0 j M0 w)(hle:σ0.le σ)(hag:zM σ w)(hG:GK σ0)(hE:zcs σ0 j E a.tmps):∀{parts:List (Nat×Operand)} {cps:List (Nat×Opd)} {rows yQ:List (List Cl)} {C:Array Value},
  z4H σ j M0 w (zcf E cps)->zgZ parts=some cps->zdS E M0 esz rows cps=some yQ->zpF σ esz rows C ->
  ∃C',Instr.fill (fun i=>some (i*esz,esz)) C (parts.map fun x=>(x.1,a.eval x.2))=some C'/\zpF σ esz yQ C'/\yQ.length=rows.length
 |[],cps,rows,yQ,C,_,hp,h,hr=>by
  simp only[zgZ,ji]at hp;subst hp;simp only[zdS,ji]at h;subst h;exact⟨C,rfl,hr,rfl⟩
 |(i,o)::parts,cps,rows,yQ,C,hf,hp,h,hr=>by
  simp only[zgZ]at hp;split at hp
  ·rename_i x l h1 h2;cases hp;simp only[zdS]at h;split at h
   ·rename_i v hv;have hf':z4H σ j M0 w (v.sls++zcf E l):=by
     simpa [zcf,hv]using hf
    split at h
    ·rename_i cs hcs;split at h
     ·rename_i Ai;simp only[jh,decide_eq_true_eq]at Ai;obtain⟨⟨hno,hlen⟩,hi⟩:=Ai;have hvr:=zWl hG hE h1 hv;have v5:=(zkB hm hle hag (cs:=v.cells) hf'.left hcs hvr.cells).yv hno;have hsz:(a.eval o).cells.size=esz:=by rw[<-hlen];simpa using v5.1.symm
      have hin:=zjf (esz:=esz) hi;have hCs:=hr.1;obtain⟨hs1,hs2⟩:=zvn (i*esz) (a.eval o) C (by rw[hsz,hCs];exact hin);obtain⟨C',hC',hr',hl'⟩:=zm9 hm hle hag hG hE (rows:=rows.set i cs) (C:=(a.eval o).cells.zipIdx.foldl (fun cs (c,j)=>cs.setIfInBounds (i*esz+j) c) C) hf'.right h2 h
       ⟨by rw[hs1];simpa using hCs,fun row qB=>by
        rcases qc qB with q|q
        ·exact hr.2.1 row q
        ·rw[q];exact hlen,fun k row n cl hk hn=>by
        rw[uU]at hk;rw[hs2];by_cases hki:i=k
        ·subst hki;rw[if_pos rfl,if_pos hi]at hk;cases hk;have hnl:=zC hn;obtain⟨u,hu,hur⟩:=v5.get hn;refine⟨u,?_,hur⟩;rw[if_pos (by rw[hsz];omega)];have e:i*esz+n-i*esz=n:=by omega
         rw[e];simpa using hu
        ·rw[if_neg hki]at hk;obtain⟨u,hu,hur⟩:=hr.2.2 k row n cl hk hn;have hnl:=zC hn;have hrl:=hr.2.1 row (zat hk);refine⟨u,?_,hur⟩;rw[if_neg]
         ·exact hu
         ·rintro⟨q1,q2⟩;rw[hsz]at q2;exact znl (esz:=esz) (i:=i) (i':=k) (n:=k*esz+n-i*esz) (n':=n) hki (by omega) (by omega) (by omega)⟩
      refine⟨C',?_,hr',by simpa using hl'⟩;simp only[kV,Instr.fill];rw[if_neg (by simp[hsz];rw[hCs];exact hin)];exact hC'
     ·cases h
    ·cases h
   ·cases h
  ·cases hp
theorem zz3(hE:zcs σ j E a.tmps){t e len n id:Nat}{z:List Cl}{parts:Array (Nat×Operand)}{cps:List (Nat×Opd)}{rows:List (List Cl)}{M':Mem}(ht:P.underlying t=some (.slice e))(hn:zbL P e=some n)(hz:zhL P e=some z)
  (hlim:len*n<=16777216) (hzn:z.length=n) (hzi:z.all zcl=true) (hp:zgZ parts.toList=some cps) (h:zdS E M n (List.replicate len z) cps=some rows) (qI:0<n)
  (hat:zg (zbg M (zcf E cps)) id { box:=false,esz:=n,rows,gen:=rows.length,fz:=false,ver:=rows.length }=some M') (hag:zM σ w) (hm:MR own σ j M w) (k8:∀b,w.heap.size<=b->own b) :
  za0 own σ j M w (.w (.c (.slice id rows.length n 0 rows.length none))) M' ((Instr.buildSlice t len (parts.map fun(i,x)=>(i,a.eval x))).run P w):=by
 obtain⟨i,zv,hi,hzv,hzc⟩:=zew hz;obtain⟨σ1,q1,q2,q3,q4,q5⟩:=zhe (zcf E cps) hm hag;have hzr:VCs σ1 zb1 z zv.cells.toList:=(zdu (σ:=σ1) (j:=j) hzc).yv hzi;have hzs:zv.cells.size=n:=by rw[<-hzn];simpa using hzr.1.symm
 subst hzn;obtain⟨C',hC',hr',hl'⟩:=zm9 (σ:=σ1) hm q1 q2 hag.qw hE q5 hp h (zqy hzr qI (len*z.length) len rfl);simp only[uS]at hl';obtain⟨yy,hlt,rfl⟩:=za1 hat;obtain⟨_,yA,hm',hst⟩:=zmH (b':={ box:=false,esz:=z.length,rows,gen:=rows.length,fz:=false,ver:=rows.length }) (C:=C') (T:=e) (w':=w.alloc (.cells C' e (0,0))) q3 q2 k8 hlt
  (fun b hb=>by rw[yy]at hb;cases hb) rfl (zd9.Ax rfl rfl rfl) qI hr'.2.1 (Nat.le_of_eq hr'.1.symm) (fun k row m cl hk hm=>by simpa using hr'.2.2 k row m cl hk hm)
 refine⟨.slice (some ⟨w.heap.size,0,none⟩) len len,_,σ1,_,?_,?_,yA,hm',q4.trans (by rw[zgi]at hst;exact hst)⟩
 ·have ep:(parts.map fun(x:Nat×Operand)=>(x.1,a.eval x.2)).toList=parts.toList.map fun x=>(x.1,a.eval x.2):=by simp
  rw[<-ep]at hC';simp only[Instr.buildSlice,Sem.run_bind,run_underlying ht,Result.andThen_ok,zaJ hn];rw[if_neg (by omega)];by_cases h0:len*z.length=0
  ·have hlen0:len=0:=by rcases Nat.mul_eq_zero.1 h0 with h |h<;>omega
   subst hlen0;have eq0:((Array.range (0*z.length)).map fun x=>(#[]:Array Value)[x % (#[]:Array Value).size]!)=((Array.range (0*z.length)).map fun x=>zv.cells[x % zv.cells.size]!):=by simp
   simp only[h0,if_true];simp only[Nat.zero_mul]at hC';simp only[show Array.range 0 = #[] from rfl,Array.map_empty]at hC' ⊢;simp only[hC'];simp[newRow]
  ·simp only[h0,if_false,Sem.run_bind,zcJ hi hzv,Result.andThen_ok,Sem.run_pure];simp only[hC'];simp[newRow]
 ·have:=VC.slice (σ:=σ1) (j.put id rows.length (.loc ⟨w.heap.size,0,z.length,C'.size⟩)) id rows.length z.length 0 rows.length none _ (some ⟨w.heap.size,0,none⟩) len (Inj.vW _ _ _ _) (by omega) (by intro c' hc';cases hc')
   (fun _=>⟨_,rfl,rfl,by simp,by simp[hr'.1,hl']⟩)
  show VC _ _ _ _;rw[hl']at this ⊢;exact this
end
end Go.Eng
namespace Go.Eng
open Go
variable[zb0]
section
variable{own:Nat->Prop}{σ:zP}{j:Inj}{M:Mem}{w:World}{E:Nat->Option AV}{a:Act}{P:Program}
theorem zv4{l:Int}(h0:0<=l)(h:l<=140737488355328):IntKind.i64.wrap l=l:=by
 simp only[IntKind.wrap,IntKind.bits,IntKind.signed,kq];have e:l % (2 ^ 64:Int)=l:=Int.emod_eq_of_lt h0 (by omega);simp only[e];rw[if_neg];simp;omega
theorem ztU{t e n b id:Nat}{z:List Cl}{l c:Int}{k k':IntKind}{M':Mem}(ht:P.underlying t=some (.slice e))(hn:zbL P e=some n)(hb:zmi P e=some b)(hz:zhL P e=some z)(hbp:0<b)
  (h0:0<=l) (hlc:l=c) (jZ:roomy l.toNat b=true) (hzn:z.length=n) (qI:0<n) (hzi:z.all zcl=true)
  (hat:zg M id { box:=false,esz:=n,rows:=List.replicate l.toNat z,gen:=l.toNat,fz:=false,ver:=l.toNat }=some M') (hag:zM σ w) (hm:MR own σ j M w) (k8:∀b,w.heap.size<=b->own b) :
  za0 own σ j M w (.w (.c (.slice id l.toNat n 0 l.toNat none))) M' ((Instr.makeSlice t (.int k l) (.int k' c)).run P w):=by
 subst hlc;obtain⟨i,zv,hi,hzv,hzc⟩:=zew hz;have hzr:VCs σ zb1 z zv.cells.toList:=(zdu (σ:=σ) (j:=j) hzc).yv hzi;have hzs:zv.cells.size=n:=by rw[<-hzn];simpa using hzr.1.symm
 obtain⟨yy,hlt,rfl⟩:=za1 hat;have hib:i.bytes=b:=by simpa [zmi,hi]using hb
 have hr0:l.toNat*b<=140737488355328:=by simpa [roomy]using jZ
 have hl:l<=140737488355328:=by
  have:=qk l.toNat hbp;omega
 have hw:=zv4 h0 hl;subst hzn;have hr':=zqy (σ:=σ) hzr qI (l.toNat*z.length) l.toNat rfl;generalize hC:((Array.range (l.toNat*z.length)).map fun x=>zv.cells[x % zv.cells.size]!)=C' at hr';obtain⟨_,yA,hm',hst⟩:=zmH (b':={ box:=false,esz:=z.length,rows:=List.replicate l.toNat z,gen:=l.toNat,fz:=false,ver:=l.toNat }) (C:=C') (T:=e) (w':=w.alloc (.cells C' e (0,0))) hm hag k8 hlt
  (fun b hb=>by rw[yy]at hb;cases hb) rfl (zd9.Ax rfl rfl rfl) qI hr'.2.1 (Nat.le_of_eq hr'.1.symm) (fun k row m cl hk hm=>by simpa using hr'.2.2 k row m cl hk hm)
 refine⟨.slice (some ⟨w.heap.size,0,none⟩) l.toNat l.toNat,_,σ,_,?_,?_,yA,hm',hst⟩
 ·have hbig:¬((281474976710656:Int)<(i.bytes:Int)*l):=by
   rw[hib];have e:(b:Int)*l=((l.toNat*b:Nat):Int):=by
    rw[vu,Int.toNat_of_nonneg h0,Int.mul_comm]
   rw[e];omega
  have Cw:¬l<0:=by omega
  simp only[Instr.makeSlice,asInt,asIntOf,Sem.run_bind,run_underlying ht,Result.andThen_ok,Sem.run_pure,ztA hi,hw];by_cases hl0:l.toNat*z.length=0
  ·have hC0:C' = #[]:=by rw[<-hC,hl0];simp
   subst hC0;have hr0':Array.range 0=(#[]:Array Nat):=rfl;simp[Cw,hbig,zaJ hn,hl0,newRow,hr0']
  ·rw[<-hzs]at hl0 hC;simp[Cw,hbig,zaJ hn,<-hzs,hl0,newRow,zcJ hi hzv,hC]
 ·have:=VC.slice (σ:=σ) (j.put id l.toNat (.loc ⟨w.heap.size,0,z.length,C'.size⟩)) id l.toNat z.length 0 l.toNat none _ (some ⟨w.heap.size,0,none⟩) l.toNat (Inj.vW _ _ _ _) (jq _) (by intro c' hc';cases hc')
   (fun _=>⟨_,rfl,rfl,by simp,by simp[hr'.1]⟩)
  exact this
theorem zn9{esz:Nat}{rows:List (List Cl)}{f:Nat->Option Value}(hlen:∀row∈rows,row.length=esz)
  (h:∀(i:Nat) (row:List Cl) (n:Nat) (cl:Cl),rows[i]?=some row->row[n]?=some cl->∃v,f (i*esz+n)=some v/\VC σ zb1 cl v) :
  ∃news:List Value,zpF σ esz rows news.toArray/\∀(k:Nat) (u:Value),news[k]?=some u->f k=some u:=by
 have key:∀k,k<rows.length*esz->∃v,f k=some v:=by
  intro k hk;have qI:0<esz:=by
   rcases yD esz with h|h
   ·subst h;simp at hk
   ·exact h
  have hi:k / esz<rows.length:=(vT qI).2 hk;have hr:=jv hi;have hn:k % esz<(rows[k / esz]).length:=by rw[hlen _ (ja hi)];exact qW _ qI
  obtain⟨v,hv,_⟩:=h _ _ _ _ hr (jv hn);have e:k / esz*esz+k % esz=k:=by rw[qA];exact vt k esz
  rw[e]at hv;exact⟨v,hv⟩
 refine⟨(List.range (rows.length*esz)).map fun k=>(f k).getD undef,⟨by simp,hlen,fun i row n cl hi hn=>?_⟩,fun k u hu=>?_⟩
 ·obtain⟨v,hv,hvc⟩:=h i row n cl hi hn;have h1:=zjf (esz:=esz) (zC hi);have h2:=hlen row (zat hi);have h3:=zC hn;refine⟨v,?_,hvc⟩;have:i*esz+n<rows.length*esz:=by omega
  simp[this,hv]
 ·rw[qG]at hu;rcases kD k (rows.length*esz)with hk|hk
  ·simp[hk]at hu;obtain⟨v,hv⟩:=key k hk;rw[hv]at hu;simp at hu;rw[hv,hu]
  ·simp[hk]at hu
theorem zmC{esz:Nat}:zpF σ esz [] #[]:=⟨by simp,by simp,by simp⟩
theorem zrI{id:Nat}{b:Blk}{L:Loc}{off len:Nat}(hm:MR own σ j M w)(hb:M[id]?=some (some b))(hL:j id b.gen=some (.loc L))(u9:b.box=false)(Ap:off+len<=b.rows.length) :
  ∃news:List Value,zpF σ b.esz ((b.rows.drop off).take len) news.toArray/\∀(k:Nat) (u:Value),news[k]?=some u->w.cell? ⟨L.blk,L.off+off*L.esz+k,none⟩=some u:=by
 obtain⟨pl,hpl,hbr,_⟩:=hm.blk id b hb;rw[hL]at hpl;cases hpl;have hbr:BL σ j b L w:=hbr;refine zn9 (fun row hr=>hbr.len row (uk (qD hr))) (f:=fun k=>w.cell? ⟨L.blk,L.off+off*L.esz+k,none⟩) (fun i row n cl hi hn=>?_);have hi':b.rows[off+i]?=some row:=by
  rw[kM]at hi;split at hi
  ·simpa using hi
  ·cases hi
 obtain⟨v,h1,_,h2⟩:=hm.cell hb hL hi' hn;rw[if_neg (by simp[u9])]at h2;refine⟨v,?_,h2⟩;rw[<-h1,hbr.esz,kW]
 congr 2
 omega
theorem zi7{esz:Nat}{x:Cl}{v:Value}{ys:List (List Cl)}(h:zeF M esz x=some ys)(hv:VC σ j x v)(hag:zM σ w)(hm:MR own σ j M w) :
  ∃(ad:Option Addr) (c:Nat) (news:List Value),v=.slice ad ys.length c/\zpF σ esz ys news.toArray/\(ys≠[]->∃b o,ad=some ⟨b,o,none⟩/\∀(k:Nat) (u:Value),news[k]?=some u->w.cell? ⟨b,o+k,none⟩=some u):=by
 unfold zeF at h;split at h
 ·cases h;cases hv;exact⟨none,0,[],rfl,zmC,fun h=>absurd rfl h⟩
 ·rename_i rows;split at h
  ·rename_i hc;cases h;cases hv with
   |jc _ e _ ad c b o val hl ha hr h1 h2 =>
    by_cases he:ys=[]
    ·subst he;exact⟨ad,c,[],rfl,zmC,fun h=>absurd rfl h⟩
    ·have hee:e=esz:=by
      cases ys with
      |nil=>exact absurd rfl he
      |cons y ys =>
       rw[<-hr y (ju ..)];simp only[uQ,jh,beq_iff_eq]at hc;exact hc.1
     subst hee;have ha':ad=some ⟨b,o,none⟩:=ha.resolve_left he;subst ha';obtain⟨news,hn1,hn2⟩:=zn9 hr (f:=fun k=>σ b (o+k)) (fun i row n cl hi hn=>⟨val i n,by rw[<-h1 i row n cl hi hn,kU],h2 i row n cl hi hn⟩);exact⟨_,c,news,rfl,hn1,fun _=>⟨b,o,rfl,fun k u hu=>hag.cells _ _ _ (hn2 k u hu)⟩⟩
  ·cases h
 ·rename_i id g es off len cap;split at h
  ·rename_i b hb0;obtain⟨hb,rfl⟩:=zaz hb0;split at h
   ·rename_i hc;simp only[jh,kR,decide_eq_true_eq]at hc;obtain⟨⟨u9,A0⟩,Ap⟩:=hc;cases h;cases hv with
    |slice _ _ _ _ _ _ _ pl ad c hj hl qV ha =>
     have hlen:((b.rows.drop off).take len).length=len:=by simp;omega
     by_cases hc0:c=0
     ·have hl0:len=0:=by omega
      subst hl0;have e:(b.rows.drop off).take 0=[]:=by simp
      rw[e];exact⟨ad,c,[],rfl,zmC,fun h=>absurd rfl h⟩
     ·obtain⟨L,rfl,_,rfl,Du⟩:=ha hc0;obtain⟨news,hn1,hn2⟩:=zrI hm hb hj u9 Ap;rw[A0]at hn1;exact⟨_,c,news,by rw[hlen],hn1,fun _=>⟨_,_,rfl,hn2⟩⟩
   ·cases h
  ·cases h
 ·cases h
theorem zdy{esz n len c:Nat}{ad:Option Addr}{news:List Value}(hl:news.length=n*esz)(h:n*esz≠0->∃b o,ad=some ⟨b,o,none⟩/\∀(k:Nat) (u:Value),news[k]?=some u->w.cell? ⟨b,o+k,none⟩=some u) :
  (Builtin.firstCells esz n (.slice ad len c)).run P w=.ok news.toArray w:=by
 by_cases h0:n*esz=0
 ·have:news=[]:=kA (by omega);subst this;cases ad with
  |none=>simp[Builtin.firstCells]
  |some b=>simp[Builtin.firstCells,h0,loadCells,loadCellsFrom]
 ·obtain⟨b,o,rfl,hc⟩:=h h0;exact run_firstCells_some w esz n _ len c news hl (fun k u hu=>by rw[Addr.add_lit];exact hc k u hu)
theorem zjc{t u ty e esz:Nat}{ad ax:Option Addr}{sl sc n cx:Nat}{news:List Value}{w':World}(ht:P.underlying t=some (.slice e))(hu:∃e',P.underlying u=some (.slice e'))(hs:zbL P e=some esz)(jZ:sl+n<=sc)
  (hx:(Builtin.firstCells esz n (.slice ax n cx)).run P w=.ok news.toArray w) (hst:∀b,ad=some b->(storeCells (b.add (sl*esz)) news).run P w=.ok () w') (hn:ad=none->w'=w) :
  (Builtin.append_ #[t,u] ty #[.slice ad sl sc,.slice ax n cx]).run P w=.ok (.slice ad (sl+n) sc) w':=by
 obtain⟨e',hu⟩:=hu;cases ad with
 |none=>obtain rfl:=hn rfl;simp[Builtin.append_,run_underlying ht,run_underlying hu,zaJ hs,Builtin.lenOf,jZ,hx]
 |some b=>simp[Builtin.append_,run_underlying ht,run_underlying hu,zaJ hs,Builtin.lenOf,jZ,hx,hst b rfl]
theorem zlO{t u ty e esz bytes:Nat}{i:TypeInfo}{z:Value}{ad ax:Option Addr}{sl sc n cx:Nat}{AJ news:List Value}(ht:P.underlying t=some (.slice e))(hu:∃e',P.underlying u=some (.slice e'))(hi:P.info? e=some i)(hz:i.zero=some z)
  (hs:zbL P e=some esz) (hb:zmi P e=some bytes) (hbp:0<bytes) (jZ:sc<sl+n) (Ap:(sl+n)*bytes<=140737488355328)
  (hx:∀w':World,w'.heap=w.heap->(Builtin.firstCells esz n (.slice ax n cx)).run P w'=.ok news.toArray w') (ho:∀w':World,w'.heap=w.heap->(Builtin.firstCells esz sl (.slice ad sl sc)).run P w'=.ok AJ.toArray w') :
  (Builtin.append_ #[t,u] ty #[.slice ad sl sc,.slice ax n cx]).run P w=.ok (.slice (some ⟨w.heap.size,0,none⟩) (sl+n) (grownCap w (sl+n) sc e))
   (w.drew.alloc (.cells (AJ.toArray++news.toArray++Builtin.zeroCells z.cells (grownCap w (sl+n) sc e-(sl+n))) e)):=by
 obtain⟨e',hu⟩:=hu;have hib:i.bytes=bytes:=by simpa [zmi,hi]using hb
 have hle:sl+n<=(sl+n)*bytes:=qk _ hbp;have hn:¬(sl+n<=sc):=by omega
 have h63':¬(9223372036854775807<((sl:Int)+(n:Int))):=by omega
 have h48':¬(281474976710656<Builtin.nextslicecap (sl+n) sc*i.bytes):=by rw[hib];have:=growslice_fits jZ Ap;omega
 have hf:=hx w.drew rfl;have hfo:=ho w.drew rfl;have hsz:i.size=esz:=by simpa [zbL,hi]using hs
 simp[Builtin.append_,run_underlying ht,run_underlying hu,zaJ hs,typeInfo,zeroValue,hi,hz,Builtin.lenOf,hn,h63',h48',Question.forced,hf,hfo,newRow,grownCap]
 congr 2
 apply ut;simp
end
end Go.Eng
namespace Go.Eng
open Go
variable[zb0]
section
variable{own:Nat->Prop}{σ:zP}{j:Inj}{M:Mem}{w:World}{E:Nat->Option AV}{a:Act}{P:Program}
theorem zs5{M:Mem}{n id:Nat}{b:Blk}(h:M[id]?=some (some b)):(M++qF n)[id]?=some (some b):=by
 rw[jw (zC h)];exact h
theorem za2.De{n:Nat}{σ':zP}{j':Inj}{M':Mem}{w':World}(h:za2 own (M++qF n).length σ j (M++qF n) w σ' j' M' w'):za2 own M.length σ j M w σ' j' M' w':=by
 have h:=h.le (k':=M.length) (by simp);exact⟨h.sle,h.jle,h.size,h.frame,h.BS,fun id b hid hb=>h.vw id b hid (zs5 hb),h.side⟩
theorem zih{w':World}(h:w'.heap=w.heap)(a:Addr):w'.cell? a=w.cell? a:=by simp[World.cell?,h]
theorem zur{t u ty e esz bytes:Nat}{z:List Cl}{ad:Option Addr}{x:Cl}{vx:Value}{ys:List (List Cl)}(ht:P.underlying t=some (.slice e))(hu:∃e',P.underlying u=some (.slice e'))(hs:zbL P e=some esz)(hb:zmi P e=some bytes)
  (hz:zhL P e=some z) (hzn:z.length=esz) (hbp:0<bytes) (hx:zeF M esz x=some ys) (jZ:roomy ys.length bytes=true) (qI:0<esz) (hvx:VC σ j x vx) (hag:zM σ w) (hm:MR own σ j M w) (k8:∀b,w.heap.size<=b->own b) :
  za0 own σ j M w (.w (.c (.slice M.length ys.length esz 0 ys.length none))) (M++[some { box:=false,esz,rows:=ys,gen:=ys.length,fz:=false,ver:=ys.length }]) ((Builtin.append_ #[t,u] ty #[.slice ad 0 0,vx]).run P w):=by
 obtain⟨i,zv,hi,hzv,hzc⟩:=zew hz;have hzs:zv.cells.size=esz:=by rw[<-hzn];simpa using(zdu (σ:=σ) (j:=j) hzc).1.symm
 obtain⟨ax,cx,news,rfl,hr,v5⟩:=zi7 hx hvx hag hm;have hnl:news.length=ys.length*esz:=by simpa using hr.1
 have yy:(M++qF 1)[M.length]?=some none:=by simp[qF]
 have hlt:M.length<(M++qF 1).length:=by simp[qF]
 rw[<-zzu];have hf:∀w':World,w'.heap=w.heap->(Builtin.firstCells esz ys.length (.slice ax ys.length cx)).run P w'=.ok news.toArray w':=by
  intro w' hw';refine zdy hnl (fun h0=>?_);obtain⟨b,o,e1,e2⟩:=v5 (by rintro rfl;simp at h0);exact⟨b,o,e1,fun k u hu=>by rw[zih hw'];exact e2 k u hu⟩
 by_cases hy:ys=[]
 ·subst hy;have AQ:news=[]:=kA (by simpa using hnl);subst AQ;obtain⟨vm,hm'⟩:=(hm.qF 1).renew (w':=w) (b':={ box:=false,esz,rows:=[],gen:=0,fz:=false,ver:=0 }) (pl':=.empty) hlt (fun b hb=>by rw[yy]at hb;cases hb)
   (fun k b L _ hb hL=>⟨rfl,fun e=>by cases e⟩) ⟨rfl,rfl⟩ (fun L e=>by cases e)
  refine⟨.slice ad 0 0,w,σ,_,?_,?_,hag,hm',?_⟩
  ·exact zjc ht hu hs (jq _) (hf w rfl) (fun b _=>by simp[storeCells]) (fun _=>rfl)
  ·exact VC.slice _ M.length 0 esz 0 0 none _ ad 0 (Inj.vW _ _ _ _) (jq _) (by simp) (fun h=>absurd rfl h)
  ·refine⟨zP.le_refl _,fun id g pl _ h=>Inj.AY vm id g pl h,jq _,fun _ _ _=>rfl,fun _ _ _ h=>.inl h,fun id b hid hb=>⟨b,?_,jq _,fun _=>⟨rfl,fun _ _=>rfl⟩⟩,zd9.refl _⟩;rw[jJ (by omega)];exact zs5 hb
 ·have hylen:0<ys.length:=kj.2 hy;have qY:=zlO (P:=P) (w:=w) (ty:=ty) (ad:=ad) (ax:=ax) (sl:=0) (sc:=0) (n:=ys.length) (cx:=cx) (AJ:=[]) (news:=news) ht hu hi hzv hs hb hbp (by omega) (by simpa [roomy]using jZ) hf
   (fun w' _=>zdy (n:=0) (by simp) (fun h=>by simp at h))
  simp only[jH]at qY;generalize qV:grownCap w ys.length 0 e=cap at qY;have hge:ys.length<=cap:=by rw[<-qV];exact grownCap_ge w _ _ _
  generalize hC:(List.toArray []++news.toArray++Builtin.zeroCells zv.cells (cap-ys.length))=C at qY;have hCs:C.size=cap*esz:=by
   rw[<-hC];simp only[Array.size_append,yT,size_zeroCells,hzs,hnl,js,jH];rw[<-kW];congr 1;omega
  obtain⟨_,yA,hm',hst⟩:=zmH (b':={ box:=false,esz,rows:=ys,gen:=ys.length,fz:=false,ver:=ys.length }) (C:=C) (T:=e) (w':=w.drew.alloc (.cells C e (0,0))) (hm.qF 1) hag k8 hlt
   (fun b hb=>by rw[yy]at hb;cases hb) rfl (zd9.Ax rfl rfl rfl) qI hr.2.1 (by rw[hCs];exact kc _ hge) (fun k row m cl hk hmm=>by
    obtain⟨v,hv,hvc⟩:=hr.2.2 k row m cl hk hmm;refine⟨v,?_,by simpa using hvc⟩;have BX:k*esz+m<news.length:=by
     have:=(jR.1 hv).1;simpa using this
    rw[<-hC];rw[kT (by simp;omega)];simpa using hv)
  refine⟨_,_,σ,_,qY,?_,yA,hm',hst.De⟩;have:=VC.slice (σ:=σ) (j.put M.length ys.length (.loc ⟨w.heap.size,0,esz,C.size⟩)) M.length ys.length esz 0 ys.length none _ (some ⟨w.heap.size,0,none⟩) cap (Inj.vW _ _ _ _) hge (by simp)
   (fun _=>⟨_,rfl,rfl,by simp,by simp[hCs]⟩)
  exact this
theorem zvJ{t u ty e esz bytes:Nat}{z:List Cl}{s x:Cl}{vs vx:Value}{av:AV}{M':Mem}{fp:FP}(ht:P.underlying t=some (.slice e))(hu:∃e',P.underlying u=some (.slice e'))(hs:zbL P e=some esz)(hb:zmi P e=some bytes)
  (hz:zhL P e=some z) (hzn:z.length=esz) (hbp:0<bytes) (h:zcB M esz bytes s x=some (av,M',fp)) (hvs:VC σ j s vs) (hvx:VC σ j x vx) (hag:zM σ w) (hm:MR own σ j M w) (k8:∀b,w.heap.size<=b->own b) :
  za0 own σ j M w av M' ((Builtin.append_ #[t,u] ty #[vs,vx]).run P w):=by
 unfold zcB at h;split at h
 ·cases h
 ·rename_i ys hx;simp only at h;have vm:∀(ad:Option Addr) (sl c:Nat),ys=[]->vs=.slice ad sl c->sl<=c->za0 own σ j M w (.w (.c s)) M ((Builtin.append_ #[t,u] ty #[vs,vx]).run P w):=by
   rintro ad sl c rfl rfl hle;obtain⟨ax,cx,news,rfl,hr,v5⟩:=zi7 hx hvx hag hm;have hnl:news=[]:=kA (by simpa using hr.1);subst hnl;have qY:=zjc (P:=P) (w:=w) (ty:=ty) (ad:=ad) (ax:=ax) (sl:=sl) (sc:=c) (n:=0) (cx:=cx) (news:=[]) (w':=w) ht hu hs (by simpa using hle)
    (zdy (n:=0) (by simp) (fun h=>by simp at h)) (fun b _=>by simp[storeCells]) (fun _=>rfl)
   exact za0.same qY (show AVR σ j (.w (.c s)) _ from hvs) hag hm
  split at h
  ·split at h
   ·rename_i vG;cases h;cases hvs;exact vm _ _ _ (by simpa using vG) rfl (jq _)
   ·split at h
    ·rename_i hc;simp only[jh,decide_eq_true_eq]at hc;cases h;cases hvs;exact zur ht hu hs hb hz hzn hbp hx hc.1 hc.2 hvx hag hm k8
    ·cases h
  ·split at h
   ·rename_i vG;cases h;cases hvs with
    |jc _ _ _ ad c b o val hl ha hr h1 h2=>exact vm _ _ _ (by simpa using vG) rfl hl
   ·cases h
  ·rename_i id g es off len cap;split at h
   ·rename_i b hb0;obtain⟨hbk,BZ⟩:=zaz hb0;subst BZ;split at h
    ·rename_i hc;simp only[jh,qd,kR,decide_eq_true_eq]at hc;obtain⟨⟨⟨⟨⟨u9,A0⟩,qI⟩,Ap⟩,hfz⟩,Cu⟩:=hc;by_cases vG:ys=[]
     ·rw[if_pos (by simpa using vG)]at h;cases h;cases hvs with
      |slice _ _ _ _ _ _ _ pl ad c hj hl qV ha=>exact vm _ _ _ vG rfl hl
     rw[if_neg (by simpa using vG)]at h;have hylen:0<ys.length:=kj.2 vG;cases h;have Cu:(len+ys.length)*bytes<=140737488355328:=by simpa [roomy]using Cu
     obtain⟨i,zv,hi,hzv,hzc⟩:=zew hz;have hzs:zv.cells.size=esz:=by rw[<-hzn];simpa using(zdu (σ:=σ) (j:=j) hzc).1.symm
     obtain⟨ax,cx,news,rfl,hr,v5⟩:=zi7 hx hvx hag hm;have hnl:news.length=ys.length*esz:=by simpa using hr.1
     have hf:∀w':World,w'.heap=w.heap->(Builtin.firstCells esz ys.length (.slice ax ys.length cx)).run P w'=.ok news.toArray w':=by
      intro w' hw';refine zdy hnl (fun h0=>?_);obtain⟨b,o,e1,e2⟩:=v5 (by rintro rfl;simp at h0);exact⟨b,o,e1,fun k u hu=>by rw[zih hw'];exact e2 k u hu⟩
     have A5:((b.rows.drop off).take len).length=len:=by simp;omega
     have hlt:=zC hbk;have hrl:∀pl,j id b.gen=some pl->∀row∈(b.rows.drop off).take len++ys,row.length=b.esz:=by
      intro pl hpl row qB;rcases jt.1 qB with q|q
      ·obtain⟨pl',Al,hbr,_⟩:=hm.blk id b hbk;have q':=uk (qD q);cases pl' with
       |empty=>rw[hbr.1]at q';cases q'
       |rnd l r f sh=>rw[(hbr:RB σ j b l r f sh w).box]at u9;cases u9
       |loc L=>exact(hbr:BL σ j b L w).len row q'
      ·rw[A0];exact hr.2.1 row q
     cases hvs with
     |slice _ _ _ _ _ _ _ pl ad c hj hl qV ha =>
      by_cases hrm:len+ys.length<=c
      ·by_cases hc0:c=0
       ·omega
       ·obtain⟨L,rfl,_,rfl,Du⟩:=ha hc0;obtain⟨pl',Al,hbr,hown'⟩:=hm.blk id b hbk;rw[hj]at Al;cases Al;have hbr:BL σ j b L w:=hbr;obtain⟨C,T,hC,hsz,qB⟩:=hbr.heap;have hes:L.esz=esz:=by rw[hbr.esz,A0]
        have Dq:∀v∈news,v.oneCell'=true:=by
         intro v hv;obtain⟨k,hk⟩:=kd hv;have hkl:=zC hk;have BK:=qI;have hi':k / esz<ys.length:=(vT BK).2 (by omega);have hri:=jv hi';have hn':k % esz<(ys[k / esz]).length:=by rw[hr.2.1 _ (ja hi')];exact qW _ BK
         obtain⟨v',hv',hvc⟩:=hr.2.2 _ _ _ _ hri (jv hn');have e1:k / esz*esz+k % esz=k:=by rw[qA];exact vt k esz
         rw[e1]at hv';have e2:news[k]?=some v':=by simpa using hv'
         rw[hk]at e2;cases e2;exact hvc.BV
        have hmul:(off+c)*L.esz=off*L.esz+c*L.esz:=kW _ _ _;have hmul2:(len+ys.length)*L.esz<=c*L.esz:=kc _ hrm;have hmul3:(len+ys.length)*L.esz=len*L.esz+ys.length*L.esz:=kW _ _ _;have hnl':news.length=ys.length*L.esz:=by rw[hnl,hes]
        have hroomC:L.off+off*L.esz+len*L.esz+news.length<=C.size:=by omega
        have hst:=run_storeCells_at P L.blk (L.off+off*L.esz+len*L.esz) T news 0 C w hC (by omega) Dq;simp only[kH]at hst;generalize hC':(C.toList.take (L.off+off*L.esz+len*L.esz)++news++C.toList.drop (L.off+off*L.esz+len*L.esz+news.length)).toArray=C' at hst;have Bv:C'.size=C.size:=by rw[<-hC'];simp;omega
        have vH:∀p,C'[p]?=if p<L.off+off*L.esz+len*L.esz then C[p]? else if p<L.off+off*L.esz+len*L.esz+news.length then news[p-(L.off+off*L.esz+len*L.esz)]? else C[p]?:=by
         intro p;rw[<-hC',qL,zdb _ _ _ (by simpa using hroomC)];simp
        have vn:(w.setRow L.blk C').heap[L.blk]?=some (.cells C' T (0,0)):=setRow_heap w _ C C' T _ hC;have hbe:L.esz=b.esz:=hbr.esz;have hfitb:(off+len)*b.esz<=b.rows.length*b.esz:=kc _ Ap;have hmul4:(off+len)*b.esz=off*b.esz+len*b.esz:=kW _ _ _;have CK:(len+ys.length)*b.esz=len*b.esz+ys.length*b.esz:=kW _ _ _;have hsnone:∀o,L.off+off*L.esz+len*L.esz<=o->σ L.blk o=none:=by
         intro o ho;refine hbr.A8 o (by omega) (fun hfzt=>?_);rcases hfz with h|h
         ·rw[hfzt]at h;cases h
         ·rw[<-h,hmul4,<-hbe];omega
        obtain⟨vm,hm'⟩:=hm.renew (w':=w.setRow L.blk C') (id:=id) (b':={ b with rows:=(b.rows.drop off).take len++ys,gen:=b.gen+ys.length,ver:=b.ver+ys.length }) (pl':=.loc ⟨L.blk,L.off+off*L.esz,b.esz,L.tot⟩) hlt
         (fun b0 hb0=>by rw[hbk]at hb0;cases hb0;simp;try omega)
         (fun k b2 q hk hb2 hL2=>⟨setRow_other w _ _ _ (fun e=>hk (hm.vR k id b2 b q hb2 hbk hL2 (by rw[e];exact Inj.v8 hj))),fun e=>by cases e;exact hk (hm.vR k id b2 b L.blk hb2 hbk hL2 (Inj.v8 hj))⟩)
         (⟨rfl,hbr.pos,hrl _ hj,by simp only[jr,A5];rw[CK,<-hbe];omega,⟨C',T,vn,by rw[Bv,hsz],fun k row n cl hk hn=>by
           simp only[u9,jI,if_false]at hk ⊢;rw[qE]at hk;split at hk
           ·rename_i hkl;rw[A5]at hkl;have hk':b.rows[off+k]?=some row:=by
             rw[kM,if_pos hkl]at hk;simpa using hk
            obtain⟨v,hv,hvc⟩:=qB (off+k) row n cl hk' hn;rw[if_neg (by simp[u9])]at hvc;refine⟨v,?_,hvc⟩;have h1:=zjf (esz:=b.esz) hkl;have h2:=hbr.len row (zat hk');have h3:=zC hn;have h4:(off+k)*b.esz=off*b.esz+k*b.esz:=kW _ _ _;rw[vH,if_pos (by rw[hbe];omega),<-hv]
            congr 1
            rw[h4,hbe];omega
           ·rename_i hkl;rw[A5]at hkl hk;obtain⟨v,hv,hvc⟩:=hr.2.2 (k-len) row n cl hk hn;refine⟨v,?_,hvc⟩;have h1:=zjf (esz:=esz) (zC hk);have h2:=hr.2.1 row (zat hk);have h3:=zC hn;have h4:k*b.esz=len*b.esz+(k-len)*b.esz:=by rw[<-kW];congr 1;omega
            rw[vH,if_neg (by rw[h4,hbe];omega),if_pos (by rw[h4,hbe,hnl,A0];omega)];have e5:L.off+off*L.esz+k*b.esz+n-(L.off+off*L.esz+len*L.esz)=(k-len)*esz+n:=by rw[h4,hbe,A0];omega
            rw[e5];simpa using hv⟩,fun o h1 h2=>by
           refine hbr.A8 o (by simp only at h1;omega) (fun hfzt=>?_);have h2:=h2 hfzt;simp only[jr,A5]at h2;rcases hfz with h|h
           ·rw[hfzt]at h;cases h
           ·rw[<-h,hmul4];rw[CK,hbe]at h2;omega⟩:BL σ _ { b with rows:=(b.rows.drop off).take len++ys,gen:=b.gen+ys.length,ver:=b.ver+ys.length } ⟨L.blk,L.off+off*L.esz,b.esz,L.tot⟩ _) (fun L' e=>by cases e;exact hown' L rfl)
        refine⟨.slice (some ⟨L.blk,L.off+off*L.esz,none⟩) (len+ys.length) c,_,σ,_,?_,?_,?_,hm',?_⟩
        ·refine zjc ht hu hs hrm (hf w rfl) (fun b' hb'=>?_) (fun h=>by cases h);cases hb';rw[Addr.add_lit,<-hes];exact hst
        ·refine VC.slice _ id (b.gen+ys.length) esz 0 (len+ys.length) none _ _ c (Inj.vW _ _ _ _) hrm (by simp) (fun _=>⟨_,rfl,A0,by simp,?_⟩);simp only[jH];rw[<-hbe];omega
        ·refine⟨?_,hag.qw⟩;intro k o v hv;have hold:=hag.cells k o v hv;by_cases hkk:k=L.blk
         ·subst hkk;have hlo:o<L.off+off*L.esz+len*L.esz:=by
           rcases kD o (L.off+off*L.esz+len*L.esz)with h|h
           ·exact h
           ·rw[hsnone o h]at hv;cases hv
          simp only[World.cell?,hC,qm,jI,if_false]at hold;simp only[World.cell?,vn,qm,jI,if_false];rw[vH,if_pos hlo];exact hold
         ·simpa [World.cell?,setRow_other w L.blk k C' hkk]using hold
        ·refine⟨zP.le_refl _,fun id' g pl _ h=>Inj.AY vm id' g pl h,by simp[World.setRow],fun k _ ho=>setRow_other w _ _ _ (fun e=>ho (e ▸ hown' L rfl)),fun _ _ _ h=>.inl h,fun id' b0 hid hb0=>?_,zd9.setRow _ _ _⟩;by_cases hii:id=id'
         ·subst hii;rw[hbk]at hb0;cases hb0;exact⟨_,by simp[hlt];rfl,by simp,fun h=>by dsimp only at h;omega⟩
         ·exact⟨b0,by rw[jJ hii];exact hb0,jq _,fun _=>⟨rfl,fun L' hL'=>setRow_other w _ _ _ (fun e=>hii (hm.vR id id' b b0 L' hbk hb0 (by rw[e];exact Inj.v8 hj) hL'))⟩⟩
      ·
       have holds:∃AJ:List Value,zpF σ esz ((b.rows.drop off).take len) AJ.toArray/\∀w':World,w'.heap=w.heap->(Builtin.firstCells esz len (.slice ad len c)).run P w'=.ok AJ.toArray w':=by
        by_cases hc0:c=0
        ·have hl0:len=0:=by omega
         subst hl0;have e0:(b.rows.drop off).take 0=[]:=by simp
         rw[e0];exact⟨[],zmC,fun w' _=>zdy (n:=0) (by simp) (fun h=>by simp at h)⟩
        ·obtain⟨L,rfl,_,rfl,Du⟩:=ha hc0;obtain⟨AJ,h1,h2⟩:=zrI hm hbk hj u9 Ap;rw[A0]at h1;refine⟨AJ,h1,fun w' hw'=>zdy (by have:=h1.1;rw[A5]at this;simpa using this) (fun _=>⟨_,_,rfl,fun k u hu=>by rw[zih hw'];exact h2 k u hu⟩)⟩
       obtain⟨AJ,hro,hfo⟩:=holds;have hol:AJ.length=len*esz:=by have:=hro.1;rw[A5]at this;simpa using this
       have qY:=zlO (P:=P) (w:=w) (ty:=ty) (ad:=ad) (ax:=ax) (sl:=len) (sc:=c) (n:=ys.length) (cx:=cx) (AJ:=AJ) (news:=news) ht hu hi hzv hs hb hbp (by omega) Cu hf hfo;generalize qV:grownCap w (len+ys.length) c e=cp at qY;have hge:len+ys.length<=cp:=by rw[<-qV];exact grownCap_ge w _ _ _
       generalize hC:(AJ.toArray++news.toArray++Builtin.zeroCells zv.cells (cp-(len+ys.length)))=C at qY;have hCs:C.size=cp*esz:=by
        rw[<-hC];simp only[Array.size_append,yT,size_zeroCells,hzs,hnl,hol];rw[<-kW,<-kW];congr 1;omega
       have CK:(len+ys.length)*esz<=cp*esz:=kc _ hge;obtain⟨_,yA,hm',hst⟩:=zmH (b':={ b with rows:=(b.rows.drop off).take len++ys,gen:=b.gen+ys.length,ver:=b.ver+ys.length }) (C:=C) (T:=e) (w':=w.drew.alloc (.cells C e (0,0))) hm hag k8 hlt
        (fun b0 hb0=>by rw[hbk]at hb0;cases hb0;simp;try omega) rfl (zd9.Ax rfl rfl rfl) (by simp only;rw[A0];exact qI) (hrl _ hj) (by simp only[jr,A5];rw[hCs,A0];exact CK) (fun k row m cl hk hmm=>by
         simp only[u9,jI,if_false]at hk ⊢;rw[A0];rw[qE]at hk;split at hk
         ·obtain⟨v,hv,hvc⟩:=hro.2.2 k row m cl hk hmm;refine⟨v,?_,hvc⟩;have BX:k*esz+m<AJ.length:=by
           have:=(jR.1 hv).1;simpa using this
          rw[<-hC,Array.append_assoc,kT (by simpa using BX)];exact hv
         ·rename_i hkl;rw[A5]at hkl hk;obtain⟨v,hv,hvc⟩:=hr.2.2 (k-len) row m cl hk hmm;refine⟨v,?_,hvc⟩;have BX:(k-len)*esz+m<news.length:=by
           have:=(jR.1 hv).1;simpa using this
          have h4:k*esz=len*esz+(k-len)*esz:=by rw[<-kW];congr 1;omega
          rw[<-hC,Array.append_assoc,yu (by simp;omega),kT (by simp;omega)];have e5:k*esz+m-AJ.toArray.size=(k-len)*esz+m:=by simp;omega
          rw[e5];exact hv)
       refine⟨_,_,σ,_,qY,?_,yA,hm',hst⟩;have:=VC.slice (σ:=σ) (j.put id (b.gen+ys.length) (.loc ⟨w.heap.size,0,b.esz,C.size⟩)) id (b.gen+ys.length) esz 0 (len+ys.length) none _ (some ⟨w.heap.size,0,none⟩) cp (Inj.vW _ _ _ _) hge (by simp)
        (fun _=>⟨_,rfl,A0,by simp,by simp[hCs,A0]⟩)
       exact this
    ·cases h
   ·cases h
  ·cases h
end
end Go.Eng
namespace Go.Eng
open Go
variable[zb0]
section
variable{own:Nat->Prop}{σ:zP}{j:Inj}{M:Mem}{w:World}{E:Nat->Option AV}{a:Act}{P:Program}
theorem zxd(hG:GK σ)(hE:zcs σ j E a.tmps){x:Operand}{o:Opd}{top n:Nat}{code:BoundsCode}(ho:za5 x=some o)(h:zcy E (some o) 0 top=some n):(Instr.sliceBound (a.eval x) top code).run P w=.ok n w/\n<=top:=by
 simp only[zcy]at h;split at h
 ·rename_i k v hv;have hr:=zWl hG hE ho hv;have:a.eval x=.int k v:=zef hr;unfold zgN at h;split at h
  ·rename_i hb;cases h;rw[this];refine⟨?_,by omega⟩;simp[Instr.sliceBound,asIntOf,hb]
  ·cases h
 ·cases h
theorem ziT(hG:GK σ)(hE:zcs σ j E a.tmps){lo hi mx:Option Operand}{lo' hi' mx':Option Opd}{len c:Nat}{cap:Option Nat}{l n:Nat}{c':Option Nat}(h1:zeh lo=some lo')(h2:zeh hi=some hi')(h3:zeh mx=some mx')
  (hlc:len<=c) (qV:∀k,cap=some k->c=k) (h:sliceB E len cap lo' hi' mx'=some (l,n,c')) :
  ∃m:Nat,(Instr.sliceBounds true len c (lo.map a.eval) (hi.map a.eval) (mx.map a.eval)).run P w=.ok (l,l+n,m) w/\l+n<=m/\m<=c/\l<=m/\(∀k,c'=some k->m-l=k)/\(cap=none->l+n<=len):=by
 have hc0:zxn len cap<=c:=by
  cases cap with
  |none=>exact hlc
  |some k=>exact Nat.le_of_eq (qV k rfl).symm
 have lift:∀{x:Operand} {o:Opd} {top top' n:Nat} {code:BoundsCode},za5 x=some o->zcy E (some o) 0 top=some n->top<=top'->(Instr.sliceBound (a.eval x) top' code).run P w=.ok n w/\n<=top:=by
  intro x o top top' n code ho h ht;have hle:=(zxd (P:=P) (w:=w) (code:=code) hG hE ho h).2;refine⟨?_,hle⟩;simp only[zcy]at h;split at h
  ·rename_i k v hv;have hr:=zWl hG hE ho hv;have he:a.eval x=.int k v:=zef hr;unfold zgN at h;split at h
   ·rename_i hb;cases h;rw[he];have:0<=v/\v<=(top':Int):=⟨hb.1,by omega⟩;simp[Instr.sliceBound,asIntOf,this]
   ·cases h
  ·cases h
 unfold sliceB at h;split at h
 ·
  rename_i hmx;have hmxn:mx=none:=by
   cases mx with
   |none=>rfl
   |some x=>simp[zeh]at h3
  subst hmxn;split at h
  ·rename_i hh hhi;split at h
   ·rename_i ll hll;cases h;have qh:(match hi.map a.eval with |some v=>Instr.sliceBound v c .sliceAcap |none=>pure len:Sem Nat).run P w=.ok hh w/\hh<=c/\(cap=none->hh<=len):=by
     cases hi with
     |none =>
      simp[zeh]at h2;subst h2;simp only[zcy,ji]at hhi;rw[<-hhi];exact⟨rfl,hlc,fun _=>jq _⟩
     |some x =>
      simp only[zeh,jb]at h2;obtain⟨o,ho,rfl⟩:=h2;obtain⟨e1,e2⟩:=lift (code:=.sliceAcap) ho hhi hc0;exact⟨e1,by omega,fun h=>by rw[h]at e2;exact e2⟩
    obtain⟨qh1,qh2,qh3⟩:=qh;have ql:(match lo.map a.eval with |some v=>Instr.sliceBound v hh .sliceB |none=>pure 0:Sem Nat).run P w=.ok l w/\l<=hh:=by
     cases lo with
     |none =>
      simp[zeh]at h1;subst h1;simp only[zcy,ji]at hll;rw[<-hll];exact⟨rfl,by omega⟩
     |some x =>
      simp only[zeh,jb]at h1;obtain⟨o,ho,rfl⟩:=h1;obtain⟨e1,e2⟩:=lift (code:=.sliceB) ho hll (jq _);exact⟨e1,by omega⟩
    obtain⟨ql1,ql2⟩:=ql;have e:l+(hh-l)=hh:=by omega
    refine⟨c,?_,by omega,jq _,by omega,fun k hk=>?_,fun h=>by rw[e];exact qh3 h⟩
    ·rw[e];clear e;revert qh1 ql1;generalize hi.map a.eval=hv;generalize lo.map a.eval=lv;intro qh1 ql1;cases hv<;>cases lv<;>simp only[Sem.run_pure,Result.ok.injEq,and_true]at qh1 ql1<;>simp[Instr.sliceBounds,qh1,ql1]
    ·simp only[jb]at hk;obtain⟨k0,hk0,rfl⟩:=hk;rw[qV k0 hk0]
   ·cases h
  ·cases h
 ·
  rename_i mo;obtain⟨mx0,rfl⟩:∃x,mx=some x:=by
   cases mx with
   |none=>simp[zeh]at h3
   |some x=>exact⟨x,rfl⟩
  simp only[zeh,jb]at h3;obtain⟨mo',hmo,hmo'⟩:=h3;cases hmo';split at h
  ·rename_i m hm;split at h
   ·rename_i hh hhi;split at h
    ·rename_i ll hll;split at h
     ·rename_i qs;cases h;obtain⟨e1,e2⟩:=lift (code:=.slice3Acap) hmo hm hc0;obtain⟨x,rfl⟩:∃x,hi=some x:=by
       cases hi with
       |none=>simp[zeh]at h2;subst h2;simp at qs
       |some x=>exact⟨x,rfl⟩
      simp only[zeh,jb]at h2;obtain⟨o,ho,rfl⟩:=h2;obtain⟨e3,e4⟩:=lift (code:=.slice3B) ho hhi (jq _);have ql:(match lo.map a.eval with |some v=>Instr.sliceBound v hh .slice3C |none=>pure 0:Sem Nat).run P w=.ok l w/\l<=hh:=by
       cases lo with
       |none =>
        simp[zeh]at h1;subst h1;simp only[zcy,ji]at hll;rw[<-hll];exact⟨rfl,by omega⟩
       |some x =>
        simp only[zeh,jb]at h1;obtain⟨o,ho,rfl⟩:=h1;obtain⟨e1,e2⟩:=lift (code:=.slice3C) ho hll (jq _);exact⟨e1,by omega⟩
      obtain⟨ql1,ql2⟩:=ql;have e:l+(hh-l)=hh:=by omega
      refine⟨m,?_,by omega,by omega,by omega,fun k hk=>by cases hk;rfl,fun h=>by rw[h]at e2;have e2':m<=len:=e2;omega⟩;rw[e];clear e;revert ql1;generalize lo.map a.eval=lv;intro ql1;cases lv<;>simp only[Sem.run_pure,Result.ok.injEq,and_true]at ql1<;>simp[Instr.sliceBounds,e1,e3,ql1]
     ·cases h
    ·cases h
   ·cases h
  ·cases h
theorem zwj(hG:GK σ)(hE:zcs σ j E a.tmps){t e es:TypeId}{x:Cl}{vx:Value}{lo hi mx:Option Operand}{lo' hi' mx':Option Opd}{y:Cl}(ht:P.underlying t=some (.slice e))(hes:zbL P e=some es)
  (hx:VC σ j x vx) (h1:zeh lo=some lo') (h2:zeh hi=some hi') (h3:zeh mx=some mx') (h:znj E es x lo' hi' mx'=some y) :
  ∃v,(Instr.sliceAt t vx (lo.map a.eval) (hi.map a.eval) (mx.map a.eval)).run P w=.ok v w/\VC σ j y v:=by
 unfold znj at h;cases hx with
 |slice _ id g es' off len cap pl ad c hj hl qV ha =>
  simp only at h;split at h
  ·rename_i hee;subst hee;split at h
   ·rename_i l n c' hs;cases h;obtain⟨m,hb,q1,q2,q3,q4,q5⟩:=ziT (P:=P) (w:=w) hG hE h1 h2 h3 hl qV hs;refine⟨.slice (if m=l then ad else ad.map (·.add (l*es'))) (l+n-l) (m-l),?_,?_⟩
    ·simp[Instr.sliceAt,Instr.slice,run_underlying ht,hb,zaJ hes]
    ·have e:l+n-l=n:=by omega
     rw[e];refine .slice _ id g es' (off+l) n c' pl _ (m-l) hj (by omega) (fun k hk=>q4 k hk) (fun hne=>?_);have hml:m≠l:=by omega
     obtain⟨L,rfl,hLe,rfl,hf⟩:=ha (by omega);refine⟨L,rfl,hLe,?_,?_⟩
     ·rw[if_neg hml];simp only[uJ,Addr.add_lit];rw[<-hLe,kW,kU]
     ·have:(off+l+(m-l))*L.esz<=(off+c)*L.esz:=kc _ (by omega);omega
   ·cases h
  ·cases h
 |jc _ esz rows ad c b o val hl ha hr hh1 hh2 =>
  simp only at h;split at h
  ·rename_i l n c' hs;split at h
   ·rename_i hle;obtain⟨hle,vG⟩:=hle;cases h;obtain⟨m,hb,q1,q2,q3,q4,q5⟩:=ziT (P:=P) (w:=w) hG hE h1 h2 h3 hl (by simp) hs;have hlen:((rows.drop l).take n).length=n:=by simp;omega
    refine⟨.slice (if m=l then ad else ad.map (·.add (l*es))) (l+n-l) (m-l),?_,?_⟩
    ·simp[Instr.sliceAt,Instr.slice,run_underlying ht,hb,zaJ hes]
    ·have e:l+n-l=n:=by omega
     rw[e];by_cases hne:(rows.drop l).take n=[]
     ·rw[hne];have hn0:n=0:=by rw[<-hlen,hne];rfl
      subst hn0;exact VC.jc _ esz [] _ (m-l) 0 0 (fun _ _=>undef) (by simp) (.inl rfl) (by simp) (by simp) (by simp)
     ·have hrne:rows≠[]:=by rintro rfl;simp at hne
      have hee:esz=es:=by
       cases rows with
       |nil=>exact absurd rfl hrne
       |cons y ys =>
        rw[<-hr y (ju ..)];simp only[uQ,jh,beq_iff_eq]at vG;exact vG.1
      have had:=ha.resolve_left hrne;subst had;have hn:n≠0:=by rintro rfl;simp at hne
      have get:∀(i:Nat) (row:List Cl),((rows.drop l).take n)[i]?=some row->rows[l+i]?=some row:=by
       intro i row hi;rw[kM]at hi;split at hi
       ·simpa using hi
       ·cases hi
      have:=VC.jc (σ:=σ) j esz ((rows.drop l).take n) (some ⟨b,o+l*es,none⟩) (m-l) b (o+l*es) (fun i k=>val (l+i) k) (by rw[hlen];omega) (.inr rfl)
       (fun row hr'=>hr row (uk (qD hr'))) (fun i row k cl hi hk=>by
        rw[<-hh1 (l+i) row k cl (get i row hi) hk,<-hee,kW];congr 1;omega) (fun i row k cl hi hk=>hh2 (l+i) row k cl (get i row hi) hk)
      rw[hlen]at this;have hml:m≠l:=by omega
      rw[if_neg hml];simpa [Addr.add_lit]using this
   ·cases h
  ·cases h
 |jd =>
  simp only at h;split at h
  ·rename_i r hs;cases h;obtain⟨l,n,c'⟩:=r;obtain⟨m,hb,q1,q2,q3,q4,q5⟩:=ziT (P:=P) (w:=w) (c:=0) hG hE h1 h2 h3 (jq _) (by simp) hs;refine⟨.slice (if m=l then none else none) (l+n-l) (m-l),?_,?_⟩
   ·simp[Instr.sliceAt,Instr.slice,run_underlying ht,hb,zaJ hes]
   ·have e1:l+n-l=0:=by omega
    have e2:m-l=0:=by omega
    rw[e1,e2];simp;exact .jd _
  ·cases h
 |_=>cases h
end
end Go.Eng
namespace Go.Eng
open Go
variable[zb0]
section
variable{own:Nat->Prop}{σ:zP}{j:Inj}{M:Mem}{w:World}{E:Nat->Option AV}{a:Act}{P:Program}{cf:za4}
theorem zg9{n:Int}{len i:Nat}(h:zmk n len=some i):0<=n/\n<len/\n.toNat=i/\i<len:=by
 unfold zmk at h;split at h
 ·rename_i hh;cases h;exact⟨hh.1,hh.2,rfl,by omega⟩
 ·cases h
theorem zwV{t e es:TypeId}{x i:Cl}{y:Cl}(ht:P.underlying t=some (.slice e))(hes:zbL P e=some es)(h:zt5 es x i=some y){vx vi:Value} :
  VC σ j x vx->VC σ j i vi->∃v,(Instr.indexAt t vx vi).run P w=.ok v w/\VC σ j y v:=by
 unfold zt5 at h;split at h
 ·rename_i id g es' off len cap kk n;split at h
  ·rename_i k hk;split at h
   ·rename_i hee;subst hee;cases h;intro hx hi;obtain⟨h1,h2,h3,h4⟩:=zg9 hk;obtain rfl:=zef hi;cases hx with
    |slice _ _ _ _ _ _ _ pl ad c hj hl qV ha =>
     obtain⟨L,rfl,hLe,rfl,hf⟩:=ha (by omega);refine⟨_,?_,.ptr _ id g (off+k) 0 L hj⟩;have:(0:Int)<=n/\n<(len:Int):=⟨h1,h2⟩;simp[Instr.indexAt,asIntOf,run_underlying ht,this,zaJ hes,h3,Addr.add_lit];rw[hLe,kW];omega
   ·cases h
  ·cases h
 ·rename_i rows kk n;split at h
  ·rename_i k hk;split at h
   ·rename_i row qB;split at h
    ·rename_i hee;subst hee;cases h;intro hx hi;obtain⟨h1,h2,h3,h4⟩:=zg9 hk;obtain rfl:=zef hi;cases hx with
     |jc _ e' _ ad c b o val hl ha hr hh1 hh2 =>
      have he':e'=row.length:=(hr row (zat qB)).symm;subst he';have had:=ha.resolve_left (by rintro rfl;simp at qB);subst had;refine⟨_,?_,.uR _ row 0 b (o+k*row.length) (fun m=>val k m) (fun m c hc=>hh1 k row m c qB hc) (fun m c hc=>hh2 k row m c qB hc)⟩;have:(0:Int)<=n/\n<(rows.length:Int):=⟨h1,h2⟩;simp[Instr.indexAt,asIntOf,run_underlying ht,this,zaJ hes,h3,Addr.add_lit]
    ·cases h
   ·cases h
  ·cases h
 ·cases h
theorem zxe{t e es len:TypeId}{x i:Cl}{y:Cl}(ht:P.underlying t=some (.array len e))(hes:zbL P e=some es)(h:zus len es x i=some y){vx vi:Value} :
  VC σ j x vx->VC σ j i vi->∃v,(Instr.indexAt t vx vi).run P w=.ok v w/\VC σ j y v:=by
 unfold zus at h;split at h
 ·rename_i id g r k kk n;split at h
  ·rename_i q hq;cases h;intro hx hi;obtain⟨h1,h2,h3,h4⟩:=zg9 hq;obtain rfl:=zef hi;cases hx with
   |ptr _ _ _ _ _ L hL =>
    refine⟨_,?_,.ptr _ id g r (k+q*es) L hL⟩;have:(0:Int)<=n/\n<(len:Int):=⟨h1,h2⟩;simp[Instr.indexAt,asIntOf,run_underlying ht,this,zaJ hes,h3,Addr.add_lit,Instr.sureAddr,kU]
  ·cases h
 ·rename_i r k kk n;split at h
  ·rename_i q hq;cases h;intro hx hi;obtain⟨h1,h2,h3,h4⟩:=zg9 hq;obtain rfl:=zef hi;cases hx with
   |uR _ _ _ b o val hh1 hh2 =>
    refine⟨_,?_,.uR _ r (k+q*es) b o val hh1 hh2⟩;have:(0:Int)<=n/\n<(len:Int):=⟨h1,h2⟩;simp[Instr.indexAt,asIntOf,run_underlying ht,this,zaJ hes,h3,Addr.add_lit,Instr.sureAddr,kU]
  ·cases h
 ·cases h
theorem zsW{f:TypeId}{agg:Bool}{n off:Nat}{cs cs':List Cl}{arr:Array Value}{x:WV}(hn:zbL P f=some n)(hg:zeU P f=some agg)(hv:VCs σ j cs arr.toList)(hc:cut cs off (if agg then n else 1)=some cs')(hx:zaI agg cs'=some x) :
  ∃v,(Go.part f arr off).run P w=.ok v w/\WVR σ j x v:=by
 obtain⟨hl,hk,u0⟩:=zmL hc;have hs:=(hv.drop off).take (if agg then n else 1);unfold cut at hc;rw[if_pos hk]at hc;cases hc;refine⟨_,?_,WVR.An _ hs hx⟩;cases agg with
 |true =>
  have e:arr.extract off (off+n)=(List.take n (List.drop off arr.toList)).toArray:=by
   apply ut;simp[Array.toList_extract,List.extract_eq_take_drop]
  simp[Go.part,zfc hg,zaJ hn,e]
 |false =>
  simp only[jI,if_false]at hk hs ⊢;have hlt:off<arr.size:=by have:=hv.1;simp at this;omega
  have BX:off<arr.toList.length:=by simpa using hlt
  rw[ki BX];simp[Go.part,zfc hg,hlt]
theorem zl6{b o:Nat}{f:Field}{n:Nat}(hn:zbL P f.type=some n)(h0:n≠0):(fieldPlace ⟨b,o,none⟩ f).run P w=.ok ⟨b,o+f.offset,none⟩ w:=by
 simp[fieldPlace,zaJ hn,h0,Addr.add_lit]
theorem zwY{t:TypeId}{fs:Array Field}{fi:Nat}{f:Field}{n:Nat}{p y:Cl}{vp:Value}(ht:P.underlying t=some (.struct fs))(hf:fs[fi]?=some f)(hn:zbL P f.type=some n)(h0:n≠0)
  (h:zt9 f.offset p=some y):VC σ j p vp->∃v,(Instr.fieldAt t vp fi).run P w=.ok v w/\VC σ j y v:=by
 unfold zt9 at h;split at h
 ·rename_i id g i k;cases h;intro hp;cases hp with
  |ptr _ _ _ _ _ L hL =>
   refine⟨_,?_,.ptr _ id g i (k+f.offset) L hL⟩;simp[Instr.fieldAt,run_underlying ht,hf,Instr.sureAddr,zl6 hn h0,kU]
 ·rename_i r k;cases h;intro hp;cases hp with
  |uR _ _ _ b o val h1 h2 =>
   refine⟨_,?_,.uR _ r (k+f.offset) b o val h1 h2⟩;simp[Instr.fieldAt,run_underlying ht,hf,Instr.sureAddr,zl6 hn h0,kU]
 ·cases h
theorem zoT{mx:Bool}:∀{k:IntKind} {n:Int} {xs:List WV} {vs:List Value} {c:Cl},zoU mx n k xs=some c->zac σ j xs vs ->
  ∃v,(vs.foldlM (if mx then Builtin.max2 else Builtin.min2) (.int k n):Sem Value).run P w=.ok v w/\VC σ j c v
 |k,n,[],vs,c,h,hv=>by
  have:=hv.yl;subst this;simp only[zoU,ji]at h;subst h;exact⟨_,rfl,.int _ _ _⟩
 |k,n,x::xs,vs,c,h,hv=>by
  obtain⟨v,vs',rfl,h1,h2⟩:=hv.qM;unfold zoU at h;split at h
  ·rename_i heq;cases heq
  ·rename_i k' b r heq;cases heq;split at h
   ·rename_i hk;subst hk;have hv1:=zef h1;subst hv1;obtain⟨u,q1,q2⟩:=zoT h h2;refine⟨u,?_,q2⟩;rw[<-q1];cases mx<;>simp[Builtin.max2,Builtin.min2,zyw]
   ·cases h
  ·cases h
end
end Go.Eng
namespace Go.Eng
open Go
variable[zb0]
section
variable{own:Nat->Prop}{σ:zP}{j:Inj}{M:Mem}{w:World}{P:Program}
theorem ztb:∀(vs:List Value) (k:Nat) (C:Array Value),k+vs.length<=C.size->(∀v∈vs,v.cells = #[v]) ->
  ∃C',Instr.fill (fun i=>some (i*1,1)) C ((vs.zipIdx k).map fun x=>(x.2,x.1))=some C'/\C'.size=C.size/\∀i,C'[i]?=if k<=i/\i<k+vs.length then vs[i-k]? else C[i]?
 |[],k,C,_,_=>⟨C,rfl,rfl,fun i=>by simp;omega⟩
 |v::vs,k,C,hk,hv=>by
  have h1:=hv v (ju ..);simp only[jm]at hk;obtain⟨C',q1,q2,q3⟩:=ztb vs (k+1) (C.setIfInBounds k v) (by rw[Array.size_setIfInBounds];omega) (fun x hx=>hv x (jy _ hx));refine⟨C',?_,by rw[q2];simp,fun i=>?_⟩
  ·have e:v.cells.zipIdx.foldl (fun cs (x:Value×Nat)=>cs.setIfInBounds (k*1+x.2) x.1) C=C.setIfInBounds k v:=by rw[h1];simp
   simp only[List.zipIdx_cons,kV,Instr.fill];rw[if_neg (by rw[h1];simp;omega)];show Instr.fill _ (v.cells.zipIdx.foldl (fun cs (x:Value×Nat)=>cs.setIfInBounds (k*1+x.2) x.1) C) _=_;rw[e];exact q1
  ·rw[q3 i,yk];by_cases hki:k=i
   ·subst hki;rw[if_neg (by omega),if_pos rfl,if_pos (by omega),if_pos (by simp)];simp
   ·rw[if_neg hki];by_cases hc:k+1<=i/\i<k+1+vs.length
    ·rw[if_pos hc,if_pos (by simp;omega)];obtain⟨d,rfl⟩:∃d,i=k+1+d:=⟨i-(k+1),by omega⟩;rw[show k+1+d-(k+1)=d by omega,show k+1+d-k=d+1 by omega];simp
    ·rw[if_neg hc,if_neg (by simp;omega)]
theorem zyD{t e len id:Nat}{parts:Array (Nat×Value)}{vs:List Value}{xs:List WV}{av:AV}{M':Mem}{fp:FP}(ht:P.underlying t=some (.slice e))(hs:zbL P e=some 1)(hf:zAk P e=true)(hpo:parts.toList=(vs.zipIdx 0).map fun x=>(x.2,x.1))(hlen:vs.length=len)(hl:len<=1000)
  (h:zi2 M id .CZ xs=some (av,M',fp)) (hr:zac σ j xs vs) (hag:zM σ w) (hm:MR own σ j M w) (k8:∀b,w.heap.size<=b->own b) {zv:Value} (hz:(zeroValue e).run P w=.ok zv w) :
  za0 own σ j M w av M' ((Instr.buildSlice t len parts).run P w):=by
 simp only[zi2]at h;split at h
 ·rename_i hc;obtain⟨hok,qI⟩:=hc;simp only[jb,jG]at h;obtain⟨M1,hn,rfl,rfl,rfl⟩:=h;have hxl:xs.length=len:=by rw[hr.1,hlen]
  have Br:∀v∈vs,v.cells = #[v]:=by
   intro v hv;obtain⟨n,hn'⟩:=kd hv;have hnx:n<xs.length:=by rw[hr.1];exact zC hn'
   have hx:=hr.2 n _ v (jv hnx) hn';have hk:=jA.1 hok _ (ja hnx);generalize xs[n]=x at hx hk;cases x with
   |c x=>exact VC.one hx
   |a cs=>simp[okW]at hk
  obtain⟨C,q1,q2,q3⟩:=ztb vs 0 ((Array.range (len*1)).map fun i=>zv.cells[i % zv.cells.size]!) (by simp[hlen]) Br;have hC:C=vs.toArray:=by
   apply Array.ext_getElem?;intro i;rw[q3 i];by_cases hi:i<vs.length
   ·rw[if_pos (by omega)];simp
   ·rw[if_neg (by omega),qZ (by simp;omega)];simp;omega
  obtain⟨yy,hlt,rfl⟩:=za1 hn;have qB:∀(i:Nat) (row:List Cl) (n:Nat) (cl:Cl),(xs.map WV.cells)[i]?=some row->row[n]?=some cl->row.length=1/\n=0/\∃v,vs[i]?=some v/\VC σ j cl v:=by
   intro i row n cl hi hn';simp only[qG,jb]at hi;obtain⟨x,hx,rfl⟩:=hi;have hil:i<vs.length:=by rw[<-hr.1];exact zC hx
   have hxv:=hr.2 i x _ hx (jv hil);have hk:=jA.1 hok _ (zat hx);cases x with
   |a cs=>simp[okW]at hk
   |c x =>
    cases n with
    |zero=>simp[WV.cells]at hn';subst hn';exact⟨rfl,rfl,_,jv hil,hxv⟩
    |succ n=>simp[WV.cells]at hn'
  obtain⟨_,yA,hm',hst⟩:=zmH (b':={ box:=true,esz:=1,rows:=xs.map WV.cells,gen:=xs.length,fz:=false,ver:=xs.length }) (C:=vs.toArray) (T:=e) (w':=w.alloc (.cells vs.toArray e (0,0))) hm hag k8 hlt
   (fun b hb=>by rw[yy]at hb;cases hb) rfl (zd9.Ax rfl rfl rfl) (show 0<1 by decide) (fun row hrw=>by
    obtain⟨x,hx,rfl⟩:=kJ.1 hrw;have hk:=jA.1 hok _ hx;cases x with
    |c x=>rfl
    |a cs=>simp[okW]at hk) (by simp[hr.1]) (fun i row n cl hi hn'=>by
    obtain⟨_,rfl,v,hv,hvc⟩:=qB i row n cl hi hn';exact⟨v,by simpa using hv,hvc⟩)
  refine⟨.slice (some ⟨w.heap.size,0,none⟩) len len,_,σ,_,?_,?_,yA,hm',hst⟩
  ·have hne:len≠0:=by omega
   simp only[Instr.buildSlice,Sem.run_bind,run_underlying ht,Result.andThen_ok,zaJ hs];rw[if_neg (by omega)];simp only[show ¬(len*1=0) by omega,if_false,Sem.run_bind,hz,Result.andThen_ok,Sem.run_pure];rw[hpo,q1,hC];simp[newRow]
  ·have:=VC.slice (σ:=σ) (j.put id xs.length (.loc ⟨w.heap.size,0,1,vs.toArray.size⟩)) id xs.length 1 0 xs.length none _ (some ⟨w.heap.size,0,none⟩) len (Inj.vW _ _ _ _) (by omega) (by intro c' hc';cases hc')
    (fun _=>⟨_,rfl,rfl,by simp,by simp[hlen]⟩)
   show VC _ _ _ _;rw[hxl]at this ⊢;exact this
 ·cases h
end
end Go.Eng
namespace Go.Eng
open Go
variable[zb0]
section
variable{own:Nat->Prop}{σ:zP}{j:Inj}{M:Mem}{w:World}{E:Nat->Option AV}{a:Act}{P:Program}{cf:za4}
theorem zr0{z:Array Value}{n esz:Nat}(hz:z.size=esz)(qI:0<esz){i k:Nat}(hi:i<n)(hk:k<esz):(Builtin.zeroCells z n)[i*esz+k]?=z[k]?:=by
 have qB:=zjf (esz:=esz) hi;have hmod:(i*esz+k) % z.size=k:=by rw[hz,yq,yF,Nat.mod_eq_of_lt hk]
 have hb:k<z.size:=by omega
 simp only[Builtin.zeroCells,Array.getElem?_map,Array.getElem?_range,hz];rw[if_pos (by omega)];simp only[uJ];rw[hz]at hmod;rw[hmod,getElem!_pos z k hb,uh hb]
theorem zw7{t ty e:TypeId}{z:List Cl}{x:Cl}{av:AV}{M':Mem}{fp:FP}(ht:P.underlying t=some (.slice e))(hz:zhL P e=some z)(h:zgI M z x=some (av,M',fp))(hag:zM σ w)(hm:MR own σ j M w){vx:Value} :
  VC σ j x vx->za0 own σ j M w av M' ((Builtin.clear_ #[t] ty #[vx]).run P w):=by
 unfold zgI at h;split at h
 ·cases h;intro hx;cases hx;exact za0.same (v:=.tuple #[]) (by simp[Builtin.clear_,run_underlying ht]) ⟨#[],rfl,zac.nil⟩ hag hm
 ·rename_i id g es off len cap;split at h
  ·rename_i h0;subst h0;cases h;intro hx;cases hx with
   |slice _ _ _ _ _ _ _ pl ad c hj hl qV ha =>
    exact za0.same (v:=.tuple #[]) (by cases ad<;>simp[Builtin.clear_,run_underlying ht]) ⟨#[],rfl,zac.nil⟩ hag hm
  ·rename_i h0;split at h
   ·rename_i b hb0;obtain⟨hbk,BZ⟩:=zaz hb0;subst BZ;split at h
    ·rename_i hc;simp only[jh,kR,decide_eq_true_eq]at hc;obtain⟨⟨⟨⟨u9,hfz⟩,Ap⟩,hzn⟩,hzi⟩:=hc;cases h;intro hx;cases hx with
     |slice _ _ _ _ _ _ _ pl ad c hj hl qV ha =>
      obtain⟨L,rfl,_,rfl,hf2⟩:=ha (by omega);obtain⟨i,zv,hi,hzv,hzc⟩:=zew hz;have hzr:VCs σ zb1 z zv.cells.toList:=(zdu (σ:=σ) (j:=j) hzc).yv hzi;have hzs:zv.cells.size=b.esz:=by rw[<-hzn];simpa using hzr.1.symm
      obtain⟨pl',Al,hbr,k8⟩:=hm.blk id b hbk;rw[hj]at Al;cases Al;have hbr:BL σ j b L w:=hbr;obtain⟨C,T,hC,hsz,qB⟩:=hbr.heap;have hes:=hbr.esz;have CM:=hbr.fit;have qI:=hbr.pos;generalize hvs:(Builtin.zeroCells zv.cells len).toList=vs;have hvl:vs.length=len*b.esz:=by rw[<-hvs];simp[size_zeroCells,hzs]
      have hvget:∀i k,i<len->k<b.esz->∀cl,z[k]?=some cl->∃v,vs[i*b.esz+k]?=some v/\VC σ zb1 cl v:=by
       intro i k hi hk cl hcl;obtain⟨v,hv,hvc⟩:=hzr.get hcl;refine⟨v,?_,hvc⟩;rw[<-hvs,vV,zr0 hzs qI hi hk];simpa using hv
      have Dq:∀v∈vs,v.oneCell'=true:=by
       intro v hv;obtain⟨k,hk⟩:=kd hv;have hkl:=zC hk;have hi':k / b.esz<len:=(vT qI).2 (by omega);have hn':k % b.esz<z.length:=by rw[hzn];exact qW _ qI
       obtain⟨v',hv',hvc⟩:=hvget (k / b.esz) (k % b.esz) hi' (qW _ qI) _ (jv hn');have e1:k / b.esz*b.esz+k % b.esz=k:=by rw[qA];exact vt k b.esz
       rw[e1,hk]at hv';cases hv';exact hvc.BV
      have hm1:(off+len)*b.esz=off*b.esz+len*b.esz:=kW _ _ _;have hm2:(off+len)*b.esz<=b.rows.length*b.esz:=kc _ Ap;have jZ:L.off+off*L.esz+vs.length<=C.size:=by rw[hvl,hes];omega
      have hst:=run_storeCells_at P L.blk (L.off+off*L.esz) T vs 0 C w hC (by omega) Dq;simp only[kH]at hst;generalize hC':(C.toList.take (L.off+off*L.esz)++vs++C.toList.drop (L.off+off*L.esz+vs.length)).toArray=C' at hst;have Bv:C'.size=C.size:=by rw[<-hC'];simp;omega
      have vH:∀p,C'[p]?=if p<L.off+off*L.esz then C[p]? else if p<L.off+off*L.esz+vs.length then vs[p-(L.off+off*L.esz)]? else C[p]?:=by
       intro p;rw[<-hC',qL,zdb _ _ _ (by simpa using jZ)];simp
      have vn:(w.setRow L.blk C').heap[L.blk]?=some (.cells C' T (0,0)):=setRow_heap w _ C C' T _ hC;generalize Bj:b.rows.take off++List.replicate len z++b.rows.drop (off+len)=yQ;have hrl:yQ.length=b.rows.length:=by rw[<-Bj];simp;omega
      have Bp:∀i,yQ[i]?=if i<off then b.rows[i]? else if i<off+len then some z else b.rows[i]?:=by
       intro i;have:=zdb b.rows (List.replicate len z) off (by simp;omega) i;simp only[uS]at this;rw[<-Bj,this];split
       ·rfl
       ·split
        ·rw[vE,if_pos (by omega)]
        ·rfl
      refine⟨.tuple #[],w.setRow L.blk C',σ,j,?_,⟨#[],rfl,zac.nil⟩,?_,?_,?_⟩
      ·have:len≠0:=h0;simp only[Builtin.clear_,Sem.run_bind,run_underlying ht,Result.andThen_ok,qL,uA];cases len with
       |zero=>exact absurd rfl h0
       |succ m=>simp[zcJ hi hzv,hvs,hst]
      ·refine⟨?_,hag.qw⟩;intro b' o v hv';have hold:=hag.cells b' o v hv';by_cases hbb:b'=L.blk
       ·subst hbb;have hlo:o<L.off:=by
         rcases kD o L.off with h|h
         ·exact h
         ·have:=hbr.A8 o h (fun hh=>by rw[hfz]at hh;cases hh);rw[this]at hv';cases hv'
        simp only[World.cell?,hC,qm,jI,if_false]at hold;simp only[World.cell?,vn,qm,jI,if_false];rw[vH,if_pos (by omega)];exact hold
       ·simpa [World.cell?,setRow_other w L.blk b' C' hbb]using hold
      ·refine hm.write hbk hj rfl (fun k' hk'=>setRow_other w _ _ _ hk') ?_;refine⟨hes,qI,fun r hr'=>?_,by simpa [hrl]using CM,⟨C',T,vn,by rw[Bv,hsz],fun i' r n cl hi' hn=>?_⟩,fun o h1 h2=>hbr.A8 o h1 (fun h=>by rw[hfz]at h;cases h)⟩
       ·obtain⟨q,hq⟩:=kd hr';rw[Bp]at hq;split at hq
        ·exact hbr.len r (zat hq)
        ·split at hq
         ·cases hq;exact hzn
         ·exact hbr.len r (zat hq)
       ·simp only at hi' ⊢;simp only[u9,jI,if_false];have hnl:=zC hn;rw[Bp]at hi';rw[vH];by_cases h1:i'<off
        ·rw[if_pos h1]at hi';obtain⟨v,hv1,hv2⟩:=qB i' r n cl hi' hn;rw[if_neg (by simp[u9])]at hv2;have:=zjf (esz:=b.esz) h1;have:=hbr.len r (zat hi');exact⟨v,by rw[if_pos (by rw[hes];omega)];exact hv1,hv2⟩
        ·rw[if_neg h1]at hi';by_cases h2:i'<off+len
         ·rw[if_pos h2]at hi';cases hi';obtain⟨v,hv1,hv2⟩:=hvget (i'-off) n (by omega) (by omega) cl hn;have e1:i'*b.esz=off*b.esz+(i'-off)*b.esz:=by rw[<-kW];congr 1;omega
          have:=zjf (esz:=b.esz) (show i'-off<len by omega);refine⟨v,?_,hv2⟩;rw[if_neg (by rw[e1,hes];omega),if_pos (by rw[e1,hes,hvl];omega),<-hv1]
          congr 1
          rw[e1,hes];omega
         ·rw[if_neg h2]at hi';obtain⟨v,hv1,hv2⟩:=qB i' r n cl hi' hn;rw[if_neg (by simp[u9])]at hv2;have e1:(off+len)*b.esz<=i'*b.esz:=kc _ (by omega);refine⟨v,?_,hv2⟩;rw[if_neg (by rw[hes];omega),if_neg (by rw[hes,hvl];omega)];exact hv1
      ·refine⟨zP.le_refl _,fun _ _ _ _ h=>h,by simp[World.setRow],fun b' hb' ho=>?_,fun _ _ _ h=>.inl h,fun id' b' hid hb'=>?_,zd9.setRow _ _ _⟩
       ·exact setRow_other w _ _ _ (fun e=>ho (e ▸ k8 L rfl))
       ·by_cases yW:id=id'
        ·subst yW;rw[hbk]at hb';cases hb';exact⟨_,by simp[hid];rfl,by simp,fun h=>by simp at h⟩
        ·refine⟨b',by rw[jJ yW];exact hb',jq _,fun _=>⟨rfl,fun L' hL'=>?_⟩⟩;exact setRow_other w _ _ _ (fun e=>yW (hm.vR id id' b b' L' hbk hb' (by rw[e];exact Inj.v8 hj) hL'))
    ·cases h
   ·cases h
 ·cases h
def CO.Cr:CO->Bool
 |.call ..=>true
 |_=>false
def zaa(own:Nat->Prop)(σ:zP)(j:Inj)(M:Mem)(w:World)(av:AV)(M':Mem)(r:Result Next):Prop :=
 (∃v w' σ' j',r=.ok (.value v) w'/\AVR σ' j' av v/\zM σ' w'/\MR own σ' j' M' w'/\za2 own M.length σ j M w σ' j' M' w') \/
 (av=.u/\∃w' σ',r=.ok .skip w'/\zM σ' w'/\MR own σ' j M' w'/\za2 own M.length σ j M w σ' j M' w')
theorem zaa.qT{av:AV}{M':Mem}{s:Sem Value}(h:za0 own σ j M w av M' (s.run P w)):zaa own σ j M w av M' ((do pure (.value (<-s)):Sem Next).run P w):=by
 obtain⟨v,w',σ',j',h1,h2⟩:=h;exact .inl ⟨v,w',σ',j',by simp[h1],h2⟩
theorem zaa.vr{o:Option Cl}{av:AV}{M':Mem}{fp:FP}{s:Sem Value}(h:zhN o M=some (av,M',fp))(hv:∀c,o=some c->∃v,s.run P w=.ok v w/\VC σ j c v)(hag:zM σ w)(hm:MR own σ j M w) :
  zaa own σ j M w av M' ((do pure (.value (<-s)):Sem Next).run P w):=by
 simp only[zhN,jb]at h;obtain⟨c,hc,he⟩:=h;cases he;obtain⟨v,h1,h2⟩:=hv c hc;exact zaa.qT (za0.same h1 h2 hag hm)
theorem zqL{o:Option Cl}{av:AV}{M':Mem}{fp:FP}(h:zhN o M=some (av,M',fp)):∃c,o=some c/\av=.w (.c c)/\M'=M/\fp=.no:=by
 simp only[zhN,jb]at h;obtain⟨c,hc,he⟩:=h;cases he;exact⟨c,hc,rfl,rfl,rfl⟩
theorem AVR.agg{cs:List Cl}{arr:Array Value}(h:VCs σ j cs arr.toList):AVR σ j (.w (.a cs)) (.agg arr):=⟨arr,rfl,h⟩
theorem AVR.ofW{x:WV}{v:Value}(h:WVR σ j x v):AVR σ j (.w x) v:=h
theorem AVR.cell{c:Cl}{v:Value}(h:VC σ j c v):AVR σ j (.w (.c c)) v:=h
theorem zwD{id esz:Nat}{M':Mem}(h:zg M id { box:=false,esz,rows:=[],gen:=0,fz:=false,ver:=0 }=some M')(hag:zM σ w)(hm:MR own σ j M w) :
  za0 own σ j M w (.w (.c (.slice id 0 esz 0 0 none))) M' (.ok (.slice none 0 0) w):=by
 obtain⟨yy,hlt,rfl⟩:=za1 h;obtain⟨vm,hm'⟩:=hm.renew (w':=w) (b':={ box:=false,esz,rows:=[],gen:=0,fz:=false,ver:=0 }) (pl':=.empty) hlt (fun b hb=>by rw[yy]at hb;cases hb)
  (fun k b L _ hb hL=>⟨rfl,fun e=>by cases e⟩) ⟨rfl,rfl⟩ (fun L e=>by cases e)
 refine⟨.slice none 0 0,w,σ,_,rfl,?_,hag,hm',?_⟩
 ·exact VC.slice _ id 0 esz 0 0 none _ none 0 (Inj.vW _ _ _ _) (jq _) (by simp) (fun h=>absurd rfl h)
 ·refine⟨zP.le_refl _,fun id' g pl _ h=>Inj.AY vm id' g pl h,jq _,fun _ _ _=>rfl,fun _ _ _ h=>.inl h,fun id' b hid hb=>⟨b,?_,jq _,fun _=>⟨rfl,fun _ _=>rfl⟩⟩,zd9.refl _⟩;have:id≠id':=by rintro rfl;rw[yy]at hb;cases hb
  rw[jJ this];exact hb
theorem zt4{x:Operand}(h:zmI x=true):a.eval x=.slice none 0 0:=by
 unfold zmI at h;split at h
 ·rfl
 ·cases h
theorem zxx{q:Nat}{o:Oper}{co:CO}{n0:Nat}{av:AV}{M':Mem}{fp:FP}{x:Operand}(hco:(if zmI x then match P.underlying o.type with
   |some (.slice e)=>(zbL P e).map (.ko q)
   |_=>(za5 x).map .mv
  else(za5 x).map .mv)=some co) (hop:opF cf n0 E M co=some (av,M',fp))
  (hE:zcs σ j E a.tmps) (hag:zM σ w) (hm:MR own σ j M w):zaa own σ j M w av M' (.ok (.value (a.eval x)) w):=by
 have plain:(za5 x).map .mv=some co->zaa own σ j M w av M' (.ok (.value (a.eval x)) w):=by
  intro hco;simp only[jb]at hco;obtain⟨x',hx,rfl⟩:=hco;simp only[opF]at hop;split at hop
  ·rename_i v hv;cases hop;exact .inl ⟨_,w,σ,j,rfl,ztM hag.qw hE hx hv,hag,hm,za2.refl⟩
  ·cases hop
 split at hco
 ·rename_i AQ;split at hco
  ·simp only[jb]at hco;obtain⟨n,hn,rfl⟩:=hco;simp only[opF,jb,jG]at hop;obtain⟨M1,h1,rfl,rfl,rfl⟩:=hop;obtain⟨v,w',σ',j',e,r⟩:=zwD h1 hag hm;cases e;rw[zt4 AQ];exact .inl ⟨_,_,σ',j',rfl,r⟩
  ·exact plain hco
 ·exact plain hco
def OpG(own:Nat->Prop)(σ:zP)(j:Inj)(M:Mem)(w:World)(E:Nat->Option AV)(a:Act)(P:Program)(cf:za4)(x:Op):Prop :=
 ∀(q:Nat) (m:zbz) (o:Oper) (co:CO) (n0:Nat) (av:AV) (M':Mem) (fp:FP),o.op=x->zA P q m o=some co->opF cf n0 E M co=some (av,M',fp)->zcs σ j E a.tmps->zM σ w->MR own σ j M w->(∀b,w.heap.size<=b->own b)->zaa own σ j M w av M' ((execOp a.eval o).run P w)
theorem zBv{x:Operand}:OpG own σ j M w E a P cf (.move x):=by
 intro q m o co n0 av M' fp ho hco hop hE hag hm k8;simp only[zA,ho]at hco;have:=zxx hco hop hE hag hm;simp only[execOp,ho];exact this
theorem zyp{x:Operand}:OpG own σ j M w E a P cf (.assign x):=by
 intro q m o co n0 av M' fp ho hco hop hE hag hm k8;simp only[zA,ho]at hco;have:=zxx hco hop hE hag hm;simp only[execOp,ho];exact this
theorem zBt{c x y:Operand}:OpG own σ j M w E a P cf (.pick c x y):=by
 intro q m o co n0 av M' fp ho hco hop hE hag hm k8;simp only[zA,ho]at hco;split at hco
 ·rename_i c' x' y' hc hx hy;cases hco;simp only[opF]at hop;split at hop
  ·rename_i t ht;split at hop
   ·rename_i v hv;cases hop;have hcv:a.eval c=.bool t:=zmx (zWl hag.qw hE hc ht);refine .inl ⟨if t then a.eval x else a.eval y,w,σ,j,?_,?_,hag,hm,za2.refl⟩
    ·simp[execOp,ho,hcv,asBool]
    ·cases t with
     |true=>exact zWl hag.qw hE hx (by simpa using hv)
     |false=>exact zWl hag.qw hE hy (by simpa using hv)
   ·cases hop
  ·cases hop
 ·cases hco
theorem zzV{t:TypeId}:OpG own σ j M w E a P cf (.alloc t):=by
 intro q m o co n0 av M' fp ho hco hop hE hag hm k8;simp only[zA,ho]at hco;split at hco
 ·rename_i zs hz;cases hco;simp only[opF,Opd.ev]at hop;split at hop
  ·rename_i hc;simp only[jh,decide_eq_true_eq]at hc;simp only[jb]at hop;obtain⟨M1,hM1,he⟩:=hop;cases he;obtain⟨i,zv,hi,hzv,hzc⟩:=zew hz;have:=zaa.qT (zvD (P:=P) (t:=t) (vx:=zv) (zdu hzc) rfl hc.2 hM1 hag hm k8);simpa [execOp,ho,Instr.alloc,zcJ hi hzv]using this
  ·cases hop
 ·cases hco
theorem zCz{t:TypeId}{x:Operand}:OpG own σ j M w E a P cf (.box t x):=by
 intro q m o co n0 av M' fp ho hco hop hE hag hm k8;simp only[zA,ho]at hco;split at hco
 ·rename_i x' n hx hn;cases hco;simp only[opF]at hop;split at hop
  ·rename_i v hv;split at hop
   ·rename_i hc;simp only[jh,decide_eq_true_eq]at hc;simp only[jb]at hop;obtain⟨M1,hM1,he⟩:=hop;cases he;have:=zaa.qT (zvD (P:=P) (t:=t) (vx:=a.eval x) (zWl hag.qw hE hx hv).cells hc.1 hc.2 hM1 hag hm k8);simpa [execOp,ho,Instr.box]using this
   ·cases hop
  ·cases hop
 ·cases hco
theorem zzT{t:TypeId}{parts:Array (Nat×Operand)}:OpG own σ j M w E a P cf (.build t parts):=by
 intro q m o co n0 av M' fp ho hco hop hE hag hm k8;simp only[zA,ho]at hco;split at hco
 ·rename_i fs z ht hz;split at hco
  ·rename_i ps hps;simp only[jb]at hco;obtain⟨cps,hp,rfl⟩:=hco;simp only[opF,jb]at hop;obtain⟨cs,hcs,he⟩:=hop;cases he;obtain⟨arr,h1,h2⟩:=zoj (w:=w) hag.qw hE ht hz hps hp hcs;have:=zaa.qT (za0.same h1 (AVR.agg h2) hag hm);simpa only[execOp,ho]using this
  ·cases hco
 ·rename_i len e z ht hz;split at hco
  ·rename_i n hn;simp only[jb]at hco;obtain⟨cps,hp,rfl⟩:=hco;simp only[opF,jb]at hop;obtain⟨cs,hcs,he⟩:=hop;cases he;obtain⟨arr,h1,h2⟩:=zo5 (w:=w) hag.qw hE ht hz hn hp hcs;have:=zaa.qT (za0.same h1 (AVR.agg h2) hag hm);simpa only[execOp,ho]using this
  ·cases hco
 ·cases hco
theorem zr7{t:TypeId}{len:Nat}{parts:Array (Nat×Operand)}:OpG own σ j M w E a P cf (.buildSlice t len parts):=by
 intro q m o co n0 av M' fp ho hco hop hE hag hm k8;simp only[zA,ho]at hco;split at hco
 ·rename_i e ht;split at hco
  ·rename_i hf;split at hco
   ·rename_i hc;obtain⟨hix,hs1,hl,hzs⟩:=hc;simp only[jb]at hco;obtain⟨xs,hxs,rfl⟩:=hco;simp only[opF]at hop;split at hop
    ·rename_i vs hvs;have hr:=zbr hag.qw hE hxs hvs;have hlen:parts.toList.length=len:=by have:=congrArg List.length hix;simpa using this
     have hpo:(parts.map fun(x:Nat×Operand)=>(x.1,a.eval x.2)).toList=(((parts.toList.map (·.2)).map a.eval).zipIdx 0).map fun x=>(x.2,x.1):=by
      apply uV;intro i;have hi:(parts.toList.map (·.1))[i]?=(List.range len)[i]?:=by rw[hix]
      simp only[Array.toList_map,qG,List.getElem?_zipIdx,Option.map_map]at hi ⊢;by_cases hil:i<parts.toList.length
      ·rw[jv hil]at hi ⊢;rw[List.getElem?_range (by omega)]at hi;simp at hi ⊢;exact hi
      ·rw[jK (by omega)];rfl
     have hz:∃zv,(zeroValue e).run P w=.ok zv w:=by
      obtain⟨zs,hzs⟩:=qz.1 hzs;obtain⟨i,zv,hi,hzv,_⟩:=zew hzs;exact⟨zv,zcJ hi hzv⟩
     obtain⟨zv,hz⟩:=hz;have:=zaa.qT (zyD (P:=P) ht hs1 hf hpo (by simpa using hlen) hl hop hr hag hm k8 hz);simpa only[execOp,ho]using this
    ·cases hop
   ·cases hco
  split at hco
  ·rename_i n z ps hn hz hp;split at hco
   ·rename_i hc;cases hco;simp only[opF]at hop;split at hop
    ·rename_i rows AP;split at hop
     ·rename_i qI;simp only[jb]at hop;obtain⟨M1,hM1,he⟩:=hop;cases he;have:=zaa.qT (zz3 hE ht hn hz hc.1 hc.2.1 hc.2.2 hp AP qI hM1 hag hm k8);simpa only[execOp,ho]using this
     ·cases hop
    ·cases hop
   ·cases hco
  ·cases hco
 ·cases hco
theorem zBx{t:TypeId}{p:Operand}:OpG own σ j M w E a P cf (.load t p):=by
 intro q m o co n0 av M' fp ho hco hop hE hag hm k8;simp only[zA,ho]at hco;split at hco
 ·rename_i p' g n hp hg hn;cases hco;simp only[opF]at hop;split at hop
  ·rename_i c hc;have:=zaa.qT (zyC hg hn hop (zWl hag.qw hE hp hc) hag hm);simpa only[execOp,ho]using this
  ·cases hop
 ·cases hco
theorem zzM{t:TypeId}{p v:Operand}:OpG own σ j M w E a P cf (.store t p v):=by
 intro q m o co n0 av M' fp ho hco hop hE hag hm k8;simp only[zA,ho]at hco;split at hco
 ·rename_i p' v' n hp hv hn;cases hco;simp only[opF]at hop;split at hop
  ·rename_i c x hc hx;obtain⟨e,w',σ',h1,h2,h3,h4⟩:=zwc hn hop (zWl hag.qw hE hp hc) (zWl hag.qw hE hv hx) hag hm;exact .inr ⟨e,w',σ',by simp[execOp,ho,h1],h2,h3,h4⟩
  ·cases hop
 ·cases hco
theorem zuZ{x:Operand}:OpG own σ j M w E a P cf (.nilCheck x):=by
 intro q m o co n0 av M' fp ho hco hop hE hag hm k8;simp only[zA,ho]at hco;simp only[jb]at hco;obtain⟨x',hx,rfl⟩:=hco;simp only[opF]at hop;have hx1:∀c,x'.ev E=some (.c c)->∃v,a.eval x=v/\VC σ j c v:=fun c h=>⟨_,rfl,zWl hag.qw hE hx h⟩
 split at hop
 ·rename_i id g i k hv;cases hop;obtain⟨v,e,hr⟩:=hx1 _ hv;have hr2:=hr;cases hr;exact .inl ⟨_,w,σ,j,by simp only[execOp,ho,e];rfl,AVR.cell hr2,hag,hm,za2.refl⟩
 ·rename_i id g hv;cases hop;obtain⟨v,e,hr⟩:=hx1 _ hv;have hr2:=hr;cases hr;exact .inl ⟨_,w,σ,j,by simp only[execOp,ho,e];rfl,AVR.cell hr2,hag,hm,za2.refl⟩
 ·rename_i f fi ca hv;cases hop;obtain⟨v,e,hr⟩:=hx1 _ hv;have hr2:=hr;cases hr;exact .inl ⟨_,w,σ,j,by simp only[execOp,ho,e];rfl,AVR.cell hr2,hag,hm,za2.refl⟩
 ·cases hop
theorem zzU{op:BinOp}{t yt:TypeId}{x y:Operand}:OpG own σ j M w E a P cf (.binOp op t x y yt):=by
 intro q m o co n0 av M' fp ho hco hop hE hag hm k8;simp only[zA,ho]at hco;split at hco
 ·rename_i x' y' hx hy;split at hco
  ·rename_i k ht;cases hco;simp only[opF]at hop;split at hop
   ·rename_i c d hc hd;have:=zaa.vr hop (fun r hr=>zAI (P:=P) (w:=w) (t:=t) (xo:=x) (yo:=y) hr (zWl hag.qw hE hx hc) (zWl hag.qw hE hy hd)) hag hm;simpa only[execOp,ho]using this
   ·cases hop
  ·rename_i ht;split at hco
   ·cases hco;simp only[opF]at hop;split at hop
    ·rename_i c d hc hd;have:=zaa.vr hop (fun r hr=>zvo (P:=P) (w:=w) (op:=.eql) (t:=t) (xo:=x) (yo:=y) ht (.inl ⟨rfl,rfl⟩) hr (zWl hag.qw hE hx hc) (zWl hag.qw hE hy hd)) hag hm;simpa only[execOp,ho]using this
    ·cases hop
   ·cases hco;simp only[opF]at hop;split at hop
    ·rename_i c d hc hd;have:=zaa.vr hop (fun r hr=>zvo (P:=P) (w:=w) (op:=.neq) (t:=t) (xo:=x) (yo:=y) ht (.inr ⟨rfl,rfl⟩) hr (zWl hag.qw hE hx hc) (zWl hag.qw hE hy hd)) hag hm;simpa only[execOp,ho]using this
    ·cases hop
   ·cases hco
  ·cases hco;simp only[opF]at hop;split at hop
   ·rename_i c d hc hd;split at hop
    ·rename_i r hr;cases hop;unfold p2F at hr;split at hr
     ·rename_i o1 a1 b1 e1;cases e1;simp only[jb]at hr;obtain⟨c1,hc1,rfl⟩:=hr;have hvx:=zWl hag.qw hE hx hc;have hvy:=zWl hag.qw hE hy hd;have hvx:VC σ j (.str a1) (a.eval x):=hvx;have hvy:VC σ j (.str b1) (a.eval y):=hvy;generalize hex:a.eval x=ex at hvx;generalize hey:a.eval y=ey at hvy;cases hvx;cases hvy;obtain⟨v,h1,h2⟩:=zTq (σ:=σ) (j:=j) (P:=P) (w:=w) (t:=t) (xo:=x) (yo:=y) hc1;have:=zaa.qT (za0.same h1 (AVR.cell h2) hag hm);simpa only[execOp,ho,hex,hey]using this
     ·rename_i e1;cases e1
     ·cases hr
    ·cases hop
   ·cases hop
  ·rename_i e ht;split at hco
   ·rename_i AQ;have hyn:a.eval y=.pointer none:=by
     unfold zq1 at AQ;split at AQ
     ·rfl
     ·cases AQ
    split at hco
    ·cases hco;simp only[opF]at hop;split at hop
     ·rename_i c hc;have:=zaa.vr hop (fun r hr=>zq0 (P:=P) (w:=w) (op:=.eql) (t:=t) (xo:=x) (yo:=y) ht (.inl ⟨rfl,rfl⟩) hr (zWl hag.qw hE hx hc)) hag hm;simpa only[execOp,ho,hyn]using this
     ·cases hop
    ·cases hco;simp only[opF]at hop;split at hop
     ·rename_i c hc;have:=zaa.vr hop (fun r hr=>zq0 (P:=P) (w:=w) (op:=.neq) (t:=t) (xo:=x) (yo:=y) ht (.inr ⟨rfl,rfl⟩) hr (zWl hag.qw hE hx hc)) hag hm;simpa only[execOp,ho,hyn]using this
     ·cases hop
    ·cases hco
   ·cases hco
  ·rename_i fs ht;split at hco
   ·rename_i sh hsh;split at hco
    ·cases hco
    ·rename_i hgd;have hok:=zs8 10000 t sh hsh;have key:∀{op:BinOp} {neg:Bool} {as bs:List Cl} {c:Cl},(op=.eql/\neg=false)\/(op=.neq/\neg=true)->x'.ev E=some (.a as)->y'.ev E=some (.a bs)->as.length=sh.length->bs.length=sh.length->((zbM sh as bs).map fun r=>Cl.bool (if neg then !r else r))=some c ->
       ∃v,(do eqGuard op t x y (a.eval x) (a.eval y);binOp op t (a.eval x) (a.eval y):Sem Value).run P w=.ok v w/\VC σ j c v:=by
      intro op neg as bs c hopp hxa hyb hl1 hl2 hcc;simp only[jb]at hcc;obtain⟨r,hr,rfl⟩:=hcc;obtain⟨va,hva,hra⟩:=zWl hag.qw hE hx hxa;obtain⟨vb,hvb,hrb⟩:=zWl hag.qw hE hy hyb;rw[hva,hvb];obtain⟨_,h1|h1⟩:=hok
      ·have he:=h1.2.2 σ j w as bs va.toList vb.toList r hra hrb hl1 hl2 hr;have he:(Op.equalIn 10000 t (.agg va) (.agg vb)).run P w=.ok r w:=by simpa using he
       rcases hopp with⟨rfl,rfl⟩ |⟨rfl,rfl⟩
       ·refine⟨.bool r,?_,.bool _ _⟩;simp only[Sem.run_bind,run_eqGuard_agg w .eql t x y va vb (by simpa using hgd),Result.andThen_ok,run_eql_struct,he]
       ·refine⟨.bool (!r),?_,.bool _ _⟩;simp only[Sem.run_bind,run_eqGuard_agg w .neq t x y va vb (by simpa using hgd),Result.andThen_ok,run_neq_struct,he]
      ·have:=h1.1;simp[zeU,ht]at this
     split at hco
     ·cases hco;simp only[opF]at hop;split at hop
      ·rename_i c d hc hd;split at hop
       ·rename_i hl;have:=zaa.vr hop (fun r hr=>key (.inl ⟨rfl,rfl⟩) hc hd hl.1 hl.2 hr) hag hm;simpa only[execOp,ho]using this
       ·cases hop
      ·cases hop
     ·cases hco;simp only[opF]at hop;split at hop
      ·rename_i c d hc hd;split at hop
       ·rename_i hl;have:=zaa.vr hop (fun r hr=>key (.inr ⟨rfl,rfl⟩) hc hd hl.1 hl.2 hr) hag hm;simpa only[execOp,ho]using this
       ·cases hop
      ·cases hop
     ·cases hco
   ·cases hco
  ·cases hco
 ·cases hco
end
end Go.Eng
namespace Go.Eng
open Go
variable[zb0]
section
variable{own:Nat->Prop}{σ:zP}{j:Inj}{M:Mem}{w:World}{E:Nat->Option AV}{a:Act}{P:Program}{cf:za4}
theorem zBr{op:UnOp}{t:TypeId}{x:Operand}:OpG own σ j M w E a P cf (.unOp op t x):=by
 intro q m o co n0 av M' fp ho hco hop hE hag hm k8;simp only[zA,ho]at hco;simp only[jb]at hco;obtain⟨x',hx,rfl⟩:=hco;simp only[opF]at hop;split at hop
 ·rename_i c hc;have:=zaa.vr (P:=P) (s:=Op.unary op (a.eval x)) hop (fun r hr=>by
   have hxr:=zWl hag.qw hE hx hc;have hxr:VC σ j c (a.eval x):=hxr;unfold unC at hr;split at hr
   ·cases hr;rw[zef hxr];exact⟨_,by simp[Op.unary,Op.intArith],.int _ _ _⟩
   ·cases hr;rw[zmx hxr];exact⟨_,by simp[Op.unary],.bool _ _⟩
   ·cases hr) hag hm
  simpa only[execOp,ho]using this
 ·cases hop
theorem zwC{s d:TypeId}{x:Operand}:OpG own σ j M w E a P cf (.convert s d x):=by
 intro q m o co n0 av M' fp ho hco hop hE hag hm k8;simp only[zA,ho]at hco;split at hco
 ·rename_i k0 k x' hs hd hx;cases hco;simp only[opF]at hop;split at hop
  ·rename_i k1 n hc;cases hop;have hv:a.eval x=.int k1 n:=zef (zWl hag.qw hE hx hc);have:=zaa.qT (P:=P) (s:=convert s d (a.eval x)) (za0.same (v:=.int k (k.wrap n)) (by rw[hv];simp[convert,run_underlying hs,run_underlying hd,Conv.intToInt]) (AVR.cell (.int _ _ _)) hag hm);simpa only[execOp,ho]using this
  ·cases hop
 ·cases hco
theorem zu0{f:FuncId}{fi ca:Array Operand}:OpG own σ j M w E a P cf (.makeFunc (.func f) fi ca):=by
 intro q m o co n0 av M' fp ho hco hop hE hag hm k8;simp only[zA,ho]at hco;split at hco
 ·rename_i fi' ca' hfi hca;cases hco;simp only[opF]at hop;split at hop
  ·rename_i as bs has hbs;split at hop
   ·rename_i vo;simp only[jh]at vo;cases hop;have cellsOf:∀{xs:List WV} {vs:List Value},xs.all (fun |.c _=>true |.a _=>false)=true->zac σ j xs vs->VCs σ j (xs.flatMap WV.cells) vs:=by
     intro xs;induction xs with
     |nil=>intro vs _ h;have:=h.yl;subst this;exact VCs.nil
     |cons x xs ih =>
      intro vs hx h;obtain⟨v,vs',rfl,h1,h2⟩:=h.qM;cases x with
      |c c=>exact VCs.cons h1 (ih (by simpa using hx) h2)
      |a cs=>simp at hx
    have h1:=cellsOf vo.1 (zbr hag.qw hE hfi has);have h2:=cellsOf vo.2 (zbr hag.qw hE hca hbs);have:=zaa.qT (P:=P) (s:=Instr.makeFunc (.func f) (fi.map a.eval) (ca.map a.eval)) (za0.same (v:=.func (.func f) (fi.map a.eval) (ca.map a.eval)) (by simp[Instr.makeFunc])
     (AVR.cell (.fn _ f _ _ _ _ (by simpa using h1.1) (by simpa using h2.1) (fun n c v hc hv=>h1.2 n c v hc (by simpa using hv)) (fun n c v hc hv=>h2.2 n c v hc (by simpa using hv)))) hag hm)
    simpa only[execOp,ho]using this
   ·cases hop
  ·cases hop
 ·cases hco
theorem ztO{t:TypeId}{l c:Operand}:OpG own σ j M w E a P cf (.makeSlice t l c):=by
 intro q m o co n0 av M' fp ho hco hop hE hag hm k8;simp only[zA,ho]at hco;split at hco
 ·rename_i e ht;split at hco
  ·rename_i n b z l' c' hn hb hz hl hc;split at hco
   ·rename_i hbp;cases hco;simp only[opF]at hop;split at hop
    ·rename_i k1 l1 k2 c1 hl1 hc1;split at hop
     ·rename_i Ai;obtain⟨q1,q2,q3,q4,q5,q6⟩:=Ai;simp only[jb]at hop;obtain⟨M1,hM1,he⟩:=hop;cases he;have hvl:a.eval l=.int k1 l1:=zef (zWl hag.qw hE hl hl1);have hvc:a.eval c=.int k2 c1:=zef (zWl hag.qw hE hc hc1);have:=zaa.qT (P:=P) (s:=Instr.makeSlice t (a.eval l) (a.eval c)) (by rw[hvl,hvc];exact ztU ht hn hb hz hbp q1 q2 q3 q4 q5 q6 hM1 hag hm k8);simpa only[execOp,ho]using this
     ·cases hop
    ·cases hop
   ·cases hco
  ·cases hco
 ·cases hco
theorem zzN{t:TypeId}{x:Operand}{lo hi mx:Option Operand}:OpG own σ j M w E a P cf (.slice t x lo hi mx):=by
 intro q m o co n0 av M' fp ho hco hop hE hag hm k8;simp only[zA,ho]at hco;split at hco
 ·rename_i e ht;split at hco
  ·rename_i n x' lo' hi' mx' hn hx hlo hhi hmx;cases hco;simp only[opF]at hop;split at hop
   ·rename_i c hc;have:=zaa.vr (P:=P) (s:=Instr.sliceAt t (a.eval x) (lo.map a.eval) (hi.map a.eval) (mx.map a.eval)) hop (fun r hr=>zwj hag.qw hE ht hn (zWl hag.qw hE hx hc) hlo hhi hmx hr) hag hm;simpa only[execOp,ho]using this
   ·cases hop
  ·cases hco
 ·cases hco
theorem ztQ{t:TypeId}{x:Operand}{f:Nat}:OpG own σ j M w E a P cf (.fieldAddr t x f):=by
 intro q m o co n0 av M' fp ho hco hop hE hag hm k8;simp only[zA,ho]at hco;split at hco
 ·rename_i fs x' ht hx;split at hco
  ·rename_i fd hf;split at hco
   ·rename_i n hn;split at hco
    ·cases hco
    ·rename_i h0;cases hco;simp only[opF]at hop;split at hop
     ·rename_i c hc;have:=zaa.vr (P:=P) (s:=Instr.fieldAt t (a.eval x) f) hop (fun r hr=>zwY ht hf hn h0 hr (zWl hag.qw hE hx hc)) hag hm;simpa only[execOp,ho]using this
     ·cases hop
   ·cases hco
  ·cases hco
 ·cases hco
theorem zzR{t:TypeId}{x:Operand}{f:Nat}:OpG own σ j M w E a P cf (.field t x f):=by
 intro q m o co n0 av M' fp ho hco hop hE hag hm k8;simp only[zA,ho]at hco;split at hco
 ·rename_i fs x' ht hx;split at hco
  ·rename_i fd hf;split at hco
   ·rename_i n g hn hg;cases hco;simp only[opF]at hop;split at hop
    ·rename_i cs hc;split at hop
     ·rename_i cs' Ch;simp only[jb]at hop;obtain⟨v,hv,he⟩:=hop;cases he;obtain⟨arr,Bc,hr⟩:=zWl hag.qw hE hx hc;obtain⟨u,h1,h2⟩:=zsW (P:=P) (w:=w) hn hg hr Ch hv;have:=zaa.qT (P:=P) (s:=Instr.field t (a.eval x) f) (za0.same (v:=u) (by rw[Bc];simp[Instr.field,run_underlying ht,hf,asAgg,h1]) (AVR.ofW h2) hag hm);simpa only[execOp,ho]using this
     ·cases hop
    ·cases hop
   ·cases hco
  ·cases hco
 ·cases hco
theorem ztP{t:TypeId}{x i:Operand}:OpG own σ j M w E a P cf (.indexAddr t x i):=by
 intro q m o co n0 av M' fp ho hco hop hE hag hm k8;simp only[zA,ho]at hco;split at hco
 ·rename_i e x' i' ht hx hi;split at hco
  ·rename_i n hn;cases hco;simp only[opF]at hop;split at hop
   ·rename_i c d hc hd;have:=zaa.vr (P:=P) (s:=Instr.indexAt t (a.eval x) (a.eval i)) hop (fun r hr=>zwV ht hn hr (zWl hag.qw hE hx hc) (zWl hag.qw hE hi hd)) hag hm;simpa only[execOp,ho]using this
   ·cases hop
  ·cases hco
 ·rename_i len e x' i' ht hx hi;split at hco
  ·rename_i n hn;cases hco;simp only[opF]at hop;split at hop
   ·rename_i c d hc hd;have:=zaa.vr (P:=P) (s:=Instr.indexAt t (a.eval x) (a.eval i)) hop (fun r hr=>zxe ht hn hr (zWl hag.qw hE hx hc) (zWl hag.qw hE hi hd)) hag hm;simpa only[execOp,ho]using this
   ·cases hop
  ·cases hco
 ·cases hco
theorem zzQ{t:TypeId}{x i:Operand}:OpG own σ j M w E a P cf (.index t x i):=by
 intro q m o co n0 av M' fp ho hco hop hE hag hm k8;simp only[zA,ho]at hco;split at hco
 ·rename_i len e x' i' ht hx hi;split at hco
  ·rename_i n g hn hg;split at hco
   ·rename_i hgn;cases hco;simp only[opF]at hop;split at hop
    ·rename_i cs k m hc hd;split at hop
     ·rename_i q hq;split at hop
      ·rename_i cs' Ch;simp only[jb]at hop;obtain⟨v,hv,he⟩:=hop;cases he;obtain⟨arr,Bc,hr⟩:=zWl hag.qw hE hx hc;have hvi:a.eval i=.int k m:=zef (zWl hag.qw hE hi hd);obtain⟨h1,h2,h3,h4⟩:=zg9 hq;have hcut':cut cs (q*n) (if g then n else 1)=some cs':=by
        cases g with
        |true=>simpa using Ch
        |false=>simp at hgn;subst hgn;simpa using Ch
       obtain⟨u,q1,q2⟩:=zsW (P:=P) (w:=w) hn hg hr hcut' hv;have hb:(0:Int)<=m/\m<(len:Int):=⟨h1,h2⟩;have:=zaa.qT (P:=P) (s:=Instr.index t (a.eval x) (a.eval i)) (za0.same (v:=u) (by rw[Bc,hvi];simp[Instr.index,asIntOf,run_underlying ht,hb,zaJ hn,h3,q1]) (AVR.ofW q2) hag hm);simpa only[execOp,ho]using this
      ·cases hop
     ·cases hop
    ·cases hop
   ·cases hco
  ·cases hco
 ·rename_i x' i' ht hx hi;cases hco;simp only[opF]at hop;split at hop
  ·rename_i c d hc hd;split at hop
   ·rename_i r hr;cases hop;unfold p2F at hr;split at hr
    ·rename_i e1;cases e1
    ·rename_i s1 k1 n1 _;split at hr
     ·rename_i hn;simp only[jb]at hr;obtain⟨b,hb,rfl⟩:=hr;have hvx:VC σ j (.str s1) (a.eval x):=zWl hag.qw hE hx hc;have hvi:a.eval i=.int k1 n1:=zef (zWl hag.qw hE hi hd);have hex:a.eval x=.string s1:=by
       generalize a.eval x=v at hvx;cases hvx;rfl
      have:=zaa.qT (P:=P) (s:=Instr.index t (a.eval x) (a.eval i)) (za0.same (v:=.int .u8 b.toNat) (by rw[hex,hvi];simp[Instr.index,asIntOf,run_underlying ht,hn,hb]) (AVR.cell (.int _ _ _)) hag hm);simpa only[execOp,ho]using this
     ·cases hr
    ·cases hr
   ·cases hop
  ·cases hop
 ·cases hco
theorem zwB{t:Operand}{i:Nat}:OpG own σ j M w E a P cf (.extract t i):=by
 intro q m o co n0 av M' fp ho hco hop hE hag hm k8;simp only[zA,ho]at hco;split at hco
 ·rename_i t';cases hco;simp only[opF]at hop;split at hop
  ·rename_i xs hxs;split at hop
   ·rename_i v hv;cases hop;obtain⟨arr,Bc,hr⟩:=zqt hE hxs;obtain⟨u,hu,hur⟩:=hr.get hv;have:=zaa.qT (P:=P) (s:=Instr.extract (a.eval (.tmp t')) i) (za0.same (v:=u) (by rw[Bc];simp at hu;simp[Instr.extract,hu]) (AVR.ofW hur) hag hm);simpa only[execOp,ho]using this
   ·cases hop
  ·cases hop
 ·cases hco
theorem zBw{t:TypeId}{x:Operand}:OpG own σ j M w E a P cf (.makeInterface t x):=by
 intro q m o co n0 av M' fp ho hco hop hE hag hm k8;simp only[zA,ho]at hco;split at hco
 ·cases hco
 ·rename_i d x' hni hd hx;cases hco;simp only[opF]at hop;split at hop
  ·rename_i v hv;split at hop
   ·rename_i r hr;cases hop;obtain⟨_,AK⟩:=zxt hr (zWl hag.qw hE hx hv);have qY:(Instr.makeInterface t (a.eval x)).run P w=.ok (.iface t (a.eval x)) w:=by
     simp only[Instr.makeInterface,Sem.run_bind,run_underlying hd,Result.andThen_ok];cases d<;>first |rfl |exact absurd rfl (hni _)
    have:=zaa.qT (za0.same qY AK hag hm);simpa only[execOp,ho]using this
   ·cases hop
  ·cases hop
 ·cases hco
theorem zBs{x:Operand}{tx t:TypeId}{ok:Bool}:OpG own σ j M w E a P cf (.typeAssert x tx t ok):=by
 intro q m o co n0 av M' fp ho hco hop hE hag hm k8;simp only[zA,ho]at hco;split at hco
 ·cases hco
 ·rename_i d zw x' hni hd hz hx;cases hco;simp only[opF]at hop;split at hop
  ·rename_i v hv;split at hop
   ·rename_i r hr;cases hop;obtain⟨i,zv,hi,hzv,hzc⟩:∃i zv,P.info? t=some i/\i.zero=some zv/\zzh zv=some zw:=by
     unfold znJ at hz;split at hz
     ·rename_i i hi;split at hz
      ·rename_i zv hzv;exact⟨i,zv,hi,hzv,hz⟩
      ·cases hz
     ·cases hz
    have hzrun:(zeroValue t).run P w=.ok zv w:=zcJ hi hzv;have CH:WVR σ j zw zv:=zkd hzc;have AK:=zxt hr (zWl hag.qw hE hx hv);simp only at AK;have nb:∀{e:Value} {rr:AV},(Instr.typeAssert (a.eval x) tx t ok).run P w=.ok e w->AVR σ j rr e->zaa own σ j M w rr M ((execOp a.eval o).run P w):=by
     intro e rr qY hrr;have:=zaa.qT (za0.same qY hrr hag hm);simpa only[execOp,ho]using this
    obtain⟨t',u',⟨he,⟨ht,hrr⟩ |⟨ht,hok,rfl⟩⟩ |⟨he,hok,rfl⟩⟩:=AK
    ·refine nb ?_ hrr;rw[he];simp only[Instr.typeAssert,Sem.run_bind,run_underlying hd,Result.andThen_ok];cases d<;>first |exact absurd rfl (hni _) |simp[ht]
    ·refine nb (e:=.tuple #[zv,.bool false]) ?_ ⟨_,rfl,zac.cons CH (zac.cons (show WVR σ j (.c (.bool false)) _ from .bool _ _) zac.nil)⟩;rw[he];simp only[Instr.typeAssert,Sem.run_bind,run_underlying hd,Result.andThen_ok];cases d<;>first |exact absurd rfl (hni _) |simp[ht,hok,hzrun]
    ·refine nb (e:=.tuple #[zv,.bool false]) ?_ ⟨_,rfl,zac.cons CH (zac.cons (show WVR σ j (.c (.bool false)) _ from .bool _ _) zac.nil)⟩;rw[he];simp only[Instr.typeAssert,Sem.run_bind,run_underlying hd,Result.andThen_ok];cases d<;>first |exact absurd rfl (hni _) |simp[hok,hzrun]
   ·cases hop
  ·cases hop
 ·cases hco
theorem zBz{q:Nat}{m:zbz}{o:Oper}{co:CO}{n0:Nat}{av:AV}{M':Mem}{fp:FP}{c:Call}(hnc:co.Cr=false)(ho:o.op=.call c)(hco:zA P q m o=some co)(hop:opF cf n0 E M co=some (av,M',fp))
  (hE:zcs σ j E a.tmps) (hag:zM σ w) (hm:MR own σ j M w) (k8:∀b,w.heap.size<=b->own b):zaa own σ j M w av M' ((execOp a.eval o).run P w):=by
 simp only[zA,ho]at hco;obtain⟨callee,args,argTypes⟩:=c;cases callee with
 |value f =>
  simp only at hco;split at hco
  ·cases hco;cases hnc
  ·cases hco
 |invoke r mm=>cases hco
 |builtin b =>
  cases b with
  |len =>
   simp only at hco;split at hco
   ·rename_i t x htl hxl;have e1:argTypes = #[t]:=ut (by simpa using htl);have e2:args = #[x]:=ut (by simpa using hxl);subst e1;subst e2;split at hco
    ·rename_i e x' ht hx;cases hco;simp only[opF]at hop;have fin:∀n:Nat,(∃ad c,a.eval x=.slice ad n c)->av=.w (.c (.int .i64 n))->M'=M->zaa own σ j M w av M' ((execOp a.eval o).run P w):=by
      rintro n ⟨ad,c,hv⟩ rfl rfl;refine .inl ⟨.int .i64 n,w,σ,j,?_,AVR.cell (.int _ _ _),hag,hm,za2.refl⟩;simp[execOp,ho,resolve,invoke,builtin,Builtin.len_,run_underlying ht,hv,goInt]
     split at hop
     ·rename_i id g es off len cap hc;cases hop;have hr:VC σ j _ _:=zWl hag.qw hE hx hc;generalize hv:a.eval x=v at hr;cases hr;exact fin _ ⟨_,_,hv⟩ rfl rfl
     ·rename_i es rows cap hc;cases hop;have hr:VC σ j _ _:=zWl hag.qw hE hx hc;generalize hv:a.eval x=v at hr;cases hr;exact fin _ ⟨_,_,hv⟩ rfl rfl
     ·rename_i hc;cases hop;have hr:VC σ j _ _:=zWl hag.qw hE hx hc;generalize hv:a.eval x=v at hr;cases hr;exact fin 0 ⟨_,_,hv⟩ rfl rfl
     ·cases hop
    ·rename_i x' ht hx;cases hco;simp only[opF]at hop;split at hop
     ·rename_i s hc;cases hop;have hr:VC σ j _ _:=zWl hag.qw hE hx hc;generalize hv:a.eval x=v at hr;cases hr;refine .inl ⟨.int .i64 s.size,w,σ,j,?_,AVR.cell (.int _ _ _),hag,hm,za2.refl⟩;simp[execOp,ho,resolve,invoke,builtin,Builtin.len_,run_underlying ht,hv,goInt]
     ·cases hop
    ·cases hco
   ·cases hco
  |max =>
   simp only[jb]at hco;obtain⟨xs,hxs,rfl⟩:=hco;simp only[opF]at hop;split at hop
   ·rename_i k n r hr;obtain⟨c,hc,rfl,rfl,rfl⟩:=zqL hop;have hvs:=zbr hag.qw hE hxs hr;obtain⟨v0,vs,hl,h1,h2⟩:=hvs.qM;obtain⟨u,q1,q2⟩:=zoT (P:=P) (w:=w) (mx:=true) hc h2;have hv0:v0=.int k n:=zef h1;subst hv0;refine .inl ⟨u,w,σ,j,?_,AVR.cell q2,hag,hm,za2.refl⟩;simp only[if_true]at q1;simp[execOp,ho,resolve,invoke,builtin,Builtin.max_,hl,q1]
   ·cases hop
  |min =>
   simp only[jb]at hco;obtain⟨xs,hxs,rfl⟩:=hco;simp only[opF]at hop;split at hop
   ·rename_i k n r hr;obtain⟨c,hc,rfl,rfl,rfl⟩:=zqL hop;have hvs:=zbr hag.qw hE hxs hr;obtain⟨v0,vs,hl,h1,h2⟩:=hvs.qM;obtain⟨u,q1,q2⟩:=zoT (P:=P) (w:=w) (mx:=false) hc h2;have hv0:v0=.int k n:=zef h1;subst hv0;refine .inl ⟨u,w,σ,j,?_,AVR.cell q2,hag,hm,za2.refl⟩;simp only[jI,if_false]at q1;simp[execOp,ho,resolve,invoke,builtin,Builtin.min_,hl,q1]
   ·cases hop
  |append =>
   simp only at hco;split at hco
   ·rename_i t u s x htl hxl;have e1:argTypes = #[t,u]:=ut (by simpa using htl);have e2:args = #[s,x]:=ut (by simpa using hxl);subst e1;subst e2;split at hco
    ·rename_i e e' ht hu;split at hco
     ·rename_i n b z s' x' hn hb hz hs hx;split at hco
      ·rename_i Ai;cases hco;simp only[opF]at hop;split at hop
       ·rename_i c d hc hd;have:=zaa.qT (zvJ (P:=P) (ty:=o.type) ht ⟨e',hu⟩ hn hb hz Ai.2 Ai.1 hop (zWl hag.qw hE hs hc) (zWl hag.qw hE hx hd) hag hm k8);simpa [execOp,ho,resolve,invoke,builtin]using this
       ·cases hop
      ·cases hco
     ·cases hco
    ·cases hco
   ·cases hco
  |clear =>
   simp only at hco;split at hco
   ·rename_i t x htl hxl;have e1:argTypes = #[t]:=ut (by simpa using htl);have e2:args = #[x]:=ut (by simpa using hxl);subst e1;subst e2;split at hco
    ·rename_i e ht;split at hco
     ·rename_i z x' hz hx;cases hco;simp only[opF]at hop;split at hop
      ·rename_i c hc;have:=zaa.qT (zw7 (P:=P) (ty:=o.type) ht hz hop hag hm (zWl hag.qw hE hx hc));simpa [execOp,ho,resolve,invoke,builtin]using this
      ·cases hop
     ·cases hco
    ·cases hco
   ·cases hco
  |_=>cases hco
theorem zBy{q:Nat}{m:zbz}{o:Oper}{co:CO}{n0:Nat}{av:AV}{M':Mem}{fp:FP}(hnc:co.Cr=false)(hco:zA P q m o=some co)(hop:opF cf n0 E M co=some (av,M',fp))
  (hE:zcs σ j E a.tmps) (hag:zM σ w) (hm:MR own σ j M w) (k8:∀b,w.heap.size<=b->own b):zaa own σ j M w av M' ((execOp a.eval o).run P w):=by
 have k:∀{x:Op},o.op=x->OpG own σ j M w E a P cf x->zaa own σ j M w av M' ((execOp a.eval o).run P w):=fun ho h=>h _ _ _ _ _ _ _ _ ho hco hop hE hag hm k8
 cases ho:o.op with
 |move x=>exact k ho zBv
 |assign x=>exact k ho zyp
 |pick x y z=>exact k ho zBt
 |alloc t=>exact k ho zzV
 |box t x=>exact k ho zCz
 |build t p=>exact k ho zzT
 |buildSlice t n p=>exact k ho zr7
 |load t p=>exact k ho zBx
 |store t p v=>exact k ho zzM
 |nilCheck x=>exact k ho zuZ
 |binOp op t x y yt=>exact k ho zzU
 |unOp op t x=>exact k ho zBr
 |convert s d x=>exact k ho zwC
 |makeSlice t l c=>exact k ho ztO
 |slice t x l h m=>exact k ho zzN
 |fieldAddr t x f=>exact k ho ztQ
 |field t x f=>exact k ho zzR
 |indexAddr t x i=>exact k ho ztP
 |index t x i=>exact k ho zzQ
 |extract t i=>exact k ho zwB
 |call c=>exact zBz hnc ho hco hop hE hag hm k8
 |makeInterface t x=>exact k ho zBw
 |typeAssert x tx t ok=>exact k ho zBs
 |makeFunc fn fi ca =>
  cases fn with
  |func f=>exact k ho zu0
  |_=>simp only[zA,ho]at hco;cases hco
 |_=>simp only[zA,ho]at hco;cases hco
end
end Go.Eng
