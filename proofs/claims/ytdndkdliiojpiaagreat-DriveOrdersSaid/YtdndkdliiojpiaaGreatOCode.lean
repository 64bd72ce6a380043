/- This text proves that the listed functions are this seat's program's, compiled; no condition. -/
import Derived.Test.YtdndkdliiojpiaaGreatOTb10
import Derived.Test.YtdndkdliiojpiaaGreatRows
namespace Go.Proofs.YtdndkdliiojpiaaGreat
open Go.Eng Go.TrRun
def frc{α:Type}:List Nat->(List Nat->α)->α
 |[],k=>k []
 |x::t,k=>frc t fun t'=>k (x::t')
theorem frc_eq{α:Type}:∀(l:List Nat)(k:List Nat->α),frc l k=k l
 |[],_=>rfl
 |x::t,k=>by rw[frc,frc_eq t]
def lvO:List zaG->List Nat->List Nat
 |[],l=>l
 |o::os,l=>frc (lvO os l) fun l'=>union (match o.dst with |some d=>l'.filter (· !=d) |none=>l') o.slots
theorem lvO_eq:∀(os:List zaG)(l:List Nat),lvO os l=zCf os l
 |[],_=>rfl
 |o::os,l=>by rw[lvO,frc_eq,lvO_eq os l];rfl
def lvS:CC->List Nat->List (Nat×List Nat)->List Nat->List Nat
 |.skip,l,_,_=>l
 |.region _ ops _ _,l,_,_=>lvO ops l
 |.seq a b,l,ex,rt=>frc (lvS b l ex rt) fun m=>lvS a m ex rt
 |.cond c a b,l,ex,rt=>frc (lvS a l ex rt) fun x=>frc (lvS b l ex rt) fun y=>union (union x y) c.slots
 |.block id b,l,ex,rt=>lvS b l ((id,l)::ex) rt
 |.loop _ b,_,ex,rt=>frc (lvS b [] ex rt) fun l1=>frc (lvS b l1 ex rt) fun l2=>lvS b l2 ex rt
 |.exit id,_,ex,_=>(ex.lookup id).getD []
 |.ret,_,_,rt=>rt
 |.rng f a caps,l,ex,rt=>lvC (.rng f a caps) l ex rt
theorem lvS_eq:∀(c:CC)(l:List Nat)(ex:List (Nat×List Nat))(rt:List Nat),lvS c l ex rt=lvC c l ex rt
 |.skip,_,_,_=>rfl
 |.region _ ops _ _,l,_,_=>lvO_eq ops l
 |.seq a b,l,ex,rt=>by rw[lvS,frc_eq,lvS_eq a,lvS_eq b,lvC]
 |.cond c a b,l,ex,rt=>by rw[lvS,frc_eq,frc_eq,lvS_eq a,lvS_eq b,lvC]
 |.block id b,l,ex,rt=>by rw[lvS,lvS_eq b,lvC]
 |.loop _ b,_,ex,rt=>by rw[lvS,frc_eq,frc_eq,lvS_eq b,lvS_eq b,lvS_eq b,lvC]
 |.exit id,_,ex,_=>rfl
 |.ret,_,_,rt=>rfl
 |.rng f a caps,l,ex,rt=>rfl
def anS:CC->List Nat->List (Nat×List Nat)->List Nat->CC
 |.skip,_,_,_=>.skip
 |.region nA ops prs _,l,_,_=>.region nA ops prs (some l)
 |.seq a b,l,ex,rt=>frc (lvS b l ex rt) fun m=>.seq (anS a m ex rt) (anS b l ex rt)
 |.cond c a b,l,ex,rt=>.cond c (anS a l ex rt) (anS b l ex rt)
 |.block id b,l,ex,rt=>.block id (anS b l ((id,l)::ex) rt)
 |.loop _ b,l,ex,rt=>frc (lvS (.loop none b) l ex rt) fun m=>.loop (some m) (anS b m ex rt)
 |.exit id,_,_,_=>.exit id
 |.ret,_,_,_=>.ret
 |.rng f v caps,_,_,_=>.rng f v caps
theorem anS_eq:∀(c:CC)(l:List Nat)(ex:List (Nat×List Nat))(rt:List Nat),anS c l ex rt=annot c l ex rt
 |.skip,_,_,_=>rfl
 |.region _ _ _ _,_,_,_=>rfl
 |.seq a b,l,ex,rt=>by rw[anS,frc_eq,lvS_eq,anS_eq a,anS_eq b,annot]
 |.cond c a b,l,ex,rt=>by rw[anS,anS_eq a,anS_eq b,annot]
 |.block id b,l,ex,rt=>by rw[anS,anS_eq b,annot]
 |.loop _ b,l,ex,rt=>by rw[anS,frc_eq,lvS_eq,anS_eq b,annot]
 |.exit id,_,_,_=>rfl
 |.ret,_,_,_=>rfl
 |.rng _ _ _,_,_,_=>rfl
def cmS(P:Program)(an:Ann)(f:FuncId):Option CFn:=match P.funcs[f]? with
 |some fn=>match fn.body,znS P fn.results.toList with
  |some c,some rs =>
   if fn.name == "runtime.NumGoroutine" then none else
   match zbj P an fn.ntmps (some (P.funcs.size+16*f)) c with
   |some cc =>
    if fn.params.size+fn.nfree<=fn.ntmps/\zeV c<=16 then
     frc (rs.map RC.slots) fun rt=>some { frz:=an.frz f,rnd:=none,nargs:=fn.params.size+fn.nfree,ntmps:=fn.ntmps,code:=anS cc rt [] rt,res:=rs }
    else none
   |none=>none
  |_,_=>none
 |none=>none
theorem cmS_eq(P:Program)(an:Ann)(f:FuncId):cmS P an f=zoZ P an true f:=by
 simp only[cmS,frc_eq,anS_eq,zoZ,if_true];rfl
def zcS(P:Program)(an:Ann)(f:FuncId):Option CFn:=if f<P.funcs.size then cmS P an f else zho P an true f
theorem zcS_eq(P:Program)(an:Ann):(fun p:Nat×CFn=>zcF P an true p.1)=fun p=>zcS P an p.1:=by funext p;rw[zcF,zcS,cmS_eq]
theorem TrL_at0:((L.drop 0).take 40).map (fun p=>zcF Tryz.prog an true p.1)=((L.drop 0).take 40).map fun p=>some p.2:=by (rw[zcS_eq];kernel_rfl)
theorem TrL_at40:((L.drop 40).take 40).map (fun p=>zcF Tryz.prog an true p.1)=((L.drop 40).take 40).map fun p=>some p.2:=by (rw[zcS_eq];kernel_rfl)
theorem TrL_at80:((L.drop 80).take 40).map (fun p=>zcF Tryz.prog an true p.1)=((L.drop 80).take 40).map fun p=>some p.2:=by (rw[zcS_eq];kernel_rfl)
theorem TrL_at120:((L.drop 120).take 40).map (fun p=>zcF Tryz.prog an true p.1)=((L.drop 120).take 40).map fun p=>some p.2:=by (rw[zcS_eq];kernel_rfl)
theorem TrL_at160:((L.drop 160).take 40).map (fun p=>zcF Tryz.prog an true p.1)=((L.drop 160).take 40).map fun p=>some p.2:=by (rw[zcS_eq];kernel_rfl)
theorem TrL_at200:((L.drop 200).take 40).map (fun p=>zcF Tryz.prog an true p.1)=((L.drop 200).take 40).map fun p=>some p.2:=by (rw[zcS_eq];kernel_rfl)
theorem TrL_at240:((L.drop 240).take 40).map (fun p=>zcF Tryz.prog an true p.1)=((L.drop 240).take 40).map fun p=>some p.2:=by (rw[zcS_eq];kernel_rfl)
theorem TrL_eq:(L.map fun p=>zcF Tryz.prog an true p.1)=L.map fun p=>some p.2:=by
 have h:=zmE (n:=40) (i:=0) TrL_at0 (zmE (n:=40) (i:=40) TrL_at40 (zmE (n:=40) (i:=80) TrL_at80 (zmE (n:=40) (i:=120) TrL_at120 (zmE (n:=40) (i:=160) TrL_at160 (zmE (n:=40) (i:=200) TrL_at200 (zmE (n:=40) (i:=240) TrL_at240 (zsc (kK (by kernel_rfl)))))))));simpa only[u7]using h
theorem TrV_ok:zql Tryz.prog L=true:=by kernel_rfl
theorem TrC_ok:(Cs.all fun c=>c.2.1==0||zf2 Tryz.prog c.1 c.2.1 c.2.2.1)=true:=by kernel_rfl
theorem Trmixed:Tryz.prog.follows .mixedOrders=true:=by kernel_rfl
theorem Trlaid:laidOutB Tryz.prog=true:=by kernel_rfl
theorem Trmaps:mapsRowed Tryz.prog=true:=by kernel_rfl
theorem Trfull:((List.range Tryz.prog.types.size).all fun t=>match Tryz.prog.underlying t with |some (.slice e)=>decide (0<Tryz.prog.cellsOf e) |_=>true)=true:=by kernel_rfl
end Go.Proofs.YtdndkdliiojpiaaGreat
