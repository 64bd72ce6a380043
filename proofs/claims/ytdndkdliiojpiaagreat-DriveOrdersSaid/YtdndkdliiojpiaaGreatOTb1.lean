/- This text lists functions of this seat's program, compiled for the evaluator; no condition. -/
import Derived.Test.YtdndkdliiojpiaaGreatOEg3
import Derived.KernelRfl
import Derived.Test.YtdndkdliiojpiaaGreatProg
set_option linter.defProp false
set_option linter.unusedVariables false
namespace Go.TrRun
open Go Go.Eng Go.Eng.Ins Go.Proofs
set_option maxRecDepth 100000
set_option maxHeartbeats 0
noncomputable section
abbrev kZ0:Opd:=.k (.a [(I 0),(I 0),(I 0),(I 0)])
abbrev kZ1:Opd:=.k (.a [(I 0),(I 0),(I 0),(I 0),(I 0),(I 0)])
abbrev kZ2:Opd:=.k (.a [(I 0),.jc,(I 0),(I 0),(I 0),(I 0)])
abbrev kZ3:Opd:=.k (.a [(I 0),(I 0),(I 0)])
abbrev kZ4:Opd:=.k (.a [(I 0),.jc,(I 0),(I 0),.jc])
abbrev kZ5:Opd:=.k (.a [(I 0),(I 0)])
abbrev kZ6:Opd:=.k (.a [.jc])
abbrev kZ7:Opd:=.k (.a [(I 0),(I 0),(I 0),(I 0),(I 0)])
abbrev kZ8:Opd:=.k (.a [.jc,(I 0)])
abbrev kZ9:Opd:=.k (.a [(I 0)])
abbrev zS8:Opd:=.k (.a [(I 0),.jc,.jc,.jc])
abbrev zS7:Opd:=.k (.a [(I 0),.jc,.jc,.jc,.jc,.jc,(I 0),(I 0),(I 0),(I 0),(I 0),(I 0),(I 0),(I 0),(I 0),(I 0),(I 0),(I 0),(.bool false)])
abbrev zS6:Opd:=.k (.a [(I 0),.jc])
abbrev zTb:Opd:=.k (.a [(I 0),.jc,.jc,.jc,.jc])
abbrev zTa:Opd:=.k (.a [.jc,.jc,.jc])
abbrev zS9:Opd:=.k (.a [(I 0),(I 0),(I 0),(I 0),(I 0),(I 0),(I 0),(I 0),(I 0),(I 0)])
abbrev Zfb:Opd:=.k (.a [(.bool false),(I 0),(I 0)])
abbrev Zfa:Opd:=.k (.a [(I 0),.jc,.jc,.jc,.jc,.jc,.jc,(I 0)])
abbrev Zlt:Opd:=.k (.a [(I 0),.jc,.jc,.jc,.jc,.jc,.jc,(I 0),(I 0),.jc,.jc])
abbrev Zls:Opd:=.k (.a [(I 0),.jc,.jc])
abbrev ZqA:Opd:=.k (.a [(I 0),(I 0),(I 0),(I 0),(I 0),(I 0),(.bool false)])
instance:GlobP:=⟨fun g=>none⟩
def an:Ann:=Zlv [74,130,166,191,194,195,196,231,236,253,255,257,260,261,262,263,264,265,267,268,281,282,285,290,291,292,293,294,295,296,297,298,299,300,303,304,309,311,312,313,314,315,316,317,318,319,320,321,322,323,324,328,329,330,331,332,333,334,335] [13,51,63,69,74,77,78,79,80,129,172,173,194,195,255,283,290]
def cL(bs:List CC):CC→Nat→CC×Nat×List CC
 |.seq qa qb,qn=>match cL bs qa qn with |(qc,n1,l1)=>match cL bs qb n1 with |(qd,n2,l2)=>(.seq qc qd,n2,l1++l2)
 |.cond qe qa qb,qn=>match cL bs qa qn with |(qc,n1,l1)=>match cL bs qb n1 with |(qd,n2,l2)=>(.cond qe qc qd,n2,l1++l2)
 |.block qi qb,qn=>match cL bs qb qn with |(qd,n1,ql)=>(.block qi qd,n1,ql)
 |.loop ql qb,qn=>match cL bs qb qn with |(qd,n1,l1)=>(.loop ql (bs.getD n1 .skip),n1+1,l1++[qd])
 |qc,qn=>(qc,qn,[])
def cF(qo:Option CFn)(bs:List CC):CFn×List CC:=match qo with
 |some qc=>match cL bs qc.code 0 with
  |(qx,qn,ql)=>match qc.rnd with
   |none=>({qc with code:=qx},ql)
   |some (ps,pre)=>match cL bs pre qn with |(qy,_,l2)=>({qc with code:=qx,rnd:=some (ps,qy)},ql++l2)
 |none=>(⟨false,none,0,0,.skip,[]⟩,[])
noncomputable abbrev tabX(f:Nat):=cF (zcF Tryz.prog an true f)
@[simp] noncomputable abbrev H1(f:Nat){F:CC→CFn}(_:F=fun x=>(tabX f [x]).1:=by conv=>rhs;reduce):=F
@[simp] noncomputable abbrev K1(f k:Nat){F:CC→CC}(_:F=fun x=>(tabX f [x]).2.getD k .skip:=by conv=>rhs;reduce):=F
@[simp] noncomputable abbrev H2(f:Nat){F:CC→CC→CFn}(_:F=fun x y=>(tabX f [x,y]).1:=by conv=>rhs;reduce):=F
@[simp] noncomputable abbrev K2(f k:Nat){F:CC→CC→CC}(_:F=fun x y=>(tabX f [x,y]).2.getD k .skip:=by conv=>rhs;reduce):=F
@[simp] noncomputable abbrev H3(f:Nat){F:CC→CC→CC→CFn}(_:F=fun x y z=>(tabX f [x,y,z]).1:=by conv=>rhs;reduce):=F
@[simp] noncomputable abbrev K3(f k:Nat){F:CC→CC→CC→CC}(_:F=fun x y z=>(tabX f [x,y,z]).2.getD k .skip:=by conv=>rhs;reduce):=F
@[simp] noncomputable abbrev H4(f:Nat){F:CC→CC→CC→CC→CFn}(_:F=fun x y z u=>(tabX f [x,y,z,u]).1:=by conv=>rhs;reduce):=F
@[simp] noncomputable abbrev K4(f k:Nat){F:CC→CC→CC→CC→CC}(_:F=fun x y z u=>(tabX f [x,y,z,u]).2.getD k .skip:=by conv=>rhs;reduce):=F
@[simp] noncomputable abbrev H5(f:Nat){F:CC→CC→CC→CC→CC→CFn}(_:F=fun x y z u v=>(tabX f [x,y,z,u,v]).1:=by conv=>rhs;reduce):=F
@[simp] noncomputable abbrev K5(f k:Nat){F:CC→CC→CC→CC→CC→CC}(_:F=fun x y z u v=>(tabX f [x,y,z,u,v]).2.getD k .skip:=by conv=>rhs;reduce):=F
end
end Go.TrRun
