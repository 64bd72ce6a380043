/- This text lists functions of this seat's program, compiled for the evaluator; no condition. -/
import Derived.Test.YtiakbjhnpchbhaaGreatEg3
import Derived.KernelRfl
import Derived.Test.YtiakbjhnpchbhaaGreatProg
set_option linter.unusedVariables false
namespace Go.TrRun
open Go Go.Eng Go.Eng.Ins Go.Proofs
set_option maxRecDepth 100000
set_option maxHeartbeats 0
noncomputable section
abbrev kZ0:Opd:=.k (.a [(I 0),(I 0),(I 0),(I 0)])
abbrev kZ1:Opd:=.k (.a [(I 0),(I 0),(I 0),(I 0),(I 0),(I 0)])
abbrev kZ2:Opd:=.k (.a [.jd,(I 0),(I 0),(I 0),(I 0),(.bool false),(.bool false)])
abbrev kZ3:Opd:=.k (.a [(I 0),.jd,.jd])
abbrev kZ4:Opd:=.k (.a [(I 0),.jd,(I 0),(I 0),.jd])
abbrev kZ5:Opd:=.k (.a [(I 0),(I 0)])
abbrev kZ6:Opd:=.k (.a [(I 0),.jd,(I 0),(I 0),(I 0),(I 0)])
abbrev kZ7:Opd:=.k (.a [.jd])
abbrev kZ8:Opd:=.k (.a [.jd,(I 0)])
abbrev kZ9:Opd:=.k (.a [(I 0)])
abbrev zS8:Opd:=.k (.a [(.bool false),(I 0),(I 0)])
abbrev zS7:Opd:=.k (.a [(I 0),.jd])
abbrev zS6:Opd:=.k (.a [(I 0),.jd,.jd,.jd,.jd])
abbrev zTb:Opd:=.k (.a [(I 0),(I 0),(I 0),(I 0),(I 0)])
abbrev zTa:Opd:=.k (.a [(I 0),(I 0),(I 0),(I 0),(I 0),(I 0),(I 0),(I 0),(I 0),(I 0)])
abbrev zS9:Opd:=.k (.a [(I 0),.jd,.jd,.jd,.jd,.jd,.jd,(I 0)])
abbrev Zfb:Opd:=.k (.a [(I 0),.jd,.jd,.jd,.jd,.jd,.jd,(I 0),(I 0),.jd,.jd])
abbrev Zfa:Opd:=.k (.a [(I 0),(I 0),(I 0),(I 0),(I 0),(I 0),(.bool false)])
instance:GlobP:=⟨fun g=>none⟩
def an:Ann:=zDv [117,158,193,194,199,202,212,217,220,223,228,230,231,232,233,234,235,236,237,238,239,243,245,246,249,250,251,252,253,254,255,256,257,258,260,261,262,263,264,265,266,267,268] [44,202,220,221,231]
def cL(bs:List CC):CC→Nat→CC×Nat×List CC
 |.seq qa qb,qn=>match cL bs qa qn with |(qc,n1,l1)=>match cL bs qb n1 with |(qd,n2,l2)=>(.seq qc qd,n2,l1++l2)
 |.cond qe qa qb,qn=>match cL bs qa qn with |(qc,n1,l1)=>match cL bs qb n1 with |(qd,n2,l2)=>(.cond qe qc qd,n2,l1++l2)
 |.block qi qb,qn=>match cL bs qb qn with |(qd,n1,ql)=>(.block qi qd,n1,ql)
 |.loop ql qb,qn=>match cL bs qb qn with |(qd,n1,l1)=>(.loop ql (bs.getD n1 .skip),n1+1,l1++[qd])
 |qc,qn=>(qc,qn,[])
def cF(qo:Option CFn)(bs:List CC):CFn×List CC:=match qo with
 |some qc=>match cL bs qc.code 0 with
  |(qx,qn,ql)=>match qc.rnd with
   |none=>({qc with code:=qx},ql)
   |some (ps,pre)=>match cL bs pre qn with |(qy,_,l2)=>({qc with code:=qx,rnd:=some (ps,qy)},ql++l2)
 |none=>(⟨false,none,0,0,.skip,[]⟩,[])
abbrev H1(f:Nat)(F:CC→CFn):Prop:=∀x,F x=(cF (zcF Tryz.prog an true f) [x]).1
abbrev K1(f k:Nat)(F:CC→CC):Prop:=∀x,F x=(cF (zcF Tryz.prog an true f) [x]).2.getD k .skip
abbrev H2(f:Nat)(F:CC→CC→CFn):Prop:=∀x y,F x y=(cF (zcF Tryz.prog an true f) [x,y]).1
abbrev K2(f k:Nat)(F:CC→CC→CC):Prop:=∀x y,F x y=(cF (zcF Tryz.prog an true f) [x,y]).2.getD k .skip
abbrev H3(f:Nat)(F:CC→CC→CC→CFn):Prop:=∀x y z,F x y z=(cF (zcF Tryz.prog an true f) [x,y,z]).1
abbrev K3(f k:Nat)(F:CC→CC→CC→CC):Prop:=∀x y z,F x y z=(cF (zcF Tryz.prog an true f) [x,y,z]).2.getD k .skip
abbrev H4(f:Nat)(F:CC→CC→CC→CC→CFn):Prop:=∀x y z u,F x y z u=(cF (zcF Tryz.prog an true f) [x,y,z,u]).1
abbrev K4(f k:Nat)(F:CC→CC→CC→CC→CC):Prop:=∀x y z u,F x y z u=(cF (zcF Tryz.prog an true f) [x,y,z,u]).2.getD k .skip
abbrev H5(f:Nat)(F:CC→CC→CC→CC→CC→CFn):Prop:=∀x y z u v,F x y z u v=(cF (zcF Tryz.prog an true f) [x,y,z,u,v]).1
abbrev K5(f k:Nat)(F:CC→CC→CC→CC→CC→CC):Prop:=∀x y z u v,F x y z u v=(cF (zcF Tryz.prog an true f) [x,y,z,u,v]).2.getD k .skip
end
end Go.TrRun
