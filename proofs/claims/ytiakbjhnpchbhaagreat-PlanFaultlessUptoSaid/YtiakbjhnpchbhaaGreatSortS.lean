/- This text proves that the program's slices.SortFunc of sweeps sorts them by all they say, by the library's contract; no condition. -/
import Derived.Test.YtiakbjhnpchbhaaGreatCode
import Derived.Test.YtiakbjhnpchbhaaGreatTx5
import Derived.Test.YtiakbjhnpchbhaaGreatShelf
import Derived.Shelf.SlSortCmp.WholeK
import Derived.Shelf.SlSortCmp.NoneTotal
import Derived.Shelf.SlicesG.Cmp
namespace Go.Proofs.YtiakbjhnpchbhaaGreat
open Go.Eng Go.TrRun Go.Proofs Go.Sort Go.Lib
set_option linter.unusedSimpArgs false
set_option linter.unusedVariables false
set_option maxRecDepth 10000
set_option linter.unusedSectionVars false
noncomputable instance:zb0:=zww Tryz.prog fun f=>L.lookup f
theorem bitLen_eq:∀(f x:Nat),x<2 ^ f->Go.Lib.bitLenAux f x=zsn x
 |0,x,h=>by
  have:x=0:=by simp at h;omega
  subst this;rfl
 |f+1,x,h=>by
  unfold Go.Lib.bitLenAux zsn;by_cases h0:x=0
  ·simp[h0]
  ·rw[if_neg h0,if_neg h0,bitLen_eq f (x / 2) (by rw[Ah]at h;omega)];unfold zsn;by_cases h1:x / 2=0
   ·rw[if_pos h1];have:x=1:=by omega
    subst this;rfl
   ·rw[if_neg h1];rw[Nat.log2_def x,if_pos (by omega)];omega
theorem flat_eq(k key:Nat)(hk:0<k)(zs:List (List Int)):flatK (ziq k key) k zs.toArray=(zfg k key zs).toArray:=by
 apply Array.ext
 ·simp[zoV]
 ·intro i h1 h2;have hi:i<zs.length*k:=by simpa using h1
  have hq:i / k<zs.length:=Nat.div_lt_of_lt_mul (by rw[qA];exact hi);have hm:i % k<k:=qW _ hk;have hg:=zmK k key zs (i / k) (i % k) hq hm;rw[show i / k*k+i % k=i by rw[qA];exact vt i k]at hg;have e2:(zfg k key zs).toArray[i]=vZ (zgk k key (i % k)) (zs[i / k].getD (i % k) 0):=by
   have:=kh.1 hg;obtain⟨_,h⟩:=this;simpa using h
  rw[e2];have e1:=get_flatK (ziq k key) k zs.toArray i (by simpa using hi);rw[getElem!_pos (flatK (ziq k key) k zs.toArray) i h1]at e1;rw[e1];have e3:zs.toArray[i / k]! = zs[i / k]:=by
   rw[getElem!_pos zs.toArray (i / k) (by simpa using hq)];simp
  rw[e3];simp[ziq,hm]
theorem lt_eqS:ltOf zAw=ltZ 4 7:=zBC
theorem sortSC:zut Tryz.prog zbb zar 4 7:={
 fn:=⟨_,Tryz.func199,by kernel_rfl,by kernel_rfl⟩
 pos:=by decide
 none:=fun p cap w=>AnyF.slices_SortFunc_none Tryz.laysSortS p cap _ w
 some:=fun blk off cap zs w hH hb hz=>by
  have eg:∀args w,(callFunc zar args).run Tryz.prog w=.ok (.enter zar args) w:=enters_of Tryz.func200 (by kernel_rfl) rfl;have hcon:=AnyQ.slices_SortFunc_eq Tryz.laysSortS 4 Tryz.isAgg236 Tryz.sizeOf236 (ziq 4 7) (fun x=>by simp[ziq]) (fun x v hv=>by
   simp only[ziq,kJ]at hv;obtain⟨_,_,rfl⟩:=hv;exact zzi _ _) zAw (by rw[lt_eqS];exact ztY 4 7) zar #[] blk off cap zs.toArray w eg (fun m os dk hs x y=>zwK Trmixed TrL_eq TrV_ok (of_decide_eq_true (by kernel_rfl)) x y _) (by unfold HoldsK;rw[flat_eq 4 7 (by decide)];exact hH) hb (by simpa using hz)
  rw[lt_eqS]at hcon;have hbl:Lib.bitLen zs.toArray.size=zsn zs.length:=by
   rw[yT];exact bitLen_eq 64 _ (by omega)
  rw[hbl]at hcon;refine hcon.mono ?_;rintro e w' ⟨rfl,n,os,rfl⟩;refine⟨rfl,n,os,?_⟩;unfold sortWorldK putRowK;rw[<-flat_eq 4 7 (by decide)]
  congr 2
  all_goals simp[ziS] }
theorem TrS_ok:∀c∈Cs,c.2.1=0->zqh Tryz.prog c:=fun c hc h0=>by
 have h:(Cs.all fun c=>c.2.1 !=0||c==(zbb,0,64*zar+39,false))=true:=by kernel_rfl
 have h1:=jA.1 h c hc;rw[h0]at h1;have h2:c=(zbb,0,64*zar+39,false):=by simpa using h1
 subst h2;exact fun _=>sortSC
end Go.Proofs.YtiakbjhnpchbhaaGreat
