/- This text proves that the program's slices.SortFunc of found ones sorts them by their beginnings, and of sweeps by all they say, by the library's contract; no condition. -/
import Derived.Test.YtdndkdliiojpiaaGreatCode
import Derived.Test.YtdndkdliiojpiaaGreatTx4
import Derived.Test.YtdndkdliiojpiaaGreatShelf
import Derived.Shelf.SlSortCmp.WholeK
import Derived.Shelf.SlSortCmp.NoneTotal
import Derived.Shelf.SlicesG.Cmp
namespace Go.Proofs.YtdndkdliiojpiaaGreat
open Go.Eng Go.TrRun Go.Proofs Go.Sort Go.Lib
set_option maxHeartbeats 8000000
set_option linter.unusedSimpArgs false
set_option linter.unusedVariables false
set_option linter.unusedSectionVars false
noncomputable instance:zb0:=zww Tryz.prog fun f=>L.lookup f
theorem bitLen_eq:∀(f x:Nat),x<2 ^ f->Go.Lib.bitLenAux f x=zsn x
 |0,x,h=>by
  have:x=0:=by simp at h;omega
  subst this;rfl
 |f+1,x,h=>by
  unfold Go.Lib.bitLenAux zsn;by_cases h0:x=0
  ·simp[h0]
  ·rw[if_neg h0,if_neg h0,bitLen_eq f (x / 2) (by rw[Nat.pow_succ]at h;omega)];unfold zsn;by_cases h1:x / 2=0
   ·rw[if_pos h1];have:x=1:=by omega
    subst this;rfl
   ·rw[if_neg h1];rw[Nat.log2_def x,if_pos (by omega)];omega
theorem flat_eq(k key:Nat)(hk:0<k)(zs:List (List Int)):flatK (ziq k key) k zs.toArray=(zfg k key zs).toArray:=by
 apply Array.ext
 ·simp[zoV]
 ·intro i h1 h2;have hi:i<zs.length*k:=by simpa using h1
  have hq:i / k<zs.length:=Nat.div_lt_of_lt_mul (by rw[ub];exact hi);have hm:i % k<k:=uj _ hk;have hg:=zmK k key zs (i / k) (i % k) hq hm;rw[show i / k*k+i % k=i by rw[ub];exact vY i k]at hg;have e2:(zfg k key zs).toArray[i]=vZ (zgk k key (i % k)) (zs[i / k].getD (i % k) 0):=by
   have:=kr.1 hg;obtain⟨_,h⟩:=this;simpa using h
  rw[e2];have e1:=get_flatK (ziq k key) k zs.toArray i (by simpa using hi);rw[getElem!_pos (flatK (ziq k key) k zs.toArray) i h1]at e1;rw[e1];have e3:zs.toArray[i / k]! = zs[i / k]:=by
   rw[getElem!_pos zs.toArray (i / k) (by simpa using hq)];simp
  rw[e3];simp[ziq,hm]
theorem lt_eq(k key:Nat)(h7:key≠7):ltOf (fun x y:List Int=>Lib.compareInt (x.getD key 0) (y.getD key 0))=ltZ k key:=by
 funext x y;unfold ltOf Lib.compareInt ltZ;rw[if_neg h7];by_cases h1:x.getD key 0<y.getD key 0
 ·simp only[h1,if_true];decide
 ·by_cases h2:y.getD key 0<x.getD key 0
  ·simp only[h1,h2,if_true,if_false];decide
  ·simp only[h1,h2,if_false];decide
theorem closureF(x y:List Int)(W:World):Calls Tryz.prog zWr #[.agg (ziq 5 1 x).toArray,.agg (ziq 5 1 y).toArray] W fun e w'=>e=.returned (.int .i64 (Lib.compareInt (x.getD 1 0) (y.getD 1 0)))/\∃q os',w'=grow (W.drewN q) os':=by
 have hcon:=fun W'=>AnyG.cmp_Compare_int Tryz.laysCmp (x.getD 1 0) (y.getD 1 0) W'
 change ∀W',Calls Tryz.prog 169 _ _ _ at hcon;generalize Lib.compareInt (x.getD 1 0) (y.getD 1 0)=r at hcon ⊢;have ex:∀z:List Int,(ziq 5 1 z).toArray = #[.int .i64 (z.getD 0 0),.int .i64 (z.getD 1 0),.int .i64 (z.getD 2 0),.int .i64 (z.getD 3 0),.int .i64 (z.getD 4 0)]:=fun z=>rfl
 rw[ex,ex];generalize x.getD 0 0=x0;generalize x.getD 1 0=x1 at hcon ⊢;generalize x.getD 2 0=x2;generalize x.getD 3 0=x3;generalize x.getD 4 0=x4;generalize y.getD 0 0=y0;generalize y.getD 1 0=y1 at hcon ⊢;generalize y.getD 2 0=y2;generalize y.getD 3 0=y3;generalize y.getD 4 0=y4
 go_enter Tryz.func237,Tryz.ntmps237
 go_wp2_with (go_at_call 169;refine(hcon _).mono ?_;rintro e w' ⟨rfl,rfl⟩)
 go_ret
 exact⟨rfl,0,_,by rw[alloc_eq_grow,alloc_eq_grow,grow_grow];rfl⟩
theorem sortFC:zut Tryz.prog zWy zWr 5 1:={
 fn:=⟨_,Tryz.func236,by kernel_rfl,by kernel_rfl⟩
 pos:=by decide
 none:=fun p cap w=>AnyF.slices_SortFunc_none Tryz.laysSortF p cap _ w
 some:=fun blk off cap zs w hH hb hz=>by
  have eg:∀args w,(callFunc zWr args).run Tryz.prog w=.ok (.enter zWr args) w:=enters_of Tryz.func237 (by kernel_rfl) rfl;have hcon:=AnyQ.slices_SortFunc_eq Tryz.laysSortF 5 Tryz.isAgg275 Tryz.sizeOf275 (ziq 5 1) (fun x=>by simp[ziq]) (fun x v hv=>by
   simp only[ziq,jW]at hv;obtain⟨_,_,rfl⟩:=hv;exact zzi _ _) (fun x y=>Lib.compareInt (x.getD 1 0) (y.getD 1 0)) (by rw[lt_eq 5 1 (by decide)];exact ztY 5 1) zWr #[] blk off cap zs.toArray w eg (fun m os dk hs x y=>closureF x y _) (by unfold HoldsK;rw[flat_eq 5 1 (by decide)];exact hH) hb (by simpa using hz)
  rw[lt_eq 5 1 (by decide)]at hcon;have hbl:Lib.bitLen zs.toArray.size=zsn zs.length:=by
   rw[vn];exact bitLen_eq 64 _ (by omega)
  rw[hbl]at hcon;refine hcon.mono ?_;rintro e w' ⟨rfl,n,os,rfl⟩;refine⟨rfl,n,os,?_⟩;unfold sortWorldK putRowK;rw[<-flat_eq 5 1 (by decide)]
  congr 2
  all_goals simp[ziS] }
theorem lt_eqS:ltOf zAw=ltZ 4 7:=zBC
theorem sortSC:zut Tryz.prog zbb zar 4 7:={
 fn:=⟨_,Tryz.func191,by kernel_rfl,by kernel_rfl⟩
 pos:=by decide
 none:=fun p cap w=>AnyF.slices_SortFunc_none Tryz.laysSortS p cap _ w
 some:=fun blk off cap zs w hH hb hz=>by
  have eg:∀args w,(callFunc zar args).run Tryz.prog w=.ok (.enter zar args) w:=enters_of Tryz.func192 (by kernel_rfl) rfl;have hcon:=AnyQ.slices_SortFunc_eq Tryz.laysSortS 4 Tryz.isAgg289 Tryz.sizeOf289 (ziq 4 7) (fun x=>by simp[ziq]) (fun x v hv=>by
   simp only[ziq,jW]at hv;obtain⟨_,_,rfl⟩:=hv;exact zzi _ _) zAw (by rw[lt_eqS];exact ztY 4 7) zar #[] blk off cap zs.toArray w eg (fun m os dk hs x y=>zwK Trmixed TrL_eq TrV_ok (of_decide_eq_true (by kernel_rfl)) x y _) (by unfold HoldsK;rw[flat_eq 4 7 (by decide)];exact hH) hb (by simpa using hz)
  rw[lt_eqS]at hcon;have hbl:Lib.bitLen zs.toArray.size=zsn zs.length:=by
   rw[vn];exact bitLen_eq 64 _ (by omega)
  rw[hbl]at hcon;refine hcon.mono ?_;rintro e w' ⟨rfl,n,os,rfl⟩;refine⟨rfl,n,os,?_⟩;unfold sortWorldK putRowK;rw[<-flat_eq 4 7 (by decide)]
  congr 2
  all_goals simp[ziS] }
theorem TrS_ok:∀c∈Cs,c.2.1=0->zqh Tryz.prog c:=fun c hc h0=>by
 have h:(Cs.all fun c=>c.2.1 !=0||(c==(zWy,0,64*zWr+41,false)||c==(zbb,0,64*zar+39,false)))=true:=by kernel_rfl
 have h1:=jI.1 h c hc;rw[h0]at h1;have h2:c=(zWy,0,64*zWr+41,false)\/c=(zbb,0,64*zar+39,false):=by simpa using h1
 rcases h2 with h2|h2
 ·subst h2;exact ⟨fun q=>absurd q (by decide),fun _=>sortFC⟩
 ·subst h2;exact ⟨fun q=>absurd q (by decide),fun _=>sortSC⟩
end Go.Proofs.YtdndkdliiojpiaaGreat
