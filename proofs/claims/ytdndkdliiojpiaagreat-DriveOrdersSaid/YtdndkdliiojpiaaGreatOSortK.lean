/- This text proves that the program's slices.SortFunc of found ones sorts them by their beginnings, and of sweeps by all they say, and that slices.Sorted of maps.Keys answers a map's keys in order, by the library's contracts; no condition. -/
import Derived.Test.YtdndkdliiojpiaaGreatOCode
import Derived.Test.YtdndkdliiojpiaaGreatOTx5
import Derived.Test.YtdndkdliiojpiaaGreatShelfK
import Derived.Shelf.SlSortCmp.WholeK
import Derived.Shelf.SlSortCmp.NoneTotal
import Derived.Shelf.SlicesG.Cmp
import Derived.Shelf.SlIterI.Sorted
import Derived.Shelf.SortM.Plain
import Derived.Shelf.SortM.SortNone
import Derived.MapKept
import Derived.WalkArith
namespace Go.Proofs.YtdndkdliiojpiaaGreat
open Go.Eng Go.TrRun Go.Proofs Go.Sort Go.Lib
set_option maxHeartbeats 8000000
set_option linter.unusedSimpArgs false
set_option linter.unusedVariables false
set_option linter.unusedSectionVars false
noncomputable instance:zb0:=zww Tryz.prog (fun f=>L.lookup f) (Zpp Cs)
theorem bitLen_eq:∀(f x:Nat),x<2 ^ f->Go.Lib.bitLenAux f x=zsn x
 |0,x,h=>by
  have:x=0:=by simp at h;omega
  subst this;rfl
 |f+1,x,h=>by
  unfold Go.Lib.bitLenAux zsn;by_cases h0:x=0
  ·simp[h0]
  ·rw[if_neg h0,if_neg h0,bitLen_eq f (x / 2) (by rw[Nat.pow_succ]at h;omega)];unfold zsn;by_cases h1:x / 2=0
   ·rw[if_pos h1];have:x=1:=by omega
    subst this;rfl
   ·rw[if_neg h1];rw[Nat.log2_def x,if_pos (by omega)];omega
theorem flat_eq(k key:Nat)(hk:0<k)(zs:List (List Int)):flatK (ziq k key) k zs.toArray=(zfg k key zs).toArray:=by
 apply Array.ext
 ·simp[zoV]
 ·intro i h1 h2;have hi:i<zs.length*k:=by simpa using h1
  have hq:i / k<zs.length:=Nat.div_lt_of_lt_mul (by rw[ua];exact hi);have hm:i % k<k:=qF _ hk;have hg:=zmK k key zs (i / k) (i % k) hq hm;rw[show i / k*k+i % k=i by rw[ua];exact vJ i k]at hg;have e2:(zfg k key zs).toArray[i]=vZ (zgk k key (i % k)) (zs[i / k].getD (i % k) 0):=by
   have:=jy.1 hg;obtain⟨_,h⟩:=this;simpa using h
  rw[e2];have e1:=get_flatK (ziq k key) k zs.toArray i (by simpa using hi);rw[getElem!_pos (flatK (ziq k key) k zs.toArray) i h1]at e1;rw[e1];have e3:zs.toArray[i / k]! = zs[i / k]:=by
   rw[getElem!_pos zs.toArray (i / k) (by simpa using hq)];simp
  rw[e3];simp[ziq,hm]
theorem lt_eq(k key:Nat)(h7:key≠7):ltOf (fun x y:List Int=>Lib.compareInt (x.getD key 0) (y.getD key 0))=ltZ k key:=by
 funext x y;unfold ltOf Lib.compareInt ltZ;rw[if_neg h7];by_cases h1:x.getD key 0<y.getD key 0
 ·simp only[h1,if_true];decide
 ·by_cases h2:y.getD key 0<x.getD key 0
  ·simp only[h1,h2,if_true,if_false];decide
  ·simp only[h1,h2,if_false];decide
theorem closureF(x y:List Int)(W:World):Calls Tryz.prog zWr #[.agg (ziq 5 1 x).toArray,.agg (ziq 5 1 y).toArray] W fun e w'=>e=.returned (.int .i64 (Lib.compareInt (x.getD 1 0) (y.getD 1 0)))/\∃q os',w'=grow (W.drewN q) os':=by
 have hcon:=fun W'=>AnyG.cmp_Compare_int Tryz.laysCmp (x.getD 1 0) (y.getD 1 0) W'
 change ∀W',Calls Tryz.prog 169 _ _ _ at hcon;generalize Lib.compareInt (x.getD 1 0) (y.getD 1 0)=r at hcon ⊢;have ex:∀z:List Int,(ziq 5 1 z).toArray = #[.int .i64 (z.getD 0 0),.int .i64 (z.getD 1 0),.int .i64 (z.getD 2 0),.int .i64 (z.getD 3 0),.int .i64 (z.getD 4 0)]:=fun z=>rfl
 rw[ex,ex];generalize x.getD 0 0=x0;generalize x.getD 1 0=x1 at hcon ⊢;generalize x.getD 2 0=x2;generalize x.getD 3 0=x3;generalize x.getD 4 0=x4;generalize y.getD 0 0=y0;generalize y.getD 1 0=y1 at hcon ⊢;generalize y.getD 2 0=y2;generalize y.getD 3 0=y3;generalize y.getD 4 0=y4
 go_enter Tryz.func237,Tryz.ntmps237
 go_wp2_with (go_at_call 169;refine(hcon _).mono ?_;rintro e w' ⟨rfl,rfl⟩)
 go_ret
 exact⟨rfl,0,_,by rw[alloc_eq_grow,alloc_eq_grow,grow_grow];rfl⟩
theorem sortFC:zut Tryz.prog zWy zWr 5 1:={
 fn:=⟨_,Tryz.func236,by kernel_rfl,by kernel_rfl⟩
 pos:=by decide
 none:=fun p cap w=>AnyF.slices_SortFunc_none Tryz.laysSortF p cap _ w
 some:=fun blk off cap zs w hH hb hz=>by
  have eg:∀args w,(callFunc zWr args).run Tryz.prog w=.ok (.enter zWr args) w:=enters_of Tryz.func237 (by kernel_rfl) rfl;have hcon:=AnyQ.slices_SortFunc_eq Tryz.laysSortF 5 Tryz.isAgg275 Tryz.sizeOf275 (ziq 5 1) (fun x=>by simp[ziq]) (fun x v hv=>by
   simp only[ziq,jW]at hv;obtain⟨_,_,rfl⟩:=hv;exact zzi _ _) (fun x y=>Lib.compareInt (x.getD 1 0) (y.getD 1 0)) (by rw[lt_eq 5 1 (by decide)];exact ztY 5 1) zWr #[] blk off cap zs.toArray w eg (fun m os dk hs x y=>closureF x y _) (by unfold HoldsK;rw[flat_eq 5 1 (by decide)];exact hH) hb (by simpa using hz)
  rw[lt_eq 5 1 (by decide)]at hcon;have hbl:Lib.bitLen zs.toArray.size=zsn zs.length:=by
   rw[uX];exact bitLen_eq 64 _ (by omega)
  rw[hbl]at hcon;refine hcon.mono ?_;rintro e w' ⟨rfl,n,os,rfl⟩;refine⟨rfl,n,os,?_⟩;unfold sortWorldK putRowK;rw[<-flat_eq 5 1 (by decide)]
  congr 2
  all_goals simp[ziS] }
theorem lt_eqS:ltOf zAw=ltZ 4 7:=zBC
theorem sortSC:zut Tryz.prog zbb zar 4 7:={
 fn:=⟨_,Tryz.func191,by kernel_rfl,by kernel_rfl⟩
 pos:=by decide
 none:=fun p cap w=>AnyF.slices_SortFunc_none Tryz.laysSortS p cap _ w
 some:=fun blk off cap zs w hH hb hz=>by
  have eg:∀args w,(callFunc zar args).run Tryz.prog w=.ok (.enter zar args) w:=enters_of Tryz.func192 (by kernel_rfl) rfl;have hcon:=AnyQ.slices_SortFunc_eq Tryz.laysSortS 4 Tryz.isAgg289 Tryz.sizeOf289 (ziq 4 7) (fun x=>by simp[ziq]) (fun x v hv=>by
   simp only[ziq,jW]at hv;obtain⟨_,_,rfl⟩:=hv;exact zzi _ _) zAw (by rw[lt_eqS];exact ztY 4 7) zar #[] blk off cap zs.toArray w eg (fun m os dk hs x y=>zwK Trmixed TrL_eq TrV_ok (of_decide_eq_true (by kernel_rfl)) x y _) (by unfold HoldsK;rw[flat_eq 4 7 (by decide)];exact hH) hb (by simpa using hz)
  rw[lt_eqS]at hcon;have hbl:Lib.bitLen zs.toArray.size=zsn zs.length:=by
   rw[uX];exact bitLen_eq 64 _ (by omega)
  rw[hbl]at hcon;refine hcon.mono ?_;rintro e w' ⟨rfl,n,os,rfl⟩;refine⟨rfl,n,os,?_⟩;unfold sortWorldK putRowK;rw[<-flat_eq 4 7 (by decide)]
  congr 2
  all_goals simp[ziS] }
theorem keys_ok:∃T,∀(B m clock:Nat) (es:Array MapEntry) (ks:List Int) (w:World),w.cell? ⟨B,0,none⟩=some (.map (some m))->w.heap[m]?=some (.map es clock)->Go.MapKept.Stamped es clock->es.toList.map (·.key)=ks.map (Value.int .i64) ->
  (∀k∈ks,-9223372036854775808<=k/\k<9223372036854775808)->ks.length<=1000000 ->
  Calls Tryz.prog 74 #[.func (.func 131) #[] #[.pointer (some ⟨B,0,none⟩)]] w fun e w'=>∃v,e=.returned v/\w'.ownsRow w.heap.size T 1 v ks.length ((zfI ks).map (Value.int .i64))/\Go.RowKit.Below w.heap.size w w':=by
 refine⟨Tryz.laysStd_ren.t 26,fun B m clock es ks w hcell hmap hst hkeys hin hlen=>?_⟩;let R:Value->Option (DataW Unit×List MemPlace):=fun _=>some (.lit (.bool true),[])
 have hik:Tryz.prog.underlying (Tryz.laysKey_ren.t 26)=some (.int .i64):=Tryz.laysKey.t26;have hwf:∀a:Int,-9223372036854775808<=a/\a<9223372036854775808->(Lit.int .i64 a).wf=true:=fun a ha=>Go.WalkArith.wf_i64 ⟨ha.1,by omega⟩
 have hel:es.toList.length=ks.length:=by simpa using congrArg List.length hkeys
 have hes:∀x∈es.toList,∃a∈ks,x.key=.int .i64 a:=fun x hx=>by
  have:x.key∈es.toList.map (·.key):=qI hx;rw[hkeys]at this;obtain⟨a,ha,e⟩:=jW.1 this;exact⟨a,ha,e.symm⟩
 have hrd:∀x∈es.toList,∀a∈ks,x.key=.int .i64 a->Go.WideElems.rd Tryz.prog (Tryz.laysKey_ren.t 26) R x=some (.int .i64 a,.lit (.bool true)):=fun x hx a ha e=>by
  unfold Go.WideElems.rd;rw[e,Go.Maps.keyOf_int_mk hik (hwf a (hin a ha))];rfl
 have hms:1000000<=maxLen:=by decide
 have hown:w.ownsMap Tryz.prog (Tryz.laysKey_ren.t 26) R m ks.length (.map ((es.toList.map (Go.WideElems.rg Tryz.prog (Tryz.laysKey_ren.t 26) R)).foldr DataW.insert [])) :=
  ⟨es,clock,hmap,⟨by have:es.size=ks.length:=(by rw[<-Array.length_toList];exact hel);omega,hst,fun x hx=>by obtain⟨a,ha,e⟩:=hes x hx;exact⟨_,hrd x hx a ha e⟩⟩,by have:es.size=ks.length:=(by rw[<-Array.length_toList];exact hel);omega,rfl⟩
 have hperm:(intKeys (.map ((es.toList.map (Go.WideElems.rg Tryz.prog (Tryz.laysKey_ren.t 26) R)).foldr DataW.insert []))).Perm ks:=by
  refine((Go.WideShapes.sorted_perm _).map _).trans (List.Perm.of_eq ?_);apply Ak
  ·simpa using hel
  ·intro i h1 h2;have h3:i<es.toList.length:=by simpa using h1
   have hk:=congrArg (·[i]?) hkeys;simp only[kO,jq h3,jq h2,qX,ji]at hk;simp only[Aj];rw[Go.WideElems.rg_of (hrd _ (jf h3) _ (jf h2) hk)];rfl
 have hsz:Go.Maps.size (.map ((es.toList.map (Go.WideElems.rg Tryz.prog (Tryz.laysKey_ren.t 26) R)).foldr DataW.insert []))=ks.length:=by
  show List.length _=_;rw[(Go.WideShapes.sorted_perm _).length_eq,kl,hel]
 generalize (.map ((es.toList.map (Go.WideElems.rg Tryz.prog (Tryz.laysKey_ren.t 26) R)).foldr DataW.insert []):DataW Unit)=D0 at *;have hBl:B<w.heap.size:=by
  unfold World.cell? at hcell;split at hcell
  ·rename_i h;exact(jV.1 h).1
  ·cases hcell
 have hseq:=AnyZI.keys_gives (ρ:=Tryz.laysKey_ren) Tryz.laysKey Fence.wide 2 trivial rfl (by omega) B m ks.length D0 w hBl hcell hown;have hsort:AnyZI.SortsIn Tryz.prog Tryz.laysStd_ren Fence.wide 4 :=
  ⟨fun blk off cap ss W hH hb hs=>callsIn_wide.2 (AnyM.slices_Sort_int Tryz.laysSri blk off cap ss W hH hb hs),fun p cap W=>callsIn_wide.2 (AnyM.slices_Sort_int_none Tryz.laysSri p cap W)⟩
 have cS:=AnyZI.sorted_in Tryz.laysStd Fence.wide 5 trivial trivial trivial trivial rfl (by omega) hsort (enters_of Tryz.func130 (by kernel_rfl) rfl) 131 #[.pointer (some ⟨B,0,none⟩)] trivial (enters_of Tryz.func131 (by kernel_rfl) rfl) _ _ (by rw[hsz];omega) (by rw[hsz];omega) w hseq;refine(callsIn_wide (n:=5)).1 (cS.mono ?_);rintro e w' ⟨v,ss,rfl,hS,hrow,_,hb⟩;have hp:ss.Perm ks:=List.Perm.trans hS hperm;have he:ss.mergeSort (fun x y=>decide (x<=y))=zfI ks:=(mergeSort_of_perm_i hp).trans (zuM ks);rw[he,hp.length_eq]at hrow;exact⟨v,rfl,hrow,hb⟩
theorem keysC:Zqq Tryz.prog Zit Zhd:={ fn:=⟨_,Tryz.func74,by kernel_rfl,by kernel_rfl⟩,keys:=keys_ok }
theorem TrS_ok:∀c∈Cs,c.2.1=0->zqh Tryz.prog c:=fun c hc h0=>by
 have h:(Cs.all fun c=>c.2.1 !=0||(c==(zWy,0,64*zWr+41,false)||(c==(zbb,0,64*zar+39,false)||c==(Zit,0,64*Zhd+1,false))))=true:=by kernel_rfl
 have h1:=jw.1 h c hc;rw[h0]at h1;have h2:c=(zWy,0,64*zWr+41,false)\/c=(zbb,0,64*zar+39,false)\/c=(Zit,0,64*Zhd+1,false):=by simpa using h1
 rcases h2 with h2|h2|h2
 ·subst h2;exact⟨fun q=>absurd q (by decide),fun q=>absurd q (by decide),fun q=>absurd q (by decide),fun _=>sortFC⟩
 ·subst h2;exact⟨fun q=>absurd q (by decide),fun q=>absurd q (by decide),fun q=>absurd q (by decide),fun _=>sortSC⟩
 ·subst h2;exact⟨fun q=>absurd q (by decide),fun _=>keysC,fun q=>absurd q (by decide),fun q=>absurd q (by decide)⟩
end Go.Proofs.YtdndkdliiojpiaaGreat
