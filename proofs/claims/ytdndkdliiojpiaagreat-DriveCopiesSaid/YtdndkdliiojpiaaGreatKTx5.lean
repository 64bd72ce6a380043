/- This text proves what functions of this seat's program answer, run by the evaluator; no condition. -/
import Derived.Test.YtdndkdliiojpiaaGreatKTx4
import Derived.WalkSmall
set_option maxHeartbeats 8000000
set_option linter.unusedVariables false
set_option linter.unusedSimpArgs false
set_option linter.unusedSectionVars false
set_option maxRecDepth 10000
namespace Go.TrRun
open Go Go.Eng Go.PlanLaw
variable{S:StV}{zs:List Zon}{ss:List Sgn}
theorem LM.peq{k k2:Nat}{d e:NdV}{g f:RgV}{c c2:Int}{es fs:List Zou}{v w u p q v2 w2 u2 p2 q2:Nat}{M:Mem}(h:LM k S d g c es v w u p q M)(h2:LM k2 S e f c2 fs v2 w2 u2 p2 q2 M)(hne:k≠k2):zCC M .peq [Pt k,Pt k2]=some (.w (Bo false),M,.no):=by
 have a:=h.nd;have b:=h2.nd;simp[zCC,Zr8,look,a,b,hne]
theorem Zsk(hL:ZkT S zs ss)(ht:S.t0=0)(n r dl bu si s sp ln ac br ra:Int)(sg:Bool)(l l2:List Zjo)
  (hSet:R L Cs ZlI [.a (stA n r dl bu si s sp ln ac br ra sg)] []=some (.w (.a (ZlR S)),[]))
  (hAw:R L Cs ZlH [] []=some (.w (Bo true),[])) :
  ∃M',R L Cs ZrM [.a (stA n r dl bu si s sp ln ac br ra sg),.c (.jb (ZoM l)),.c (.jb (ZoM l2))] []=some (.w (Bo true),M'):=by
 have hSm:=Zqn l;have hSm2:=Zqn l2;have c1:∀M,zx (R L Cs) ⟨true⟩ (.c (.fn ZlI [] [])) [.a (stA n r dl bu si s sp ln ac br ra sg)] M=some (.w (.a (ZlR S)),M,.no):=fun M=>by simp[hSet]
 have c2:∀M,zx (R L Cs) ⟨true⟩ (.c (.fn ZoI [] [])) [.c (.jb (ZoM l))] M=some (.w (Bo (smB l)),M,.no):=fun M=>by simp[hSm]
 have c3:∀M,zx (R L Cs) ⟨true⟩ (.c (.fn ZoI [] [])) [.c (.jb (ZoM l2))] M=some (.w (Bo (smB l2)),M,.no):=fun M=>by simp[hSm2]
 have c4:∀M,zx (R L Cs) ⟨true⟩ (.c (.fn ZlH [] [])) [] M=some (.w (Bo true),M,.no):=fun M=>by simp[hAw]
 rw[zUa ZrV rfl];by_cases hl:smB l=true
 ·rw[hl]at c2;by_cases hl2:smB l2=true
  ·rw[hl2]at c3;by_cases l4:l.length<=4
   ·have d4:¬(4:Int)<l.length:=by omega
    by_cases m4:l2.length<=4
    ·have e4':¬(4:Int)<l2.length:=by omega
     have Di:=Znz hL.ok hL.be;have hN:zx (R L Cs) ⟨true⟩ (.c (.fn ZlW [] [])) [.a (ZlR S)] [bx 12 (stA n r dl bu si s sp ln ac br ra sg)]=some (.t [Pt 1,W 0],[bx 12 (stA n r dl bu si s sp ln ac br ra sg),bxv 4 46 (ndX S (nd0 S) 2 3),bxv 0 12 (rgC 2 (rg0 S)),mpB 0 [] 0],.no):=by
      simp[ndM,ndC,rgC,mpB,bxv,nd0,rg0,ZlR]at Di;simp[Di,ndX,nd0,rg0,ZlR]
     have hM:LM 1 S (nd0 S) (rg0 S) 0 [] 4 0 0 2 3 [bx 12 (stA n r dl bu si s sp ln ac br ra sg),bxv 4 46 (ndX S (nd0 S) 2 3),bxv 0 12 (rgC 2 (rg0 S)),mpB 0 [] 0]:=⟨rfl,rfl,rfl,by decide,by decide,by decide⟩;have hl8:=(Zp1 hl).1;have hl28:=(Zp1 hl2).1;obtain⟨d,g,c,es,v,w,u,p,q,M1,h1,yP,hM1,hLp⟩:=Zsw hL l l2 hl l 0 (nd0 S) (rg0 S) 0 [] 4 0 0 2 3 _ rfl (jp _) (Zrc.zero hL ht) (by show S.t0<=0;omega) hM;have hb1:=h1.nd.jV.nd.len hL.ok;have ht1:d.told.length<=1000000000:=by have:=h1.told.len;omega
     have hk1:d.kr.jR.length<=300000000:=by have:=h1.kb.nd.len hL.ok;omega
     obtain⟨M2,hCp,hM2⟩:=hM1.copy h1.nd.rg.few h1.nd.rg.ini (by omega);obtain⟨n1,n2,n3⟩:=hM1.len;have hNm:=hM1.app M2;have hBy:=hNm.bytes ht1 hk1;obtain⟨k2,hk2⟩:∃k2,k2=M1.length:=⟨_,rfl⟩;have hA:Zr5 1 p q k2 (M1.length+1) (M1.length+2):=⟨⟨by omega,by omega,by omega⟩,⟨by omega,by omega,by omega⟩,⟨by omega,by omega,by omega⟩⟩;generalize M1.length+1=p2 at *;generalize M1.length+2=q2 at *;rw[<-hk2]at hCp hM2;have hSa:=hM2.sameC hNm hA.symm ht1 hk1;have hPe:=hM2.peq hNm (by omega);have hlk2:=hM2.len.1;obtain⟨N,hN2⟩:∃N,N=M1++M2:=⟨_,rfl⟩;rw[<-hN2]at hCp hM2 hNm hBy hSa hPe hlk2;have hNl:=hNm.len;have hM2l:=hM2.len;obtain⟨dz,z,f',c2',fs',v2',w2',u2',p2',q2',M3,e1,e2,e3,e4,e5,e6,e7,e8⟩:=Zsv hL l2 hl2 (ndB d) (N.length+1) N.length k2 (by omega) (by omega) (by omega) (p:=p) (q:=q) ⟨by omega,by omega,by omega⟩ l2 0 l.length d (Zr6 g) c es 3 1 0 p2 q2 (N++[some (nbB [] 0)]) [] rfl (jp _) rfl (by omega) h1.copy yP (hNm.app _) (hM2.app _) hA (by simp) ⟨by omega,by omega,by omega⟩;have hBz:=e4.bytes ht1 hk1;have ha3:N.length<M3.length:=(jK.1 e7).1;have hk3:=e5.len;have hn3:=e4.len;have hz:N.length≠1/\N.length≠p/\N.length≠q:=⟨by omega,by omega,by omega⟩;obtain⟨g4,c4',es4,v4,w4,u4,p4,q4,M4,r1,r2,r3,r4,r5⟩:=Zsu hL l2 hl2 M3.length N.length k2 (by omega) (by omega) ha3 dz l2 dz 0 l.length (24*l.length) d d g (Zr6 g) c c es es v w u p q M3 e2 rfl rfl (jp _) (by omega) h1 yP ⟨rfl,rfl,rfl,rfl,fun _ _=>rfl⟩ e4 e5 e6 e7 hz;have hSb:=r2.sameC r3 r4 (by have:=r1.told.len;omega) (by have:=r1.kb.nd.len hL.ok;omega);simp only[d1E,d2E,d3E,d3X,ndS,jg,je,jo]at hLp hBy e8 hBz r5;have q1:M1≠[]:=fun h=>by rw[h]at n1;exact absurd n1 (by simp)
     have q2':N≠[]:=fun h=>by rw[h]at hlk2;exact absurd hlk2 (by simp)
     have q3:M3≠[]:=fun h=>by rw[h]at ha3;exact absurd ha3 (by simp)
     have q4:M4≠[]:=fun h=>by have:=r2.len.1;rw[h]at this;exact absurd this (by simp)
     clear Di hSm hSm2 hM h1 hM1 hM2 hNm hA e2 e3 e4 e5 e6 e7 r1 r2 r3 r4 hN2;simp[-zx,-zCC,z5,c1,c2,c3,c4,hN,hLp,hCp,hBy,hPe,hSa,e8,hBz,r5,hSb,ZsT,zg,d4,e4',q1,q2',q3,q4]
    ·have e4':(4:Int)<l2.length:=by omega
     simp[-zx,z5,c2,c3,c4,d4,e4']
   ·have d4:(4:Int)<l.length:=by omega
    simp[-zx,z5,c2,c3,c4,d4]
  ·simp only[vz]at hl2;rw[hl2]at c3;simp[-zx,z5,c2,c3,c4]
 ·simp only[vz]at hl;rw[hl]at c2;by_cases hl2:smB l2=true
  ·rw[hl2]at c3;simp[-zx,z5,c2,c3,c4]
  ·simp only[vz]at hl2;rw[hl2]at c3;simp[-zx,z5,c2,c3,c4]
theorem Zsl:∀xs,zot [Zng,.slice Zqs,.slice Zqs] xs->∃M',R L Cs ZrM xs []=some (.w (.c (.bool true)),M'):=by
 intro xs h;simp only[zot]at h;obtain⟨c1,y1,rfl,h1,c2,y2,rfl,h2,c3,y3,rfl,h3,rfl⟩:=h;obtain⟨n,q,dl,bu,si,s,sp,ln,ac,br,ra,sg,rfl⟩:=Zp0 h1;unfold zfo at h2 h3;obtain⟨rows,rfl,_,u6⟩:=h2;obtain⟨l,rfl⟩:=Zqj u6;obtain⟨rows3,rfl,_,CH⟩:=h3;obtain⟨l2,rfl⟩:=Zqj CH;obtain⟨m,zs,ss,k,hM,hk,hS⟩:=ZnS n q dl bu si s sp ln ac br ra sg;exact Zsk (hM.law hk bu si dl s sp ln ac br ra sg) rfl n q dl bu si s sp ln ac br ra sg l l2 hS Zoj
end Go.TrRun
namespace Go.TrRun
open Go Go.Eng
theorem zq2(a:Int):R L [] zlc [W a] []=some (.w (Bo false),[]):=by
 rw[zUa zle rfl];simp[zfU]
theorem zn3(a:Int):R L [] zi5 [W a] []=some (.w (Bo false),[]):=by
 rw[zUa zi9 rfl];simp[ze6]
theorem zuB(a b:Int):R L [] zi6 [W a,W b] []=some (.w (W (zgQ a b)),[]):=by
 have h1:=zq2 a;have h2:=zq2 b;rw[zUa zja rfl];unfold zgQ;by_cases h:a<b
 ·simp[zb3,h1,h2,h]
 ·by_cases h':b<a
  ·simp[zb3,h1,h2,h,h']
  ·simp[zb3,h1,h2,h,h']
theorem zmv(a b:Int):R L [] zhQ [W a,W b] []=some (.w (W (zgQ a b)),[]):=by
 have h1:=zn3 a;have h2:=zn3 b;rw[zUa zhS rfl];unfold zgQ;by_cases h:a<b
 ·simp[zbq,h1,h2,h]
 ·by_cases h':b<a
  ·simp[zbq,h1,h2,h,h']
  ·simp[zbq,h1,h2,h,h']
theorem zxz(b:Bool):R L [] zhB [Bo b] []=some (.w (W (if b then 1 else 0)),[]):=by
 rw[zUa zp4 rfl];cases b<;>simp[zhF]
def orI(a b c d:Int):Int:=if a=0 then(if b=0 then(if c=0 then d else c) else b) else a
abbrev orE(a b c d:Int)(i:Int):Env:=[(7,.w (W 4)),(6,.w (.c (.jb [[I a],[I b],[I c],[I d]]))),(3,.w (W 0)),(8,.w (W i))]
theorem or0(a b c d:Int):R L [] zob [.c (.jb [[I a],[I b],[I c],[I d]])] []=some (.w (W (orI a b c d)),[]):=by
 have w1:IntKind.i64.wrap 1=1:=rfl;have w2:IntKind.i64.wrap 2=2:=rfl;have w3:IntKind.i64.wrap 3=3:=rfl;have w4:IntKind.i64.wrap 4=4:=rfl;have h4:Y L [] zab (some [7,6,3,8]) 0 (orE a b c d 4) []=some (.exit 0,[(9,.w (Bo false)),(3,.w (W 0)),(6,.w (.c (.jb [[I a],[I b],[I c],[I d]]))),(7,.w (W 4)),(8,.w (W 4))],[]):=by
  rw[ZfM zab.eq_1];simp
 have h3:Y L [] zab (some [7,6,3,8]) 0 (orE a b c d 3) []=if d=0 then Y L [] zab (some [7,6,3,8]) 0 (orE a b c d 4) [] else some (.ret,[(2,.w (W d))],[]):=by
  rw[ZfM zab.eq_1];by_cases h:d=0
  ·simp[h,w4]
  ·have h':(d !=0)=true:=by simp[h]
   simp[h,h']
 have h2:Y L [] zab (some [7,6,3,8]) 0 (orE a b c d 2) []=if c=0 then Y L [] zab (some [7,6,3,8]) 0 (orE a b c d 3) [] else some (.ret,[(2,.w (W c))],[]):=by
  rw[ZfM zab.eq_1];by_cases h:c=0
  ·simp[h,w3]
  ·have h':(c !=0)=true:=by simp[h]
   simp[h,h']
 have h1:Y L [] zab (some [7,6,3,8]) 0 (orE a b c d 1) []=if b=0 then Y L [] zab (some [7,6,3,8]) 0 (orE a b c d 2) [] else some (.ret,[(2,.w (W b))],[]):=by
  rw[ZfM zab.eq_1];by_cases h:b=0
  ·simp[h,w2]
  ·have h':(b !=0)=true:=by simp[h]
   simp[h,h']
 have h0:Y L [] zab (some [7,6,3,8]) 0 (orE a b c d 0) []=if a=0 then Y L [] zab (some [7,6,3,8]) 0 (orE a b c d 1) [] else some (.ret,[(2,.w (W a))],[]):=by
  rw[ZfM zab.eq_1];by_cases h:a=0
  ·simp[h,w1]
  ·have h':(a !=0)=true:=by simp[h]
   simp[h,h']
 rw[h4]at h3;rw[h3]at h2;rw[h2]at h1;rw[h1]at h0;rw[zUa zow rfl];unfold orI;by_cases c1:a=0<;>by_cases c2:b=0<;>by_cases c3:c=0<;>by_cases c4:d=0<;>simp only[c1,c2,c3,c4,if_true,if_false]at h0 ⊢<;>simp[zfw,h0]
def zoG(b:Bool):Int:=if b then 1 else 0
def zu6(a b:Swp):Int:=orI (zgQ a.lane b.lane) (zgQ a.lo b.lo) (zgQ a.hi b.hi) (zoG a.cap-zoG b.cap)
theorem less0(a b:Swp):R L [] zar [.a (swC a),.a (swC b)] []=some (.w (W (zu6 a b)),[]):=by
 have h1:=zuB a.lane b.lane;have h2:=zmv a.lo b.lo;have h3:=zmv a.hi b.hi;have h4:R L [] zhB [Bo a.cap] []=some (.w (W (zoG a.cap)),[]):=zxz a.cap;have h5:R L [] zhB [Bo b.cap] []=some (.w (W (zoG b.cap)),[]):=zxz b.cap;have h6:=or0 (zgQ a.lane b.lane) (zgQ a.lo b.lo) (zgQ a.hi b.hi) (zoG a.cap-zoG b.cap);have w:IntKind.i64.wrap (zoG a.cap-zoG b.cap)=zoG a.cap-zoG b.cap:=by
  cases a.cap<;>cases b.cap<;>rfl
 unfold zu6;generalize zgQ a.lane b.lane=x1 at *;generalize zgQ a.lo b.lo=x2 at *;generalize zgQ a.hi b.hi=x3 at *;generalize zoG a.cap=o1 at *;generalize zoG b.cap=o2 at *;rw[zUa zsv rfl];simp[zjq,swC,h1,h2,h3,h4,h5,h6,w,zg,zX]
theorem zz5(a b:Swp):(zu6 a b<0)<->ltS a b=true:=by
 rw[zz2];unfold zu6 orI zgQ zoG;by_cases h1:a.lane<b.lane
 ·simp[h1]
 ·by_cases h2:b.lane<a.lane
  ·have:¬a.lane=b.lane:=by omega
   simp[h1,h2,this]
  ·have e1:a.lane=b.lane:=by omega
   by_cases h3:a.lo<b.lo
   ·simp[e1,h3]
   ·by_cases h4:b.lo<a.lo
    ·have:¬a.lo=b.lo:=by omega
     simp[e1,h3,h4,this]
    ·have e2:a.lo=b.lo:=by omega
     by_cases h5:a.hi<b.hi
     ·simp[e1,e2,h5]
     ·by_cases h6:b.hi<a.hi
      ·have:¬a.hi=b.hi:=by omega
       simp[e1,e2,h5,h6,this]
      ·have e3:a.hi=b.hi:=by omega
       cases a.cap<;>cases b.cap<;>simp[e1,e2,e3]
end Go.TrRun
namespace Go.Eng
open Go
theorem zsf [zb0](hasc:zb0.asc){P:Program}{cf:za4}(hcf:FnS P cf){f:FuncId}(hf:f<zb0.base){args:List WV}{vs:Array Value}{w:World}{σ:zP}{j:Inj}{M':Mem}{c:Int}(h:cf f args []=some (.w (.c (.int .i64 c)),M'))
  (hag:zM σ w) (hvs:zac σ j args vs.toList) (hm:MR (fun b=>w.heap.size<=b) σ j [] w) :
  Calls P f vs w fun e w'=>e=.returned (.int .i64 c)/\∃q os',w'=Go.Sort.grow (w.drewN q) os':=by
 obtain⟨_,_,_,_,hc⟩:=(hcf f args [] _ _ h (fun id hid=>by simp at hid)).1 hf;refine Calls.yr (hc (fun b=>w.heap.size<=b) σ j w vs (fun _ h=>h) hag hm hvs) ?_;rintro e w' ⟨v,σ',j',rfl,hr,_,_,hst⟩;have hr:VC σ' j' (.int .i64 c) v:=hr;cases hr;refine⟨rfl,w'.drawn-w.drawn,w'.heap.extract w.heap.size w'.heap.size,?_⟩;have h1:=hst.side.os;have h2:=hst.side.output;have h3:=hst.side.tape;have h4:=hst.side.drawn hasc;have h5:=hst.frame;have h6:=hst.size;cases w' with |mk heap tape drawn os output =>
 simp only at h1 h2 h3 h4 h5 h6;subst h1;subst h2;subst h3;unfold Go.Sort.grow World.drewN;simp only[World.mk.injEq,and_true,true_and];refine⟨?_,by omega⟩;apply Array.ext_getElem?;intro i;by_cases hi:i<w.heap.size
 ·rw[qe hi];exact h5 i hi (by omega)
 ·rw[yN (by omega),qA];by_cases hi2:i<heap.size
  ·rw[if_pos (by omega)]
   congr 1;omega
  ·rw[if_neg (by omega)];exact qB (by omega)
end Go.Eng
namespace Go.TrRun
open Go Go.Eng
theorem zxp(σ:zP)(j:Inj)(x:List Int):WVR σ j (.a (swC (zik x))) (.agg (ziq 4 7 x).toArray):=by
 refine⟨_,rfl,?_⟩;have e:(ziq 4 7 x).toArray.toList=[.int .i64 (x.getD 0 0),.int .i64 (x.getD 1 0),.int .i64 (x.getD 2 0),.bool (x.getD 3 0 !=0)]:=rfl;rw[e];refine⟨rfl,fun n c v hc hv=>?_⟩
 match n with
 |0=>cases hc;cases hv;exact .int _ _ _
 |1=>cases hc;cases hv;exact .int _ _ _
 |2=>cases hc;cases hv;exact .int _ _ _
 |3=>cases hc;cases hv;exact .bool _ _
 |n+4=>cases hc
def zAw(x y:List Int):Int:=zu6 (zik x) (zik y)
theorem zBC:(fun x y=>decide (zAw x y<0))=ltZ 4 7:=by
 funext x y;have h:=zz5 (zik x) (zik y);have e:ltS (zik x) (zik y)=ltZ 4 7 x y:=by
  have k1:∀z:List Int,zji (zik z)=zsY 4 7 z:=fun z=>by
   simp[zji,zik,zsY,List.range,List.range.loop,zgk]
  simp only[ltS,ltZ,k1,if_true]
 rw[e]at h;unfold zAw;cases hz:ltZ 4 7 x y with
 |true=>exact decide_eq_true (h.2 hz)
 |false =>
  refine decide_eq_false fun h'=>?_
  rw[h.1 h']at hz;cases hz
theorem zwK{P:Program}(vq:P.follows .mixedOrders=true)(hL:(L.map fun p=>zcF P an true p.1)=L.map fun p=>some p.2)(hV:zql P L=true)(hf:zar<P.funcs.size)(x y:List Int)(W:World) :
  Calls P zar #[.agg (ziq 4 7 x).toArray,.agg (ziq 4 7 y).toArray] W fun e w'=>e=.returned (.int .i64 (zAw x y))/\∃q os',w'=Go.Sort.grow (W.drewN q) os':=by
 letI:=zww P (fun f=>L.lookup f) (Zpp []);obtain⟨n,hn⟩:=zah.1 (less0 (zik x) (zik y));exact zsf (fun c hc=>by cases hc) (zsT vq hL hV (Cs:=[]) rfl (fun c hc=>by cases hc) n) (f:=zar) hf hn (zml (W:=W) fun g row hr=>by cases hr) (.cons (zxp _ _ x) (.cons (zxp _ _ y) .nil)) MR.nil
end Go.TrRun
