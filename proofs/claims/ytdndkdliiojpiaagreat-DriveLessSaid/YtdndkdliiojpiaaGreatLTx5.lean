/- This text proves what functions of this seat's program answer, run by the evaluator; no condition. -/
import Derived.Test.YtdndkdliiojpiaaGreatLTx4
import Derived.WalkSmall
set_option maxHeartbeats 8000000
set_option linter.unusedVariables false
set_option linter.unusedSimpArgs false
set_option linter.unusedSectionVars false
set_option maxRecDepth 10000
namespace Go.TrRun
open Go Go.Eng Go.PlanLaw
variable{S:StV}{zs:List Zon}{ss:List Sgn}
abbrev dlE(l:List Zjo)(dr:List Int)(i:Nat):Env:=[(11,.w (W i)),(1,.w (.c (.jb (ZoM l)))),(2,.w (.c (.jb (zu dr)))),(9,.w (Pt 4)),(7,.w (Pt 1))]
theorem ZrE(hL:ZkT S zs ss)(hb:S.kH=0)(l:List Zjo)(hl:smB l=true)(dr:List Int)(hdr:dr.length<=8)(i:Nat)(hi:i<l.length)(hAw:R L Cs ZlH [] []=some (.w (Bo true),[])){d e:NdV}{g f:RgV}{c c2:Int}{es fs:List Zou}{v w u p q v2 w2 u2 p2 q2:Nat}{M:Mem}
  (H:Two S zs ss d e g f es fs) (h1:Zrc S d g c es (24*i)) (h2:Zrc S e f c2 fs (24*i)) (Bm:d.now=i) (hM:TM S d e g f c c2 es fs v w u p q v2 w2 u2 p2 q2 M) :
  (∃M',Y L Cs Zrg (some [11,1,2,9,7]) 7 (dlE l dr i) M=some (.ret,[(6,.w (Bo true))],M')) \/
  ∃d' e' g' f' c' c2' es' fs' v' w' u' p' q' v2' w2' u2' p2' q2' M',Two S zs ss d' e' g' f' es' fs'/\Zrc S d' g' c' es' (24*(i+1))/\Zrc S e' f' c2' fs' (24*(i+1))/\d'.now=((i+1:Nat):Int)/\TM S d' e' g' f' c' c2' es' fs' v' w' u' p' q' v2' w2' u2' p2' q2' M' /\
   Y L Cs Zrg (some [11,1,2,9,7]) 7 (dlE l dr i) M=Y L Cs Zrg (some [11,1,2,9,7]) 7 (dlE l dr (i+1)) (kL 7 (dlE l dr (i+1)) M'):=by
 have hS:=hL.ok;obtain⟨x,hx⟩:∃x,l[i]=x:=⟨_,rfl⟩;have hl8:=(Zp1 hl).1;have yw:x∈l:=by rw[<-hx];exact jf hi
 have hw:=zB (i:=i) (by omega);have hci:(i:Int)<l.length:=by omega
 have hN:=fun X=>(hM.a.app X).same (.inl ⟨_,rfl⟩) (ZnT S d g c es v w u)
 have hN0:=hM.a.same (.inl ⟨_,rfl⟩) (ZnT S d g c es v w u);have hSh:=ZpV x d.now (Zqy hl yw);have hSc:∀M,zx (R L Cs) ⟨true⟩ (.c (.fn ZoG [] [])) [.a (inC x),W d.now] M=some (.w (.a (inC (shI d.now x))),M,.no):=fun M=>by
  simp only[inC]at hSh ⊢;simp[hSh]
 obtain⟨y,hy⟩:∃y:Zjo,y={ shI d.now x with tick:=d.now }:=⟨_,rfl⟩;have hyo:Zlc y:=by
  have h:=(Zp1 hl).2 x yw d.now;rw[hy];exact⟨h.n1,h.n2,h.n3,h.sc⟩
 have hyC:inC y=I d.now::(inC (shI d.now x)).drop 1:=by rw[hy];rfl
 have hyt:y.tick=d.now:=by rw[hy]
 have hz:∃z:Zjo,∃vz:Nat,Zrv z y/\z.tick=y.tick/\((dr=[]/\z=y/\vz=1)\/(dr≠[]/\vz=2/\∃j:Nat,Int.tmod (i:Int) dr.length=(j:Int)/\∃hj:j<dr.length,∀M,zx (R L Cs) ⟨true⟩ (.c (.fn Zrk [] [])) [.a (inC y),W (dr[j] % 8)] M=some (.w (.a (inC z)),M,.no))):=by
  by_cases hd:dr=[]
  ·exact⟨y,1,.refl _,rfl,.inl ⟨hd,rfl,rfl⟩⟩
  ·have uc:0<dr.length:=ki.2 hd;have hh:i % dr.length<dr.length:=qP _ uc;obtain⟨z,z1,z2,z3⟩:=ZrH y (dr[i % dr.length] % 8) (uN _ (by decide)) (ur _ (by decide));exact⟨z,2,z1,z2,.inr ⟨hd,rfl,i % dr.length,rfl,hh,fun M=>by
    simp only[inC]at z3 ⊢;simp[z3]⟩⟩
 obtain⟨z,vz,hzy,hzt,hzc⟩:=hz;have hzo:Zlc z:=⟨jL hzy.sc.length_le hyo.n1,jL hzy.sp.length_le hyo.n2,jL hzy.fx.length_le hyo.n3,fun a ha=>hyo.sc a (hzy.sc.subset ha)⟩;have hM0:TM S d e g f c c2 es fs v w u p q v2 w2 u2 p2 q2 (M++[bxv 2 4 (inC y),bxv vz 4 (inC z)]):=⟨hM.a.app _,hM.b.app _,hM.n1,hM.n2,hM.n3,hM.n4⟩;obtain⟨la1,la2,la3⟩:=hM.a.len;obtain⟨lb1,lb2,lb3⟩:=hM.b.len;have hmd:∀k:Int,R L Cs zny [W k,W 8] []=some (.w (W (k % 8)),[]):=fun k=>zEW k 8 (by decide) (by decide)
 have hmd2:∀(k:Int) M,zx (R L Cs) ⟨true⟩ (.c (.fn zny [] [])) [W k,W 8] M=some (.w (W (k % 8)),M,.no):=fun k M=>by simp[hmd k]
 have c4:∀M,zx (R L Cs) ⟨true⟩ (.c (.fn ZlH [] [])) [] M=some (.w (Bo true),M,.no):=fun M=>by simp[hAw]
 have hzi:(M++[bxv 2 4 (inC y),bxv vz 4 (inC z)])[M.length+1]?=some (bxv vz 4 (inC z)):=by
  rw[j7 (by omega)];simp
 by_cases h8:y.j8.length<=8/\y.jO.length<=8/\y.kd.length<=8
 case neg =>
  left;obtain⟨er,M1,fp1,hM1,CZ,hT1,he1,he8,hF1⟩:=Zru h1 hM0.a (x:=y) (fun q=>h8 q.2);obtain rfl:=he8 hyt;have hT1M:=hM0.fst hM1 hF1;obtain⟨rr,e2,d2,g2,c3,es2,v3,w3,u3,p3,q3,M2,fp2,-,-,hM2,CY,hT2,-,hF2⟩:=ZpW (zs:=zs) (ss:=ss) hS h2 (by omega) (by rw[H.now];omega) hzo hT1M.b;have hz1:M1[M.length+1]?=some (bxv vz 4 (inC z)):=by
   rw[(hF1 (M.length+1) (by simp) (by omega) (by omega) (by omega)).1];exact hzi
  rw[ZfM Zrg.eq_1];rcases hzc with⟨rfl,rfl,rfl⟩ |⟨hd,rfl,j,hj,hjl,hfe⟩
  ·rw[hyC]at hT1 hT2 hz1;simp only[inC,qw,qd]at hT1 hT2 hz1;simp[-zx,-kL,hi,hci,hx,hw,hN,hN0,hSc,hT1,hT2,hz1,c4]
  ·have uc:0<dr.length:=ki.2 hd;rw[hyC]at hT1 hfe;simp only[inC,qw,qd]at hT1 hT2 hz1 hfe;simp[-zx,-kL,hi,hci,hx,hw,hN,hN0,hSc,hT1,hT2,hz1,c4,uc,hd,hj,hjl,hmd2,hfe]
 case pos =>
  obtain⟨d',g',c',es',v',w',u',p',q',M1,fp1,H1,hM1,CZ,hT1,hn1,hP1,hD1,hF1⟩:=Zrr (zs:=zs) (ss:=ss) hS h1 (by omega) (by omega) hyo hM0.a hyt h8;have hT1M:=hM0.fst hM1 hF1;have hz1:M1[M.length+1]?=some (bxv vz 4 (inC z)):=by
   rw[(hF1 (M.length+1) (by simp) (by omega) (by omega) (by omega)).1];exact hzi
  obtain⟨e',f',c2',fs',v2',w2',u2',p2',q2',M2,fp2,H2,hM2,CY,hT2,hn2,hP2,hD2,hF2⟩:=Zrr (zs:=zs) (ss:=ss) hS h2 (by omega) (by rw[H.now];omega) hzo hT1M.b (by rw[hzt,hyt,H.now]) ⟨jL hzy.sc.length_le h8.1,jL hzy.sp.length_le h8.2.1,jL hzy.fx.length_le h8.2.2⟩;have hT2M:=hT1M.snd hM2 hF2;have hMa:=hT2M.a.same (.inl ⟨_,rfl⟩) (Zmn S d' g' c' es' v' w' u');have hMb:=hT2M.b.same (.inl ⟨_,rfl⟩) (Zmn S e' f' c2' fs' v2' w2' u2');have hKa:=hT2M.a.same (.inr (.inl ⟨_,rfl⟩)) (ZnK d' g' c' es' v' w' u' (by have:=H1.kb.nd.len hS;omega));have hKb:=hT2M.b.same (.inr (.inl ⟨_,rfl⟩)) (ZnK e' f' c2' fs' v2' w2' u2' (by have:=H2.kb.nd.len hS;omega));have hI:=zYb d'.qC e'.qC (by have:=H1.kb.nd.len hS;omega) (by have:=H2.kb.nd.len hS;omega);have hI2:∀M,zx (R L Cs) ⟨true⟩ (.c (.fn zXL [] [])) [.a (zG d'.qC),.a (zG e'.qC)] M=some (.w (Bo (zXR d'.qC e'.qC)),M,.no):=fun M=>by
   simp only[zG]at hI ⊢;simp[hI]
  unfold Zlu at hT1 hT2;generalize Pl.uS d'.told S.car.ub=r1 at *;generalize Pl.uS e'.told S.car.ub=r2 at *;by_cases m1:d'.mode=1
  ·by_cases m2:e'.mode=1
   ·right;obtain⟨HT,HI⟩:=H.tick hS hb h1 h2 hzy m1 m2 hD1 hD2;rw[(zX7 _ _).2 HI]at hI2;rw[m1]at hMa;rw[m2]at hMb;refine⟨d',e',g',f',c',c2',es',fs',v',w',u',p',q',v2',w2',u2',p2',q2',M2,HT,by rw[Nat.mul_succ];exact H1,by rw[Nat.mul_succ];exact H2,by rw[hn1,Bm];push_cast;rfl,hT2M,?_⟩;rw[ZfM Zrg.eq_1];rcases hzc with⟨rfl,rfl,rfl⟩ |⟨hd,rfl,j,hj,hjl,hfe⟩
    ·rw[hyC]at hT1 hT2 hz1;simp only[inC,qw,qd]at hT1 hT2 hz1;simp[-zx,-kL,hi,hci,hx,hw,hN,hN0,hSc,hT1,hT2,hz1,hMa,hMb,hKa,hKb,hI2];rfl
    ·have uc:0<dr.length:=ki.2 hd;rw[hyC]at hT1 hfe;simp only[inC,qw,qd]at hT1 hT2 hz1 hfe;simp[-zx,-kL,hi,hci,hx,hw,hN,hN0,hSc,hT1,hT2,hz1,hMa,hMb,hKa,hKb,hI2,uc,hd,hj,hjl,hmd2,hfe];rfl
   ·left;have m2':(e'.mode==1)=false:=by simpa using m2
    rw[m1]at hMa;rw[ZfM Zrg.eq_1];rcases hzc with⟨rfl,rfl,rfl⟩ |⟨hd,rfl,j,hj,hjl,hfe⟩
    ·rw[hyC]at hT1 hT2 hz1;simp only[inC,qw,qd]at hT1 hT2 hz1;simp[-zx,-kL,hi,hci,hx,hw,hN,hN0,hSc,hT1,hT2,hz1,hMa,hMb,m2,m2',c4]
    ·have uc:0<dr.length:=ki.2 hd;rw[hyC]at hT1 hfe;simp only[inC,qw,qd]at hT1 hT2 hz1 hfe;simp[-zx,-kL,hi,hci,hx,hw,hN,hN0,hSc,hT1,hT2,hz1,hMa,hMb,m2,m2',c4,uc,hd,hj,hjl,hmd2,hfe]
  ·left;have m1':(d'.mode==1)=false:=by simpa using m1
   have m1'':(d'.mode !=1)=true:=by simpa using m1
   rw[ZfM Zrg.eq_1];rcases hzc with⟨rfl,rfl,rfl⟩ |⟨hd,rfl,j,hj,hjl,hfe⟩
   ·rw[hyC]at hT1 hT2 hz1;simp only[inC,qw,qd]at hT1 hT2 hz1;simp[-zx,-kL,hi,hci,hx,hw,hN,hN0,hSc,hT1,hT2,hz1,hMa,m1,m1',m1'',c4]
   ·have uc:0<dr.length:=ki.2 hd;rw[hyC]at hT1 hfe;simp only[inC,qw,qd]at hT1 hT2 hz1 hfe;simp[-zx,-kL,hi,hci,hx,hw,hN,hN0,hSc,hT1,hT2,hz1,hMa,m1,m1',m1'',c4,uc,hd,hj,hjl,hmd2,hfe]
theorem Zry(hL:ZkT S zs ss)(hb:S.kH=0)(l:List Zjo)(hl:smB l=true)(dr:List Int)(hdr:dr.length<=8)(hAw:R L Cs ZlH [] []=some (.w (Bo true),[])):∀(r:List Zjo) (i:Nat) (d e:NdV) (g f:RgV) (c c2:Int) (es fs:List Zou) (v w u p q v2 w2 u2 p2 q2:Nat) (M:Mem),l.drop i=r->i<=l.length ->
  Two S zs ss d e g f es fs->Zrc S d g c es (24*i)->Zrc S e f c2 fs (24*i)->d.now=i->TM S d e g f c c2 es fs v w u p q v2 w2 u2 p2 q2 M ->
  ∃M',Y L Cs Zrg (some [11,1,2,9,7]) 7 (dlE l dr i) M=some (.ret,[(6,.w (Bo true))],M')\/Y L Cs Zrg (some [11,1,2,9,7]) 7 (dlE l dr i) M=some (.exit 0,(52,.w (Bo false))::dlE l dr l.length,M')
 |[],i,d,e,g,f,c,c2,es,fs,v,w,u,p,q,v2,w2,u2,p2,q2,M,hd,hi,H,h1,h2,Bm,hM=>by
  obtain rfl:=ZoS hd hi;refine⟨M,.inr ?_⟩;rw[ZfM Zrg.eq_1];simp
 |x::r,i,d,e,g,f,c,c2,es,fs,v,w,u,p,q,v2,w2,u2,p2,q2,M,hd,hi,H,h1,h2,Bm,hM=>by
  obtain⟨hi1,hx,hd'⟩:=ZoY hd;rcases ZrE hL hb l hl dr hdr i hi1 hAw H h1 h2 Bm hM with⟨M',h⟩ |⟨d',e',g',f',c',c2',es',fs',v',w',u',p',q',v2',w2',u2',p2',q2',M',H',h1',h2',BT,hM',h⟩
  ·exact⟨M',.inl h⟩
  ·rw[h];exact Zry hL hb l hl dr hdr hAw r (i+1) d' e' g' f' c' c2' es' fs' v' w' u' p' q' v2' w2' u2' p2' q2' _ hd' (by omega) H' h1' h2' BT (hM'.drop (by decide) _)
theorem Zrw(hL:ZkT S zs ss)(ht:S.t0=0)(n r dl bu si s sp ln ac br ra:Int)(sg:Bool)(l:List Zjo)(dr:List Int)
  (hSet:R L Cs ZlI [.a (stA n r dl bu si s sp ln ac br ra sg)] []=some (.w (.a (ZlR S)),[]))
  (hAw:R L Cs ZlH [] []=some (.w (Bo true),[])) :
  ∃M',R L Cs Zrl [.a (stA n r dl bu si s sp ln ac br ra sg),.c (.jb (ZoM l)),.c (.jb (zu dr))] []=some (.w (Bo true),M'):=by
 have hSm:=Zqn l;have hSt:=ZrG n r dl bu si s sp ln ac br ra sg hSet;have hL':=Zrz hL;have ht':(Zrq S).t0=0:=ht;have hb:(Zrq S).kH=0:=rfl;generalize Zrq S=S' at *;have c1:∀M,zx (R L Cs) ⟨true⟩ (.c (.fn Zrn [] [])) [.a (stA n r dl bu si s sp ln ac br ra sg)] M=some (.w (.a (ZlR S')),M,.no):=fun M=>by simp[hSt]
 have c2:∀M,zx (R L Cs) ⟨true⟩ (.c (.fn ZoI [] [])) [.c (.jb (ZoM l))] M=some (.w (Bo (smB l)),M,.no):=fun M=>by simp[hSm]
 have c4:∀M,zx (R L Cs) ⟨true⟩ (.c (.fn ZlH [] [])) [] M=some (.w (Bo true),M,.no):=fun M=>by simp[hAw]
 rw[zUa Zro rfl];by_cases hl:smB l=true
 ·rw[hl]at c2;by_cases hdr:dr.length<=8
  ·have CR:=Znz hL'.ok hL'.be;have hN:zx (R L Cs) ⟨true⟩ (.c (.fn ZlW [] [])) [.a (ZlR S')] [bx 12 (stA n r dl bu si s sp ln ac br ra sg)]=some (.t [Pt 1,W 0],[bx 12 (stA n r dl bu si s sp ln ac br ra sg),bxv 4 46 (ndX S' (nd0 S') 2 3),bxv 0 12 (rgC 2 (rg0 S')),mpB 0 [] 0],.no):=by
    simp[ndM,ndC,rgC,mpB,bxv,nd0,rg0,ZlR]at CR;simp[CR,ndX,nd0,rg0,ZlR]
   have hN2:zx (R L Cs) ⟨true⟩ (.c (.fn ZlW [] [])) [.a (ZlR S')] [bx 12 (stA n r dl bu si s sp ln ac br ra sg),bxv 4 46 (ndX S' (nd0 S') 2 3),bxv 0 12 (rgC 2 (rg0 S')),mpB 0 [] 0]=some (.t [Pt 4,W 0],[bx 12 (stA n r dl bu si s sp ln ac br ra sg),bxv 4 46 (ndX S' (nd0 S') 2 3),bxv 0 12 (rgC 2 (rg0 S')),mpB 0 [] 0,bxv 4 46 (ndX S' (nd0 S') 5 6),bxv 0 12 (rgC 5 (rg0 S')),mpB 0 [] 0],.no):=by
    simp[ndM,ndC,rgC,mpB,bxv,nd0,rg0,ZlR]at CR;simp[CR,ndX,nd0,rg0,ZlR]
   have hM:TM S' (nd0 S') (nd0 S') (rg0 S') (rg0 S') 0 0 [] [] 4 0 0 2 3 4 0 0 5 6 [bx 12 (stA n r dl bu si s sp ln ac br ra sg),bxv 4 46 (ndX S' (nd0 S') 2 3),bxv 0 12 (rgC 2 (rg0 S')),mpB 0 [] 0,bxv 4 46 (ndX S' (nd0 S') 5 6),bxv 0 12 (rgC 5 (rg0 S')),mpB 0 [] 0]:=⟨⟨rfl,rfl,rfl,by decide,by decide,by decide⟩,⟨rfl,rfl,rfl,by decide,by decide,by decide⟩,by decide,by decide,by decide,by decide⟩;have H:=Zrc.zero hL' ht';have HT:Two S' zs ss (nd0 S') (nd0 S') (rg0 S') (rg0 S') [] []:=⟨rfl,rfl,rfl,rfl,.refl _,fun _ _=>.refl _,fun h=>absurd h (by show ¬0<0;omega),rfl,rfl⟩;obtain⟨M',hLp⟩:=Zry hL' hb l hl dr hdr hAw l 0 (nd0 S') (nd0 S') (rg0 S') (rg0 S') 0 0 [] [] 4 0 0 2 3 4 0 0 5 6 _ rfl (jp _) HT H H (by show S'.t0=0;exact ht') hM;have d8:¬(8:Int)<dr.length:=by omega
   simp only[dlE,jg]at hLp;rcases hLp with hLp|hLp<;>by_cases h0:M'=[]<;>simp[-zx,Zrj,c1,c2,c4,hN,hN2,hLp,d8,h0]
  ·have d8:(8:Int)<dr.length:=by omega
   simp[-zx,Zrj,c2,c4,d8]
 ·simp only[Am]at hl;rw[hl]at c2;simp[-zx,Zrj,c2,c4]
theorem ZrA:∀xs,zot [Zng,.slice Zqs,.slice zmN] xs->∃M',R L Cs Zrl xs []=some (.w (.c (.bool true)),M'):=by
 intro xs h;simp only[zot]at h;obtain⟨c1,y1,rfl,h1,c2,y2,rfl,h2,c3,y3,rfl,h3,rfl⟩:=h;obtain⟨n,q,dl,bu,si,s,sp,ln,ac,br,ra,sg,rfl⟩:=Zp0 h1;unfold zfo at h2 h3;obtain⟨rows,rfl,_,vn⟩:=h2;obtain⟨l,rfl⟩:=Zqj vn;obtain⟨rows3,rfl,_,CH⟩:=h3;obtain⟨dr,rfl,_⟩:=zxB (rows:=rows3) (fun r hr=>by simp only[zfo];exact CH r hr);obtain⟨m,zs,ss,k,hM,hk,hS⟩:=ZnS n q dl bu si s sp ln ac br ra sg;exact Zrw (hM.law hk bu si dl s sp ln ac br ra sg) rfl n q dl bu si s sp ln ac br ra sg l dr hS Zoj
end Go.TrRun
namespace Go.TrRun
open Go Go.Eng
theorem zq2(a:Int):R L [] zlc [W a] []=some (.w (Bo false),[]):=by
 rw[zUa zle rfl];simp[zfU]
theorem zn3(a:Int):R L [] zi5 [W a] []=some (.w (Bo false),[]):=by
 rw[zUa zi9 rfl];simp[ze6]
theorem zuB(a b:Int):R L [] zi6 [W a,W b] []=some (.w (W (zgQ a b)),[]):=by
 have h1:=zq2 a;have h2:=zq2 b;rw[zUa zja rfl];unfold zgQ;by_cases h:a<b
 ·simp[zb3,h1,h2,h]
 ·by_cases h':b<a
  ·simp[zb3,h1,h2,h,h']
  ·simp[zb3,h1,h2,h,h']
theorem zmv(a b:Int):R L [] zhQ [W a,W b] []=some (.w (W (zgQ a b)),[]):=by
 have h1:=zn3 a;have h2:=zn3 b;rw[zUa zhS rfl];unfold zgQ;by_cases h:a<b
 ·simp[zbq,h1,h2,h]
 ·by_cases h':b<a
  ·simp[zbq,h1,h2,h,h']
  ·simp[zbq,h1,h2,h,h']
theorem zxz(b:Bool):R L [] zhB [Bo b] []=some (.w (W (if b then 1 else 0)),[]):=by
 rw[zUa zp4 rfl];cases b<;>simp[zhF]
def orI(a b c d:Int):Int:=if a=0 then(if b=0 then(if c=0 then d else c) else b) else a
abbrev orE(a b c d:Int)(i:Int):Env:=[(7,.w (W 4)),(6,.w (.c (.jb [[I a],[I b],[I c],[I d]]))),(3,.w (W 0)),(8,.w (W i))]
theorem or0(a b c d:Int):R L [] zob [.c (.jb [[I a],[I b],[I c],[I d]])] []=some (.w (W (orI a b c d)),[]):=by
 have w1:IntKind.i64.wrap 1=1:=rfl;have w2:IntKind.i64.wrap 2=2:=rfl;have w3:IntKind.i64.wrap 3=3:=rfl;have w4:IntKind.i64.wrap 4=4:=rfl;have h4:Y L [] zab (some [7,6,3,8]) 0 (orE a b c d 4) []=some (.exit 0,[(9,.w (Bo false)),(3,.w (W 0)),(6,.w (.c (.jb [[I a],[I b],[I c],[I d]]))),(7,.w (W 4)),(8,.w (W 4))],[]):=by
  rw[ZfM zab.eq_1];simp
 have h3:Y L [] zab (some [7,6,3,8]) 0 (orE a b c d 3) []=if d=0 then Y L [] zab (some [7,6,3,8]) 0 (orE a b c d 4) [] else some (.ret,[(2,.w (W d))],[]):=by
  rw[ZfM zab.eq_1];by_cases h:d=0
  ·simp[h,w4]
  ·have h':(d !=0)=true:=by simp[h]
   simp[h,h']
 have h2:Y L [] zab (some [7,6,3,8]) 0 (orE a b c d 2) []=if c=0 then Y L [] zab (some [7,6,3,8]) 0 (orE a b c d 3) [] else some (.ret,[(2,.w (W c))],[]):=by
  rw[ZfM zab.eq_1];by_cases h:c=0
  ·simp[h,w3]
  ·have h':(c !=0)=true:=by simp[h]
   simp[h,h']
 have h1:Y L [] zab (some [7,6,3,8]) 0 (orE a b c d 1) []=if b=0 then Y L [] zab (some [7,6,3,8]) 0 (orE a b c d 2) [] else some (.ret,[(2,.w (W b))],[]):=by
  rw[ZfM zab.eq_1];by_cases h:b=0
  ·simp[h,w2]
  ·have h':(b !=0)=true:=by simp[h]
   simp[h,h']
 have h0:Y L [] zab (some [7,6,3,8]) 0 (orE a b c d 0) []=if a=0 then Y L [] zab (some [7,6,3,8]) 0 (orE a b c d 1) [] else some (.ret,[(2,.w (W a))],[]):=by
  rw[ZfM zab.eq_1];by_cases h:a=0
  ·simp[h,w1]
  ·have h':(a !=0)=true:=by simp[h]
   simp[h,h']
 rw[h4]at h3;rw[h3]at h2;rw[h2]at h1;rw[h1]at h0;rw[zUa zow rfl];unfold orI;by_cases c1:a=0<;>by_cases c2:b=0<;>by_cases c3:c=0<;>by_cases c4:d=0<;>simp only[c1,c2,c3,c4,if_true,if_false]at h0 ⊢<;>simp[zfw,h0]
def zoG(b:Bool):Int:=if b then 1 else 0
def zu6(a b:Swp):Int:=orI (zgQ a.lane b.lane) (zgQ a.lo b.lo) (zgQ a.hi b.hi) (zoG a.cap-zoG b.cap)
theorem less0(a b:Swp):R L [] zar [.a (swC a),.a (swC b)] []=some (.w (W (zu6 a b)),[]):=by
 have h1:=zuB a.lane b.lane;have h2:=zmv a.lo b.lo;have h3:=zmv a.hi b.hi;have h4:R L [] zhB [Bo a.cap] []=some (.w (W (zoG a.cap)),[]):=zxz a.cap;have h5:R L [] zhB [Bo b.cap] []=some (.w (W (zoG b.cap)),[]):=zxz b.cap;have h6:=or0 (zgQ a.lane b.lane) (zgQ a.lo b.lo) (zgQ a.hi b.hi) (zoG a.cap-zoG b.cap);have w:IntKind.i64.wrap (zoG a.cap-zoG b.cap)=zoG a.cap-zoG b.cap:=by
  cases a.cap<;>cases b.cap<;>rfl
 unfold zu6;generalize zgQ a.lane b.lane=x1 at *;generalize zgQ a.lo b.lo=x2 at *;generalize zgQ a.hi b.hi=x3 at *;generalize zoG a.cap=o1 at *;generalize zoG b.cap=o2 at *;rw[zUa zsv rfl];simp[zjq,swC,h1,h2,h3,h4,h5,h6,w,zg,zX]
theorem zz5(a b:Swp):(zu6 a b<0)<->ltS a b=true:=by
 rw[zz2];unfold zu6 orI zgQ zoG;by_cases h1:a.lane<b.lane
 ·simp[h1]
 ·by_cases h2:b.lane<a.lane
  ·have:¬a.lane=b.lane:=by omega
   simp[h1,h2,this]
  ·have e1:a.lane=b.lane:=by omega
   by_cases h3:a.lo<b.lo
   ·simp[e1,h3]
   ·by_cases h4:b.lo<a.lo
    ·have:¬a.lo=b.lo:=by omega
     simp[e1,h3,h4,this]
    ·have e2:a.lo=b.lo:=by omega
     by_cases h5:a.hi<b.hi
     ·simp[e1,e2,h5]
     ·by_cases h6:b.hi<a.hi
      ·have:¬a.hi=b.hi:=by omega
       simp[e1,e2,h5,h6,this]
      ·have e3:a.hi=b.hi:=by omega
       cases a.cap<;>cases b.cap<;>simp[e1,e2,e3]
end Go.TrRun
namespace Go.Eng
open Go
theorem zsf [zb0](hasc:zb0.asc){P:Program}{cf:za4}(hcf:FnS P cf){f:FuncId}(hf:f<zb0.base){args:List WV}{vs:Array Value}{w:World}{σ:zP}{j:Inj}{M':Mem}{c:Int}(h:cf f args []=some (.w (.c (.int .i64 c)),M'))
  (hag:zM σ w) (hvs:zac σ j args vs.toList) (hm:MR (fun b=>w.heap.size<=b) σ j [] w) :
  Calls P f vs w fun e w'=>e=.returned (.int .i64 c)/\∃q os',w'=Go.Sort.grow (w.drewN q) os':=by
 obtain⟨_,_,_,_,hc⟩:=(hcf f args [] _ _ h (fun id hid=>by simp at hid)).1 hf;refine Calls.yh (hc (fun b=>w.heap.size<=b) σ j w vs (fun _ h=>h) hag hm hvs) ?_;rintro e w' ⟨v,σ',j',rfl,hr,_,_,hst⟩;have hr:VC σ' j' (.int .i64 c) v:=hr;cases hr;refine⟨rfl,w'.drawn-w.drawn,w'.heap.extract w.heap.size w'.heap.size,?_⟩;have h1:=hst.side.os;have h2:=hst.side.output;have h3:=hst.side.tape;have h4:=hst.side.drawn hasc;have h5:=hst.frame;have h6:=hst.size;cases w' with |mk heap tape drawn os output =>
 simp only at h1 h2 h3 h4 h5 h6;subst h1;subst h2;subst h3;unfold Go.Sort.grow World.drewN;simp only[World.mk.injEq,and_true,true_and];refine⟨?_,by omega⟩;apply Array.ext_getElem?;intro i;by_cases hi:i<w.heap.size
 ·rw[k6 hi];exact h5 i hi (by omega)
 ·rw[yJ (by omega),qt];by_cases hi2:i<heap.size
  ·rw[if_pos (by omega)]
   congr 1;omega
  ·rw[if_neg (by omega)];exact qu (by omega)
end Go.Eng
namespace Go.TrRun
open Go Go.Eng
theorem zxp(σ:zP)(j:Inj)(x:List Int):WVR σ j (.a (swC (zik x))) (.agg (ziq 4 7 x).toArray):=by
 refine⟨_,rfl,?_⟩;have e:(ziq 4 7 x).toArray.toList=[.int .i64 (x.getD 0 0),.int .i64 (x.getD 1 0),.int .i64 (x.getD 2 0),.bool (x.getD 3 0 !=0)]:=rfl;rw[e];refine⟨rfl,fun n c v hc hv=>?_⟩
 match n with
 |0=>cases hc;cases hv;exact .int _ _ _
 |1=>cases hc;cases hv;exact .int _ _ _
 |2=>cases hc;cases hv;exact .int _ _ _
 |3=>cases hc;cases hv;exact .bool _ _
 |n+4=>cases hc
def zAw(x y:List Int):Int:=zu6 (zik x) (zik y)
theorem zBC:(fun x y=>decide (zAw x y<0))=ltZ 4 7:=by
 funext x y;have h:=zz5 (zik x) (zik y);have e:ltS (zik x) (zik y)=ltZ 4 7 x y:=by
  have k1:∀z:List Int,zji (zik z)=zsY 4 7 z:=fun z=>by
   simp[zji,zik,zsY,List.range,List.range.loop,zgk]
  simp only[ltS,ltZ,k1,if_true]
 rw[e]at h;unfold zAw;cases hz:ltZ 4 7 x y with
 |true=>exact decide_eq_true (h.2 hz)
 |false =>
  refine decide_eq_false fun h'=>?_
  rw[h.1 h']at hz;cases hz
theorem zwK{P:Program}(vh:P.follows .mixedOrders=true)(hL:(L.map fun p=>zcF P an true p.1)=L.map fun p=>some p.2)(hV:zql P L=true)(hf:zar<P.funcs.size)(x y:List Int)(W:World) :
  Calls P zar #[.agg (ziq 4 7 x).toArray,.agg (ziq 4 7 y).toArray] W fun e w'=>e=.returned (.int .i64 (zAw x y))/\∃q os',w'=Go.Sort.grow (W.drewN q) os':=by
 letI:=zww P (fun f=>L.lookup f) (Zpp []);obtain⟨n,hn⟩:=zah.1 (less0 (zik x) (zik y));exact zsf (fun c hc=>by cases hc) (zsT vh hL hV (Cs:=[]) rfl (fun c hc=>by cases hc) n) (f:=zar) hf hn (zml (W:=W) fun g row hr=>by cases hr) (.cons (zxp _ _ x) (.cons (zxp _ _ y) .nil)) MR.nil
end Go.TrRun
