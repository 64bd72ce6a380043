/- This text proves what functions of this seat's program answer, run by the evaluator; no condition. -/
import Derived.Test.YtammkplkmigccaaGreatNTx3
import Derived.WalkSmall
set_option maxHeartbeats 8000000
set_option linter.unusedVariables false
set_option linter.unusedSimpArgs false
set_option linter.unusedSectionVars false
set_option maxRecDepth 10000
namespace Go.TrRun
open Go Go.Eng
theorem Zcc(l:List CrV)(a:CrV):ZbD (l++[a])=ZbD l++[crC a]:=by simp[ZbD]
abbrev Zb6(out:List CrV):Option Blk:=some (own 6 (ZbD out))
abbrev ZeK(c:CrV):Option Blk:=some { box:=false,esz:=6,rows:=[crC c],gen:=1,fz:=false,ver:=1 }
abbrev syF(fz:Bool)(u:Nat)(ins:List z2T):Option Blk:=some { box:=false,esz:=4,rows:=z2H ins,gen:=ins.length,fz:=fz,ver:=u }
abbrev agF(fz:Bool)(w:Nat)(bs:List AgV):Option Blk:=some { box:=false,esz:=7,rows:=Zbn bs,gen:=bs.length,fz:=fz,ver:=w }
abbrev ZbT(m:zD)(s:SnV)(bs:List AgV)(v:Nat)(fz:Bool)(w:Nat)(S:Cl)(G:Mem)(out:List CrV):Mem:=bx 5 (zf m)::bx 3 (snC s)::bx 3 [I 0,.jd,.jd]::gb 6::bxv v 3 [I (s.tick+1),.slice 5 bs.length 7 0 bs.length none,S]::agF fz w bs::(G++[Zb6 out])
theorem Ze0{m:zD}{s:SnV}{bs:List AgV}{v w n:Nat}{fz:Bool}{S:Cl}{G N:Mem}{out:List CrV}{E:Env}(hn:n=G.length+7)(hS:S=.jd\/∃q out,S=ZbW q out/\q<G.length)(hG:∀x∈G,PB x)(hE:E.all (fun x=>x.2.below n)=true) :
  jI n E (bx 5 (zf m)::bx 3 (snC s)::bx 3 [I 0,.jd,.jd]::gb 6::bxv v 3 [I (s.tick+1),.slice 5 bs.length 7 0 bs.length none,S]::agF fz w bs::(G++Zb6 out::N))=ZbT m s bs v fz w S G out:=by
 subst hn;have hGb:∀x∈G,(match x with |some b=>!b.box||b.rows.all fun r=>r.all (Eng.below (G.length+7)) |none=>true)=true:=fun x hx=>by
  have:=hG x hx (G.length+7);cases x with
  |none=>rfl
  |some b=>simpa [pbw,Blk.below]using this
 have e0:G++Zb6 out::N=(G++[Zb6 out])++N:=by simp
 unfold jI;split
 ·rename_i h;have hN:N=[]:=jK.1 (by simp only[jq,jo]at h;omega);subst hN;rfl
 ·rw[if_pos]
  ·rw[e0];simp[yz,jC]
  ·rw[hE,kN];have e:List.take (G.length+7) (bx 5 (zf m)::bx 3 (snC s)::bx 3 [I 0,.jd,.jd]::gb 6::bxv v 3 [I (s.tick+1),.slice 5 bs.length 7 0 bs.length none,S]::agF fz w bs::(G++Zb6 out::N))=ZbT m s bs v fz w S G out:=by
    rw[e0];simp[yz,jC]
   rw[e];rcases hS with rfl |⟨q,o,rfl,hq⟩
   ·simp[zH,Blk.below,Eng.below,uv,zf,snC];exact hGb
   ·simp[zH,Blk.below,Eng.below,uv,zf,snC];exact⟨by omega,hGb⟩
inductive ZcF (fz:Bool):List z2T->Cl->Mem->Prop
 |nil {G:Mem} (hG:∀x∈G,PB x):ZcF fz [] .jd G
 |own (q u:Nat) {ins:List z2T} {G:Mem} (hq:G[q]?=some (syF fz u ins)) (hG:∀x∈G,PB x):ZcF fz ins (ZbW q ins) G
theorem ZcF.at{fz:Bool}{ins:List z2T}{S:Cl}{G:Mem}(h:ZcF fz ins S G):(S=.jd\/∃q out,S=ZbW q out/\q<G.length)/\∀x∈G,PB x:=by
 cases h with
 |nil hG=>exact⟨.inl rfl,hG⟩
 |own q u hq hG=>exact⟨.inr ⟨q,ins,rfl,by by_cases c:q<G.length;exact c;rw[jH (by omega)]at hq;cases hq⟩,hG⟩
abbrev ZcI(g:Nat)(zl:List Int)(i j k:Nat)(out:List CrV):Env:=[(16,.w (.c (sl (g+6) 6 (ZbD out)))),(20,.w (W k)),(3,.w (Pt 0)),(6,.w (Pt 2)),(4,.w (Pt 1)),(17,.w (W i)),(18,.w (W j)),(19,.w (.c (.je (zu zl)))),(10,.w (Pt 4))]
theorem CJ{n:Nat}(h:n<=1000):(n+1)*64<=140737488355328:=by omega
theorem ZdL{m:zD}{s:SnV}{bs:List AgV}{ins:List z2T}(hil:ins.length<=1000)(v w i j k:Nat)(zl:List Int)(hk:k<zl.length)(hzl:zl.length<=1000)(out:List CrV)(hol:out.length<=1000){S:Cl}{G:Mem}(hS:ZcF true ins S G) :
  ∃c:CrV,c.a=i/\Y L Cs Zbu (some [16,20,3,6,4,17,18,19,10]) (G.length+7) (ZcI G.length zl i j k out) (ZbT m s bs v true w S G out)=Y L Cs Zbu (some [16,20,3,6,4,17,18,19,10]) (G.length+7) (ZcI G.length zl i j (k+1) (out++[c])) (ZbT m s bs v true w S G (out++[c])):=by
 obtain⟨l,hW⟩:=ZeY ⟨s.tick+1,bs,ins⟩ hil i j zl[k];refine⟨⟨s.tick,i,j,-1,zl[k],l⟩,rfl,?_⟩;obtain⟨hS1,hS2⟩:=hS.at;have hw:=zB (i:=k) (by omega);have hck:(k:Int)<zl.length:=by omega
 have jX:=CJ hol;have hsn:=Zcc out ⟨s.tick,i,j,-1,zl[k],l⟩;have hE1:∀(x:Option Blk) (N:Mem),(G++x::N)[G.length]?=some x:=fun x N=>by simp
 have hEs:∀(x y:Option Blk) (N:Mem),(G++x::N).set G.length y=G++y::N:=fun x y N=>by rw[kd _ _ (jk _)];simp
 have htk:(ZbD out).take out.length=ZbD out:=jC (by simp);have hta:(Zbn bs).take bs.length=Zbn bs:=z63 bs;have hEb:(ZcI G.length zl i j (k+1) (out++[⟨s.tick,i,j,-1,zl[k],l⟩])).all (fun x=>x.2.below (G.length+7))=true:=by
  simp[AV.below,WV.below,WV.cells,Eng.below,uv]
 have hD:=Ze0 (m:=m) (s:=s) (bs:=bs) (v:=v) (w:=w) (fz:=true) (N:=[ZeK ⟨s.tick,i,j,-1,zl[k],l⟩]) (out:=out++[⟨s.tick,i,j,-1,zl[k],l⟩]) rfl hS1 hS2 hEb;rw[<-hD];clear hD hEb;generalize hz:zl[k]=z at *;cases hS with
 |nil hG =>
  rw[zj Zbu.eq_1];simp only[snC,show z2H []=[] from rfl]at hW;simp[ZcI,ZbT,zf,snC,hk,hck,hz,hW,hw,jX,hsn,hE1,hEs,htk,hta,Zb6,own,ZeK,crC,jo,zg,zH,zX,-jI]
 |own q u hq hG =>
  have hql:q<G.length:=by by_cases c:q<G.length;exact c;rw[jH (by omega)]at hq;cases hq
  have hq':∀N:Mem,(G++N)[q]?=some (syF true u ins):=fun N=>by rw[jp hql,hq]
  have vF:∀(N:Mem) (x:Option Blk),(G++N).set q x=G.set q x++N:=fun N x=>kH _ _ hql
  have hti:=z62 ins;simp only[snC]at hW;rw[zj Zbu.eq_1];simp[ZcI,ZbT,zf,snC,hk,hck,hz,hW,hw,jX,hsn,hE1,hEs,hq',vF,htk,hta,hti,Zb6,own,ZeK,crC,jo,zg,zH,zX,-jI]
theorem ZdM{m:zD}{s:SnV}{bs:List AgV}{ins:List z2T}(hil:ins.length<=1000)(v w i j:Nat)(zl:List Int)(hzl:zl.length<=1000){S:Cl}{G:Mem}(hS:ZcF true ins S G):∀(f k:Nat) (out:List CrV),k+f=zl.length->out.length+f<=1000 ->
  ∃cs:List CrV,cs.length=f/\(∀c∈cs,c.a=i)/\Y L Cs Zbu (some [16,20,3,6,4,17,18,19,10]) (G.length+7) (ZcI G.length zl i j k out) (ZbT m s bs v true w S G out)=some (.exit 8,[(163,.w (Bo false)),(16,.w (.c (sl (G.length+6) 6 (ZbD (out++cs))))),(20,.w (W zl.length)),(3,.w (Pt 0)),(6,.w (Pt 2)),(4,.w (Pt 1)),(17,.w (W i)),(18,.w (W j)),(19,.w (.c (.je (zu zl)))),(10,.w (Pt 4))],ZbT m s bs v true w S G (out++cs)):=by
 intro f;induction f with
 |zero =>
  intro k out hk _;obtain rfl:k=zl.length:=by omega
  refine⟨[],rfl,by simp,?_⟩;rw[zj Zbu.eq_1];simp[ZcI]
 |succ f ih =>
  intro k out hk hol;obtain⟨c,h1,h2⟩:=ZdL (m:=m) (s:=s) (bs:=bs) hil v w i j k zl (by omega) hzl out (by omega) hS;obtain⟨cs,g1,g2,g3⟩:=ih (k+1) (out++[c]) (by omega) (by simp;omega);refine⟨c::cs,by simp[g1],?_,?_⟩
  ·intro x hx;rcases jD.1 hx with rfl|hx
   ·exact h1
   ·exact g2 x hx
  ·rw[h2,g3];simp
abbrev Zb0(g i j:Nat)(out:List CrV):Env:=[(18,.w (W j)),(6,.w (Pt 2)),(10,.w (Pt 4)),(17,.w (W i)),(4,.w (Pt 1)),(3,.w (Pt 0)),(16,.w (.c (sl (g+6) 6 (ZbD out))))]
def ZcG(m:zD)(zs:List Zon)(s:SnV)(bs:List AgV)(i j:Nat):Prop:=∃(h1:i<s.agents.length) (h2:j<s.agents.length) (h3:i<bs.length) (h4:j<bs.length),thA s.tick s.agents[i]=true/\thA s.tick s.agents[j]=true /\
 ((∃l,l<m.jc.length/\lnB m s.agents[i] s.agents[j] bs[i] bs[j] l=true)\/(∃z,z<zs.length/\ZcH m zs s.agents[i] s.agents[j] bs[i] bs[j] z=true))
theorem ZdK{m:zD}{s:SnV}{bs:List AgV}{i j:Nat}(hi:i<s.agents.length)(hj:j<s.agents.length)(vR:s.agents.length<=8)(ht:thA s.tick s.agents[i]=false\/thA s.tick s.agents[j]=false)(v w:Nat)(fz:Bool)(out:List CrV){ins:List z2T}{S:Cl}{G:Mem}(hS:ZcF fz ins S G) :
  Y L Cs Zbr (some [18,6,10,17,4,3,16]) (G.length+7) (Zb0 G.length i j out) (ZbT m s bs v fz w S G out)=Y L Cs Zbr (some [18,6,10,17,4,3,16]) (G.length+7) (Zb0 G.length i (j+1) out) (ZbT m s bs v fz w S G out):=by
 have hT1:=z56 s i hi;have hT2:=z56 s j hj;have hw:=zB (i:=j) (by omega);have hcj:(j:Int)<s.agents.length:=by omega
 have hD:jI (G.length+7) (Zb0 G.length i (j+1) out) (ZbT m s bs v fz w S G out)=ZbT m s bs v fz w S G out:=by
  unfold jI;rw[if_pos];simp
 simp only[snC]at hT1 hT2;rw[<-hD];rw[hD,zj Zbr.eq_1]
 conv=>rhs;rw[<-hD]
 clear hD;cases h1:thA s.tick s.agents[i]with
 |false =>
  rw[h1]at hT1;simp[Zb0,ZbT,zf,snC,hj,hcj,hT1,hw,zg,zH,-jI]
 |true =>
  have h2:thA s.tick s.agents[j]=false:=by
   rcases ht with h|h
   ·rw[h1]at h;exact absurd h (by decide)
   ·exact h
  rw[h1]at hT1;rw[h2]at hT2;simp[Zb0,ZbT,zf,snC,hj,hcj,hT1,hT2,hw,zg,zH,-jI]
theorem ZdJ{m:zD}{zs:List Zon}{ss:List Sgn}(hF:z7y m zs ss){s:SnV}{bs:List AgV}{ins:List z2T}(hbl:bs.length=s.agents.length)(hil:ins.length<=1000){i j:Nat}(hi:i<s.agents.length)(hj:j<s.agents.length)(vR:s.agents.length<=8)(hws:∀a∈s.agents,WAg m a)(hwb:∀a∈bs,WAg m a)(ht1:thA s.tick s.agents[i]=true)(ht2:thA s.tick s.agents[j]=true)(v w:Nat)(fz:Bool)(out:List CrV)(hol:out.length+10<=1000){S:Cl}{G:Mem}(hS:ZcF fz ins S G) :
  ∃(w':Nat) (G':Mem) (cs:List CrV),G'.length=G.length/\ZcF true ins S G'/\cs.length<=3/\(∀c∈cs,c.a=i)/\(ZcG m zs s bs i j->cs≠[]) /\
  Y L Cs Zbr (some [18,6,10,17,4,3,16]) (G.length+7) (Zb0 G.length i j out) (ZbT m s bs v fz w S G out)=Y L Cs Zbr (some [18,6,10,17,4,3,16]) (G.length+7) (Zb0 G.length i (j+1) (out++cs)) (ZbT m s bs v true w' S G' (out++cs)):=by
 have h:=hF.full.qt;have hT1:=z56 s i hi;have hT2:=z56 s j hj;rw[ht1]at hT1;rw[ht2]at hT2;have hw:=zB (i:=j) (by omega);have hcj:(j:Int)<s.agents.length:=by omega
 have hb1:i<bs.length:=by omega
 have hb2:j<bs.length:=by omega
 obtain⟨c1,hl1,ha1,hn1,hL⟩:=Zen h s ⟨s.tick+1,bs,ins⟩ i j hi hj hb1 hb2 (hws _ (jb hi)) (hws _ (jb hj)) (hwb _ (jb hb1)) (hwb _ (jb hb2));obtain⟨zl,⟨hzl,hzn⟩,hZ⟩:=z6X hF s ⟨s.tick+1,bs,ins⟩ hbl i j hi hj (hws _ (jb hi)) (hws _ (jb hj)) (hwb _ (jb hb1)) (hwb _ (jb hb2));have hz2:=hF.zn2;have hta:(Zbn bs).take bs.length=Zbn bs:=z63 bs;have htk:(ZbD out).take out.length=ZbD out:=jC (by simp);have hE1:∀(H:Mem) (x:Option Blk) (N:Mem),(H++x::N)[H.length]?=some x:=fun H x N=>by simp
 have hEs:∀(H:Mem) (x y:Option Blk) (N:Mem),(H++x::N).set H.length y=H++y::N:=fun H x y N=>by rw[kd _ _ (jk _)];simp
 have jX:(out.length+1)*64<=140737488355328:=by omega
 have An:out.length*64<=140737488355328:=by omega
 obtain⟨w',hw'⟩:∃w',w'=if fz=true then w else w+1:=⟨_,rfl⟩
 obtain⟨G',hS',hGl,hGe⟩:∃G',ZcF true ins S G'/\G'.length=G.length/\((S=.jd/\ins=[]/\G'=G)\/∃q u u',S=ZbW q ins/\q<G.length/\G[q]?=some (syF fz u ins)/\u'=(if fz=true then u else u+1)/\G'=G.set q (syF true u' ins)):=by
  cases hS with
  |nil hG=>exact⟨G,.nil hG,rfl,.inl ⟨rfl,rfl,rfl⟩⟩
  |own q u hq hG =>
   have hql:q<G.length:=by by_cases c:q<G.length;exact c;rw[jH (by omega)]at hq;cases hq
   refine⟨G.set q (syF true (if fz=true then u else u+1) ins),.own q _ (jY hql) ?_,by simp,.inr ⟨q,u,_,rfl,hql,hq,rfl,rfl⟩⟩;intro x hx;rcases kJ hx with hx|rfl
   ·exact hG x hx
   ·exact fun n=>by simp[pbw,Blk.below]
 obtain⟨c2,hl2,ha2,h3⟩:=ZdM (m:=m) (s:=s) (bs:=bs) hil v w' i j zl (by omega) hS' zl.length 0 (out++c1) (by omega) (by simp;omega);refine⟨w',G',c1++c2,hGl,hS',by simp;omega,?_,?_,?_⟩
 ·intro c hc;rcases jr.1 hc with hc|hc
  ·exact ha1 c hc
  ·exact ha2 c hc
 ·rintro⟨_,_,_,_,_,_,hx⟩ hn;have hn:=ud.1 hn;rcases hx with hx|hx
  ·exact hn1 hx hn.1
  ·refine hzn hx (jK.1 ?_);rw[<-hl2,hn.2];rfl
 obtain⟨hS1,hS2⟩:=hS'.at;have hEb:(Zb0 G'.length i (j+1) (out++(c1++c2))).all (fun x=>x.2.below (G'.length+7))=true:=by
  simp[AV.below,WV.below,WV.cells,Eng.below,uv]
 have hD:=Ze0 (m:=m) (s:=s) (bs:=bs) (v:=v) (w:=w') (fz:=true) (N:=[]) (out:=out++(c1++c2)) rfl hS1 hS2 hEb;have hD3:jI (G'.length+7) (ZcI G'.length zl i j 0 (out++c1)) (ZbT m s bs v true w' S G' (out++c1))=ZbT m s bs v true w' S G' (out++c1):=by
  unfold jI;rw[if_pos];simp
 have e7:G.length+1+1+1+1+1+1+1=G.length+7:=rfl;rw[hGl]at hD h3 hD3
 conv=>rhs;rw[<-hD]
 clear hD hEb hS1 hS2;rw[<-jA];simp only[ZcI,ZbT,agF,zf,snC,sl,own,Zb6,ZcD,jo,ji]at h3 hD3;simp only[zf,snC]at hT1 hT2 hL hZ;clear hS hS' hn1 hzn ha1 ha2 hws hwb;rw[zj Zbr.eq_1];rcases hGe with⟨rfl,rfl,rfl⟩ |⟨q,u,u',rfl,hql,hq,rfl,rfl⟩
 ·simp only[show z2H []=[] from rfl]at hL hZ
  match c1,hl1 with
  |[],_ =>
   simp only[show ZbD []=[] from rfl]at hL;simp only[kE,jv,kP]at h3 hD3;cases fz<;>simp only[jB,↓reduceIte]at hw'<;>subst hw'<;>simp (maxSteps:=1000000) [Zb0,ZbT,zf,snC,hj,hcj,hT1,hT2,hL,hZ,e7,hD3,h3,hw,hE1,hEs,hta,htk,jX,An,hGl,agF,Zb6,own,jo,zg,zH,zX,-jI]
  |[c],_ =>
   have hsn:=Zcc out c;have Cd:out.length+(c2.length+1)=out.length+1+c2.length:=by omega
   simp only[show ZbD [c]=[crC c] from rfl,crC]at hL;simp only[hsn,crC,jq,jv,j6]at h3 hD3;cases fz<;>simp only[jB,↓reduceIte]at hw'<;>subst hw'<;>simp (maxSteps:=1000000) [Zb0,ZbT,zf,snC,hj,hcj,hT1,hT2,hL,hZ,e7,hD3,h3,hw,hE1,hEs,hta,htk,jX,An,hGl,agF,Zb6,own,jo,zg,zH,zX,-jI,hsn,Cd,crC]
  |_::_::_,hl1=>simp at hl1
 ·have hq':∀N:Mem,(G++N)[q]?=some (syF fz u ins):=fun N=>by rw[jp hql,hq]
  have vF:∀(N:Mem) (x:Option Blk),(G++N).set q x=G.set q x++N:=fun N x=>kH _ _ hql
  have hq2:∀(N:Mem) (x:Option Blk),(G.set q x++N)[q]?=some x:=fun N x=>by rw[jp (by simpa using hql),jY hql]
  have BK:∀(z:Option Blk) (x:Option Blk) (N:Mem),(G.set q z++x::N)[G.length]?=some x:=fun z x N=>by
   simp
  have BJ:∀(z:Option Blk) (x y:Option Blk) (N:Mem),(G.set q z++x::N).set G.length y=G.set q z++y::N:=fun z x y N=>by
   simp
  have hti:=z62 ins;simp only[syF]at hq';cases fz with
  |false =>
   simp only[jB,↓reduceIte]at hw' h3 hD3 ⊢;subst hw'
   match c1,hl1 with
   |[],_ =>
    simp only[show ZbD []=[] from rfl]at hL;simp only[kE,jv,kP]at h3 hD3;simp (maxSteps:=1000000) [Zb0,ZbT,zf,snC,hj,hcj,hT1,hT2,hL,hZ,e7,hD3,h3,hw,hE1,hEs,BK,BJ,hq',vF,hq2,hti,hta,htk,jX,An,agF,syF,Zb6,own,jo,zg,zH,zX,-jI]
   |[c],_ =>
    have hsn:=Zcc out c;have Cd:out.length+(c2.length+1)=out.length+1+c2.length:=by omega
    simp only[show ZbD [c]=[crC c] from rfl,crC]at hL;simp only[hsn,crC,jq,jv,j6]at h3 hD3;simp (maxSteps:=1000000) [Zb0,ZbT,zf,snC,hj,hcj,hT1,hT2,hL,hZ,e7,hD3,h3,hw,hE1,hEs,BK,BJ,hq',vF,hq2,hti,hta,htk,jX,An,agF,syF,Zb6,own,jo,zg,zH,zX,-jI,hsn,Cd,crC]
   |_::_::_,hl1=>simp at hl1
  |true =>
   have hself:G.set q (syF true u ins)=G:=by
    refine ut fun k=>?_
    by_cases c:k=q
    ·subst c;rw[jY hql,hq]
    ·rw[jE (by omega)]
   simp only[↓reduceIte]at hw' h3 hD3 ⊢;rw[hself]at h3 hD3 ⊢;subst hw'
   match c1,hl1 with
   |[],_ =>
    simp only[show ZbD []=[] from rfl]at hL;simp only[kE,jv,kP]at h3 hD3;simp (maxSteps:=1000000) [Zb0,ZbT,zf,snC,hj,hcj,hT1,hT2,hL,hZ,e7,hD3,h3,hw,hE1,hEs,BK,BJ,hq',vF,hq2,hti,hta,htk,jX,An,agF,syF,Zb6,own,jo,zg,zH,zX,-jI]
   |[c],_ =>
    have hsn:=Zcc out c;have Cd:out.length+(c2.length+1)=out.length+1+c2.length:=by omega
    simp only[show ZbD [c]=[crC c] from rfl,crC]at hL;simp only[hsn,crC,jq,jv,j6]at h3 hD3;simp (maxSteps:=1000000) [Zb0,ZbT,zf,snC,hj,hcj,hT1,hT2,hL,hZ,e7,hD3,h3,hw,hE1,hEs,BK,BJ,hq',vF,hq2,hti,hta,htk,jX,An,agF,syF,Zb6,own,jo,zg,zH,zX,-jI,hsn,Cd,crC]
   |_::_::_,hl1=>simp at hl1
theorem ZcG.there{m:zD}{zs:List Zon}{s:SnV}{bs:List AgV}{i j:Nat}(h:ZcG m zs s bs i j)(hi:i<s.agents.length)(hj:j<s.agents.length):thA s.tick s.agents[i]=true/\thA s.tick s.agents[j]=true:=by
 obtain⟨_,_,_,_,h1,h2,_⟩:=h;exact⟨h1,h2⟩
theorem ZdI{m:zD}{zs:List Zon}{ss:List Sgn}(hF:z7y m zs ss){s:SnV}{bs:List AgV}{ins:List z2T}(hbl:bs.length=s.agents.length)(hil:ins.length<=1000){i:Nat}(hi:i<s.agents.length)(vR:s.agents.length<=8)(hws:∀a∈s.agents,WAg m a)(hwb:∀a∈bs,WAg m a)(v g:Nat){S:Cl}:∀(f j:Nat) (w:Nat) (fz:Bool) (out:List CrV) (G:Mem),G.length=g->j+f=s.agents.length->out.length+3*f+10<=1000->ZcF fz ins S G ->
  ∃(w':Nat) (fz':Bool) (G':Mem) (cs:List CrV),G'.length=g/\ZcF fz' ins S G'/\cs.length<=3*f/\(∀c∈cs,c.a=i)/\(∀k,j<=k->k<s.agents.length->ZcG m zs s bs i k->cs≠[]) /\
  Y L Cs Zbr (some [18,6,10,17,4,3,16]) (g+7) (Zb0 g i j out) (ZbT m s bs v fz w S G out)=some (.exit 6,(133,.w (Bo false))::Zb0 g i s.agents.length (out++cs),ZbT m s bs v fz' w' S G' (out++cs)):=by
 intro f;induction f with
 |zero =>
  intro j w fz out G hg hj ho hS;obtain rfl:j=s.agents.length:=by omega
  refine⟨w,fz,G,[],hg,hS,by simp,by simp,fun k h1 h2=>by omega,?_⟩;rw[zj Zbr.eq_1];simp[Zb0,ZbT,snC]
 |succ f ih =>
  intro j w fz out G hg hj ho hS;have hjl:j<s.agents.length:=by omega
  by_cases ht:thA s.tick s.agents[i]=true/\thA s.tick s.agents[j]=true
  ·obtain⟨w1,G1,c1,g1,g2,g3,g4,g5,g6⟩:=ZdJ hF hbl hil hi hjl vR hws hwb ht.1 ht.2 v w fz out (by omega) hS;rw[hg]at g6;obtain⟨w2,fz2,G2,c2,k1,k2,k3,k4,k5,k6⟩:=ih (j+1) w1 true (out++c1) G1 (by omega) (by omega) (by simp;omega) g2;refine⟨w2,fz2,G2,c1++c2,k1,k2,by simp;omega,?_,?_,?_⟩
   ·intro c hc;rcases jr.1 hc with hc|hc
    ·exact g4 c hc
    ·exact k4 c hc
   ·intro k h1 h2 h3 hn;have hn:=ud.1 hn;rcases qp h1 with e|e
    ·subst e;exact g5 h3 hn.1
    ·exact k5 k e h2 h3 hn.2
   ·rw[<-jA];exact g6.trans k6
  ·have hst:=ZdK hi hjl vR (by
    cases h1:thA s.tick s.agents[i]with
    |false=>exact .inl rfl
    |true =>
     cases h2:thA s.tick s.agents[j]with
     |false=>exact .inr rfl
     |true=>exact absurd ⟨h1,h2⟩ ht) v w fz (m:=m) (bs:=bs) out hS
   rw[hg]at hst;obtain⟨w2,fz2,G2,c2,k1,k2,k3,k4,k5,k6⟩:=ih (j+1) w fz out G hg (by omega) (by omega) hS;refine⟨w2,fz2,G2,c2,k1,k2,by omega,k4,?_,hst.trans k6⟩;intro k h1 h2 h3;rcases qp h1 with e|e
   ·subst e;exact absurd (h3.there hi hjl) ht
   ·exact k5 k e h2 h3
abbrev Zc2(g i:Nat)(out:List CrV):Env:=[(6,.w (Pt 2)),(10,.w (Pt 4)),(17,.w (W i)),(4,.w (Pt 1)),(3,.w (Pt 0)),(16,.w (.c (sl (g+6) 6 (ZbD out))))]
theorem ZdH{m:zD}{zs:List Zon}{ss:List Sgn}(hF:z7y m zs ss){s:SnV}{bs:List AgV}{ins:List z2T}(hbl:bs.length=s.agents.length)(hil:ins.length<=1000)(vR:s.agents.length<=7)(hws:∀a∈s.agents,WAg m a)(hwb:∀a∈bs,WAg m a)(v g:Nat){S:Cl}:∀(f i:Nat) (w:Nat) (fz:Bool) (out:List CrV) (G:Mem),G.length=g->i+f=s.agents.length->out.length+21*f+10<=1000->ZcF fz ins S G ->
  ∃(w':Nat) (fz':Bool) (G':Mem) (cs:List CrV),G'.length=g/\ZcF fz' ins S G'/\cs.length<=21*f/\(∀u k,i<=u->u<k->k<s.agents.length->ZcG m zs s bs u k->∃c∈cs,c.a=u) /\
  Y L Cs ZbK (some [6,10,17,4,3,16]) (g+7) (Zc2 g i out) (ZbT m s bs v fz w S G out)=some (.exit 4,(124,.w (Bo false))::Zc2 g s.agents.length (out++cs),ZbT m s bs v fz' w' S G' (out++cs)):=by
 intro f;induction f with
 |zero =>
  intro i w fz out G hg hi ho hS;obtain rfl:i=s.agents.length:=by omega
  refine⟨w,fz,G,[],hg,hS,by simp,fun u k h1 h2 h3=>by omega,?_⟩;rw[zj ZbK.eq_1];simp[Zc2,ZbT,snC]
 |succ f ih =>
  intro i w fz out G hg hi ho hS;have hil2:i<s.agents.length:=by omega
  obtain⟨w1,fz1,G1,c1,g1,g2,g3,g4,g5,g6⟩:=ZdI hF hbl hil hil2 (by omega) hws hwb v g (s.agents.length-(i+1)) (i+1) w fz out G hg (by omega) (by omega) hS;obtain⟨w2,fz2,G2,c2,k1,k2,k3,k5,k6⟩:=ih (i+1) w1 fz1 (out++c1) G1 g1 (by omega) (by simp;omega) g2;refine⟨w2,fz2,G2,c1++c2,k1,k2,by simp;omega,?_,?_⟩
  ·intro u k h1 h2 h3 h4;rcases qp h1 with e|e
   ·subst e;have:=g5 k h2 h3 h4;obtain⟨c,hc⟩:=List.exists_mem_of_ne_nil _ this;exact⟨c,jW _ hc,g4 c hc⟩
   ·obtain⟨c,hc,e2⟩:=k5 u k e h2 h3 h4;exact⟨c,kD _ hc,e2⟩
  ·rw[<-jA,<-k6];clear ih k6 k5 g5 g4 k3 g3 hws hwb;have hw:=zB (i:=i) (by omega);have hci:(i:Int)<s.agents.length:=by omega
   have w1':=kj ((i:Int)+1);have hD1:jI (g+7) (Zb0 g i (i+1) out) (ZbT m s bs v fz w S G out)=ZbT m s bs v fz w S G out:=by
    unfold jI;rw[if_pos];simp;omega
   have hD2:jI (g+7) (Zc2 g (i+1) (out++c1)) (ZbT m s bs v fz1 w1 S G1 (out++c1))=ZbT m s bs v fz1 w1 S G1 (out++c1):=by
    unfold jI;rw[if_pos];simp;omega
   conv=>rhs;rw[<-hD2]
   clear hD2;have hgl:G.length=g:=hg;have e7:g+1+1+1+1+1+1+1=g+7:=rfl;have hcast:((i+1:Nat):Int)=(i:Int)+1:=by omega
   simp only[Zb0,ZbT,agF,zf,snC,sl,own,Zb6,ZcD,jo,hcast]at g6 hD1;rw[zj ZbK.eq_1];simp (maxSteps:=1000000) [Zc2,ZbT,agF,zf,snC,sl,own,Zb6,jo,hil2,hci,hw,hgl,e7,hD1,g6,zg,zH,-jI]
theorem ZcL{n:Nat}{E:Env}{M:Mem}(h:M.length<=n):jI n E M=M:=by
 unfold jI;rw[if_pos h]
theorem ZdZ(ins:List z2T):∀x∈cpT ins,PB x:=by
 intro x hx;unfold cpT at hx;split at hx
 ·cases hx
 ·simp only[jx]at hx;subst hx;exact fun n=>by simp[pbw,Blk.below]
theorem ZbY.toq{n0:Nat}{out:List z2T}{S:Cl}{G:Mem}(h:ZbY n0 out S G):ZcF false out S G:=by
 cases h with
 |nil hG _=>exact .nil hG
 |own q hq hG _=>exact .own q _ hq hG
theorem Zd0{m:zD}{zs:List Zon}{ss:List Sgn}(hF:z7y m zs ss){s:SnV}(hs:KSn m s)(hc:z31 m s=0)(hl:s.agents.length<=7)(ht:s.tick<1099511627776)(ke:List Int)(hin:∀a∈ke,zk0 a) :
  ∃(bs:List AgV) (ins:List z2T) (cs:List CrV),bs.length=s.agents.length/\(∀(j:Nat) (h1:j<s.agents.length) (h2:j<bs.length),MvS m zs ss s.tick (ke.getD j 0) s.agents[j] bs[j])/\ZbX s.agents.length m.kh.length s.tick s.agents.length 0 ins/\cs.length<=200 /\
   (∀u k,u<k->k<s.agents.length->ZcG m zs s bs u k->∃c∈cs,c.a=u) /\
   R L Cs Zco [.a (zf m),.a (snC s),.c (.je (zu ke))] []=some (.t [.a (snC ⟨s.tick+1,bs,ins⟩),.c (.je (ZbD cs)),W 0],[]):=by
 have h:=hF.full.qt;have hC:=z5f h s hs;rw[hc]at hC;have hP:=Zeo s.tick s.agents hs.some hl s.ins hs.ins (fun a ha=>⟨((hs.ags a ha).on h).2.1,((hs.ags a ha).on h).2.2⟩);have hzn:m.kh.length=zs.length:=by rw[hF.full.zd.z];simp
 have hz2:=hF.zn2;obtain⟨bs,v1,w1,ins,S,G,hbl,hM,hS,hO,h2⟩:=ZdO hF hs hc hl ke hin ((cpT s.ins).length+6) s.agents.length 0 2 s.agents.length s.agents [] .jd (cpT s.ins) (by omega) rfl (fun j _ _ h=>absurd h (by omega)) (.nil (ZdZ _) rfl) ⟨List.Pairwise.nil,by simp,by simp,by simp,by simp⟩;have hil:ins.length<=1000:=by
  have h1:=hO.len;have:m.kh.length*s.agents.length<=2*7:=ux (by omega) (by omega);omega
 have hwb:∀a∈bs,WAg m a:=by
  intro a ha;obtain⟨j,hj,e⟩:=kO ha;rw[<-e];exact(hM j (by omega) hj).wag
 obtain⟨w3,fz,G3,cs,hg3,hS3,hcl,hcr,h5⟩:=ZdH hF hbl hil hl hs.ags hwb (v1+1) G.length s.agents.length 0 w1 false [] G rfl (by omega) (by simp;omega) hS.toq;refine⟨bs,ins,cs,hbl,hM,hO,by omega,fun u k h1 h2 h3=>hcr u k (by omega) h1 h2 h3,?_⟩;have c1:(s.tick==1099511627776)=false:=beq_false_of_ne (by omega);have htick:=hs.tick;have hw:=kj (s.tick+1);have hta:(Zbn bs).take bs.length=Zbn bs:=z63 bs;have htc:(ZbD cs).take cs.length=ZbD cs:=jC (by simp);have hti:=z62 ins;have hE1:∀(x:Option Blk) (N:Mem),(G3++x::N)[G.length]?=some x:=fun x N=>by rw[<-hg3];simp
 have hEs:∀(x y:Option Blk) (N:Mem),(G3++x::N).set G.length y=G3++y::N:=fun x y N=>by rw[<-hg3,kd _ _ (jk _)];simp
 clear hO hM hcr hwb;simp only[zf,snC]at hC hP;simp only[ZcO,ZbP,Zdk,zf,snC,ji]at h2;simp only[Zc2,ZbT,agF,zf,snC,sl,own,Zb6,ZcD,ji,jG,jv,show ZbD []=[] from rfl]at h5;rw[zUa Zcr rfl];cases hS3 with
 |nil hG =>
  by_cases hi:s.ins=[]
  ·simp only[Zbs,cpT,hi,↓reduceIte,jv,j6,show z2H []=[] from rfl]at hP hC h2 h5;cases fz<;>simp (maxSteps:=1000000) [ZbE,zf,snC,hC,hP,c1,hi,h2,hw,h5,ZcL,hta,htc,hE1,hEs,zg,zX,zH,-jI,show z2H []=[] from rfl]
  ·simp only[Zbs,cpT,hi,↓reduceIte,jq,jv,j6,Nat.reduceAdd]at hP h2;cases fz<;>simp (maxSteps:=1000000) [ZbE,zf,snC,hC,hP,c1,hi,h2,hw,h5,ZcL,hta,htc,hE1,hEs,zg,zX,zH,-jI,show z2H []=[] from rfl]
 |own q u hq hG =>
  have hql:q<G3.length:=by by_cases c:q<G3.length;exact c;rw[jH (by omega)]at hq;cases hq
  have hq':∀N:Mem,(G3++N)[q]?=some (syF fz u ins):=fun N=>by rw[jp hql,hq]
  have vF:∀(N:Mem) (x:Option Blk),(G3++N).set q x=G3.set q x++N:=fun N x=>kH _ _ hql
  have BK:∀(z:Option Blk) (x:Option Blk) (N:Mem),(G3.set q z++x::N)[G.length]?=some x:=fun z x N=>by
   have h0:(G3.set q z).length=G.length:=by simpa using hg3
   rw[<-h0];simp
  have BJ:∀(z:Option Blk) (x y:Option Blk) (N:Mem),(G3.set q z++x::N).set G.length y=G3.set q z++y::N:=fun z x y N=>by
   have h0:(G3.set q z).length=G.length:=by simpa using hg3
   rw[<-h0,kd _ _ (jk _)];simp
  simp only[syF]at hq';by_cases hi:s.ins=[]
  ·simp only[Zbs,cpT,hi,↓reduceIte,jv,j6,show z2H []=[] from rfl]at hP hC h2 h5;cases fz<;>simp (maxSteps:=1000000) [ZbE,zf,snC,hC,hP,c1,hi,h2,hw,h5,ZcL,hta,htc,hE1,hEs,zg,zX,zH,-jI,show z2H []=[] from rfl,hq',vF,BK,BJ,hti]
  ·simp only[Zbs,cpT,hi,↓reduceIte,jq,jv,j6,Nat.reduceAdd]at hP h2;cases fz<;>simp (maxSteps:=1000000) [ZbE,zf,snC,hC,hP,c1,hi,h2,hw,h5,ZcL,hta,htc,hE1,hEs,zg,zX,zH,-jI,show z2H []=[] from rfl,hq',vF,BK,BJ,hti]
theorem Zck{m:zD}{s:SnV}{k:zci}:z4P m s k=true<->z31 m s=0/\zdf m k=0/\s.tick=k.tick/\z7p (s.agents.getD 0 z3O) k.ego=true/\∀(i:Nat) (hi:i<s.agents.length),0<i->thA s.tick s.agents[i]=true->Zd4 m k s.agents[i]:=by
 have key:(List.range s.agents.length).any (z4z m s k)=false<->∀(i:Nat) (hi:i<s.agents.length),0<i->thA s.tick s.agents[i]=true->Zd4 m k s.agents[i]:=by
  rw[kQ];constructor
  ·intro h i hi h0 ht p hp;have:=h i (qw.2 hi);have hg:s.agents.getD i z3O=s.agents[i]:=by simp[hi]
   unfold z4z at this;rw[hg,ht,decide_eq_true h0,kN,kN,yA,kQ]at this;have:=this p hp;unfold unc at this;simp only[yA,Bool.not_eq_false',kM]at this;exact this
  ·intro h i hi;have hi:=qw.1 hi;have hg:s.agents.getD i z3O=s.agents[i]:=by simp[hi]
   unfold z4z;rw[hg];intro hb;simp only[jh,decide_eq_true_eq,kM]at hb;obtain⟨⟨h0,ht⟩,p,hp,hu⟩:=hb;obtain⟨b,hb,hc⟩:=h i hi h0 ht p hp;unfold unc at hu;rw[k9,kQ]at hu;exact hu b hb hc
 unfold z4P;simp only[jh,decide_eq_true_eq,k9];rw[key];constructor
 ·rintro⟨⟨⟨⟨a,b⟩,c⟩,d⟩,e⟩;exact⟨a,b,c,d,e⟩
 ·rintro⟨a,b,c,d,e⟩;exact⟨⟨⟨⟨a,b⟩,c⟩,d⟩,e⟩
theorem Zdg{m:zD}{zs:List Zon}{ss:List Sgn}(hf:zmq m zs ss){a:AgV}(ha:WAg m a):zaK m (z42 m a)=zaK m (a.jg.getD 0 0):=by
 obtain⟨x,t,er,hx,hxs,ht⟩:=Zb8 hf ha.jg;rcases ht with rfl |⟨y,rfl,hy,hyo,hys,hky⟩
 ·rw[(Zdh (m:=m) er).2.1,er];rfl
 ·obtain⟨a0s,a1s,a2,a3⟩:=ZcN (m:=m) er;rw[er];show _=zaK m x;by_cases hc:z8 m x<=a.s
  ·rw[(a2 hc).2,hky]
  ·rw[(a3 (by omega)).2]
theorem ZdX{n nz:Nat}{tick:Int}{i z:Nat}{ins:List z2T}(h:ZbX n nz tick i z ins):((List.range ins.length).any (z5F n nz ins))=false/\ins.any (zIY (tick+1))=false:=by
 constructor
 ·rw[kQ];intro j hj hb;have hj:=qw.1 hj;have hg:ins.getD j z3A=ins[j]:=by simp[hj]
  have hr:=h.rng _ (jb hj);unfold z5F at hb;rw[hg]at hb;simp only[qk,decide_eq_true_eq]at hb;rcases hb with(((hb|hb)|hb)|hb)|hb
  ·omega
  ·omega
  ·omega
  ·omega
  ·cases j with
   |zero=>exact absurd hb (by simp)
   |succ j =>
    have hp:=qJ.1 h.asc j (j+1) (by omega) hj (by omega);have hg2:ins.getD j z3A=ins[j]:=by simp[show j<ins.length by omega]
    have hg3:ins.getD (j+1) z3A=ins[j+1]:=by simp[hj]
    simp only[hg2,hg3]at hb;unfold z7a at hb;unfold ltI at hp;simp only[qk,jh,decide_eq_true_eq]at hb;omega
 ·rw[kQ];intro x hx hb;have:=h.val x hx;unfold zIY at hb;simp only[qk,decide_eq_true_eq]at hb;omega
structure CnI(m:zD)(sg:Bool)(i:Nat)(s:SnV)(k:zci):Prop where
 ks:KSn m s
 few:s.agents.length<=7
 cov:z4P m s k=true
 tick:s.tick=i
 free:∀h:0<s.agents.length,s.agents[0].uQ=false
 all:sg=true->∀(j:Nat) (hj:j<s.agents.length),0<j->s.agents[j].uQ=true
 apart:∀(j:Nat) (h0:0<s.agents.length) (hj:j<s.agents.length),0<j->thA s.tick s.agents[j]=true->ZbU m s.agents[0] s.agents[j]=false
 hold:sg=true->∀(j:Nat) (hj:j<s.agents.length),0<j->thA s.tick s.agents[j]=true->ZdG m k s.agents[j]
 shi:k.ego.shi<=9000000+2000*i
theorem Zd7{t:Int}{a:AgV}(h1:a.start<=t)(h2:a.gone=false):thA t a=true:=by
 unfold thA;simp[h1,h2]
theorem Zeh{m:zD}{zs:List Zon}{ss:List Sgn}(hf:zmq m zs ss)(hz:m.kh.length<=2){s:SnV}(hs:KSn m s)(hc:z31 m s=0)(hl:s.agents.length<=7)(ht:s.tick<1099511627776){ke:List Int}{bs:List AgV}{ins:List z2T}(hbl:bs.length=s.agents.length)(hM:∀(j:Nat) (h1:j<s.agents.length) (h2:j<bs.length),MvS m zs ss s.tick (ke.getD j 0) s.agents[j] bs[j])(hO:ZbX s.agents.length m.kh.length s.tick s.agents.length 0 ins) :
  KSn m ⟨s.tick+1,bs,ins⟩/\z31 m ⟨s.tick+1,bs,ins⟩=0/\(∀(j:Nat) (h1:j<s.agents.length) (h2:j<bs.length),bs[j].start=s.agents[j].start/\bs[j].jg=s.agents[j].jg/\bs[j].len=s.agents[j].len/\bs[j].uQ=s.agents[j].uQ):=by
 have yM:∀(j:Nat) (h1:j<s.agents.length) (h2:j<bs.length),bs[j].start=s.agents[j].start/\bs[j].jg=s.agents[j].jg/\bs[j].len=s.agents[j].len/\bs[j].uQ=s.agents[j].uQ:=by
  intro j h1 h2;have h:=hM j h1 h2;cases hth:thA s.tick s.agents[j]with
  |true =>
   have:=(h.here hth).1;exact⟨this.start,this.jg,this.len,this.uQ⟩
  |false=>rw[h.away hth];exact⟨rfl,rfl,rfl,rfl⟩
 have htk:=hs.tick;have hwb:∀a∈bs,WAg m a:=by
  intro a ha;obtain⟨j,hj,e⟩:=kO ha;rw[<-e];exact(hM j (by omega) hj).wag
 refine⟨⟨by simp only;omega,hwb,?_,by simp only;omega,by have:=hs.some;simp only;omega,?_,?_⟩,?_,yM⟩
 ·intro a ha hlt;obtain⟨j,hj,e⟩:=kO ha;simp only at hj hlt;have hjs:j<s.agents.length:=by omega
  have h1:=yM j hjs hj;have e:bs[j]=a:=e;rw[<-e]at hlt ⊢;have haw:thA s.tick s.agents[j]=false:=by
   cases hth:thA s.tick s.agents[j]with
   |false=>rfl
   |true =>
    have:=(ZcK hth).2;omega
  rw[(hM j hjs hj).away haw];exact hs.lat _ (jb hjs) (by omega)
 ·show(bs[0]'_).start=0;rw[(yM 0 hs.some (by have:=hs.some;omega)).1];exact hs.first
 ·have h1:=hO.len;have:m.kh.length*s.agents.length<=2*7:=ux (by omega) (by omega);simp only;omega
 ·obtain⟨i1,i2⟩:=ZdX hO;have hag:bs.any (fun a=>decide (z3z m a≠0))=false:=by
   rw[kQ];intro a ha;obtain⟨j,hj,e⟩:=kO ha;have hjs:j<s.agents.length:=by omega
   have hwa:=hs.ags _ (jb hjs);have hv:=ZcX hc _ (jb hjs);have hwj:=hwb a ha;have hb:0<=a.v/\a.v<=zeR (zaK m (z42 m a)):=by
    rw[<-e]at hwj ⊢;have h:=hM j hjs hj;cases hth:thA s.tick s.agents[j]with
    |false=>rw[h.away hth];exact hv
    |true =>
     have hm:=(h.here hth).1;have h1:=hm.pos;have h2:=hm.hi.2;rw[Zdg hf hwa]at h2;rw[Zdg hf hwj,hm.jg];exact⟨h1,h2⟩
   unfold z3z;rw[if_pos hb];simp
  unfold z31;simp only[hag,hbl,i1,i2,jB,↓reduceIte]
theorem ZeT{m:zD}{zs:List Zon}{ss:List Sgn}(hf:zmq m zs ss){a0 a0':AgV}{k:zci}{act tick:Int}(ha:WAg m a0)(hob:a0.uQ=false)(hM:MvS m zs ss tick act a0 a0')(hth:thA tick a0=true)(hego:z7p a0 k.ego=true) :
  Zd2 m a0.jg a0.len a0 a0' k (zaN m a0.jg k.ego act)/\z7p a0' (zaN m a0.jg k.ego act)=true:=by
 obtain⟨hm,hv⟩:=hM.here hth;have hv:=hv hob;rw[Zdg hf ha]at hv;have hv:a0'.v=zcD m a0.jg act a0.v:=hv;unfold z7p at hego ⊢;simp only[jh,decide_eq_true_eq]at hego ⊢;have m1:=zEJ m a0.jg act hego.2.1;have m2:=zEJ m a0.jg act hego.2.2;have hs:=hm.s;have hp:=hm.pos;have hl:=ha.len;unfold zaN;simp only;refine⟨⟨rfl,ha.jg,rfl,hm.len,by omega,by omega,by omega,by omega,by simp only;omega,by simp only;omega⟩,by omega⟩
theorem ZeV{m:zD}{zs:List Zon}{ss:List Sgn}(hF:z7y m zs ss)(hmz:Zcv m zs){sg:Bool}{i:Nat}(hi:i<=100){s:SnV}{k:zci}(hI:CnI m sg i s k)(k8:0<s.agents.length){ke:List Int}{bs:List AgV}{ins:List z2T}(hbl:bs.length=s.agents.length)
  (hM:∀(j:Nat) (h1:j<s.agents.length) (h2:j<bs.length),MvS m zs ss s.tick (ke.getD j 0) s.agents[j] bs[j]) (hO:ZbX s.agents.length m.kh.length s.tick s.agents.length 0 ins)
  (hcr:∀j,0<j->j<s.agents.length->¬ZcG m zs s bs 0 j) (hto:∀(j:Nat) (h0:0<bs.length) (hj:j<bs.length),0<j->thA (s.tick+1) bs[j]=true->ZbU m bs[0] bs[j]=false)
  (hlen:1<=s.agents[0].s-s.agents[0].len) (AG:s.agents[0].gone=false) :
  zm6 m s.agents[0].jg s.agents[0].len k (ke.getD 0 0)=0/\CnI m sg (i+1) ⟨s.tick+1,bs,ins⟩ (zpg m zs ss s.agents[0].jg s.agents[0].len k (zaN m s.agents[0].jg k.ego (ke.getD 0 0)) sg):=by
 have hf:=hF.full;have h:=hf.qt;have hs:=hI.ks;have htk:=hI.tick;have hzl:m.kh.length<=2:=by rw[hf.zd.z];have:=hF.zn2;simp;exact this
 obtain⟨q1,q2,q3,q4,q5⟩:=Zck.1 hI.cov;have hb0:0<bs.length:=by omega
 obtain⟨t1,t2,t3⟩:=Zeh hf hzl hs q1 hI.few (by omega) hbl hM hO;have ha0:=hs.ags _ (jb k8);have hg0:s.agents.getD 0 z3O=s.agents[0]:=by simp[k8]
 rw[hg0]at q4;have hst0:=hs.first;have hth0:thA s.tick s.agents[0]=true:=Zd7 (by omega) AG;obtain⟨ho,he⟩:=ZeT hf ha0 (hI.free k8) (hM 0 k8 hb0) hth0 q4;have hr:=ha0.jg;have hl:=ha0.len;have hshi:=hI.shi;have hsp:(zaN m s.agents[0].jg k.ego (ke.getD 0 0)).shi<=k.ego.shi+2000:=by
  obtain⟨x,t,er,hx,_,_⟩:=Zb8 hf hr;have:=zge h t hx (ke.getD 0 0) k.ego.vhi;rw[<-er]at this;unfold zaN;simp only;omega
 have hE:zm6 m s.agents[0].jg s.agents[0].len k (ke.getD 0 0)=0:=by
  unfold zm6;rw[if_pos q2,if_pos hr,if_pos ⟨hl,by omega,by omega⟩]
 have hK:=zEH hf hr s.agents[0].len k (ke.getD 0 0) sg q2 (by omega) (by omega);have hvb:=zxJ h q2;have Bq:0<=zfx s.agents[0].len (zaN m s.agents[0].jg k.ego (ke.getD 0 0)):=by
  have e1:=ho.eh;have e2:=ho.go;unfold zfx;omega
 have hr0:bs[0].jg=s.agents[0].jg:=(t3 0 k8 hb0).2.1;generalize hee:zaN m s.agents[0].jg k.ego (ke.getD 0 0)=e at *;have hag:∀(j:Nat) (hj:j<bs.length),0<j->thA (s.tick+1) bs[j]=true->Zd4 m (zpg m zs ss s.agents[0].jg s.agents[0].len k e sg) bs[j]/\(sg=true->ZdG m (zpg m zs ss s.agents[0].jg s.agents[0].len k e sg) bs[j]):=by
  intro j hj hj0 hth;have hjs:j<s.agents.length:=by omega
  have ha:=hs.ags _ (jb hjs);have hMj:=hM j hjs hj;refine Zei hf ho hr0 hvb sg hK hMj.wag (hto j hb0 hj hj0 hth) ?_;intro p hp o h1 h2;cases hts:thA s.tick s.agents[j]with
  |true =>
   obtain⟨hm,_⟩:=hMj.here hts;have hnc:=hcr j hj0 hjs;rw[q3]at hm;refine ZeS hf hmz ho hvb (fun l hl=>?_) (fun z hz=>?_) (hI.apart j k8 hjs hj0 hts) ha sg (fun hsg=>hI.all hsg j hjs hj0) hm (q5 j hjs hj0 hts) (fun hsg=>hI.hold hsg j hjs hj0 hts) hp h1 h2
   ·cases hc:lnB m s.agents[0] s.agents[j] bs[0] bs[j] l with
    |false=>rfl
    |true=>exact absurd ⟨k8,hjs,hb0,hj,hth0,hts,.inl ⟨l,hl,hc⟩⟩ hnc
   ·cases hc:ZcH m zs s.agents[0] s.agents[j] bs[0] bs[j] z with
    |false=>rfl
    |true=>exact absurd ⟨k8,hjs,hb0,hj,hth0,hts,.inr ⟨z,hz,hc⟩⟩ hnc
  |false =>
   have hab:=hMj.away hts;rw[hab]at hth hp ⊢;obtain⟨g1,g2⟩:=ZcK hth;have hlt:s.tick<s.agents[j].start:=by
    apply k7;intro hc;have:=Zd7 (t:=s.tick) (a:=s.agents[j]) (by omega) g1;rw[hts]at this;exact absurd this (by decide)
   exact ZeU hf Bq sg ha (hs.lat _ (jb hjs) hlt) (ZcX q1 _ (jb hjs)) hp h1 h2
 refine⟨hE,⟨t1,by have:=hI.few;simp only;omega,?_,by simp only;omega,?_,?_,?_,?_,?_⟩⟩
 ·refine Zck.2 ⟨t2,hK,?_,?_,?_⟩
  ·show s.tick+1=k.tick+1;omega
  ·show z7p (bs.getD 0 z3O) e=true;have:bs.getD 0 z3O=bs[0]:=by simp[hb0]
   rw[this];exact he
  ·intro j hj hj0 hth;exact(hag j hj hj0 hth).1
 ·intro _;show(bs[0]'_).uQ=false;rw[(t3 0 k8 hb0).2.2.2];exact hI.free k8
 ·intro hsg j hj hj0;simp only at hj ⊢;rw[(t3 j (by omega) hj).2.2.2];exact hI.all hsg j (by omega) hj0
 ·intro j h0 hj hj0 hth;exact hto j h0 hj hj0 hth
 ·intro hsg j hj hj0 hth;exact(hag j hj hj0 hth).2 hsg
 ·show e.shi<=9000000+2000*((i+1:Nat):Int);omega
theorem Zeb(k:Nat)(hk:k<7)(lim r o1 o2 o3 v:Int)(ws:List zCP):Zcv (zq k lim r o1 o2 o3 v ws) (zsP k r):=by
 intro p x q hp0 hx0 hpx hp hx;have key:∀a:Int,0<=a->a=0\/a=1\/a=2\/a=3\/4<=a.toNat:=fun a _=>by omega
 have few:(zq k lim r o1 o2 o3 v ws).jc.length<=4:=(zCl k hk lim r o1 o2 o3 v ws).few;have out:∀a:Int,4<=a.toNat->zS (zq k lim r o1 o2 o3 v ws) a=[]:=fun a h=>zyt (by omega)
 have only:∀a:Int,0<=a->q∈zS (zq k lim r o1 o2 o3 v ws) a->a=0\/k=4/\a=1:=by
  intro a ha hq;rcases key a ha with rfl|rfl|rfl|rfl|h
  ·exact .inl rfl
  ·match k,hk with
   |0,_ |1,_ |2,_ |3,_ |5,_ |6,_=>simp[zS,zq,zy,zQ]at hq
   |4,_=>exact .inr ⟨rfl,rfl⟩
  ·match k,hk with
   |0,_ |1,_ |2,_ |3,_ |4,_ |5,_ |6,_=>simp[zS,zq,zy,zQ]at hq
  ·match k,hk with
   |0,_ |1,_ |2,_ |3,_ |4,_ |5,_ |6,_=>simp[zS,zq,zy,zQ]at hq
  ·rw[out a h]at hq;cases hq
 have two:k=4/\(p=0/\x=1\/p=1/\x=0):=by
  rcases only p hp0 hp with h1 |⟨h0,h1⟩<;>rcases only x hx0 hx with h2 |⟨h0',h2⟩
  ·exact absurd (h1.trans h2.symm) hpx
  ·exact⟨h0',.inl ⟨h1,h2⟩⟩
  ·exact⟨h0,.inr ⟨h1,h2⟩⟩
  ·exact absurd (h1.trans h2.symm) hpx
 obtain⟨rfl,hpx2⟩:=two;have hq2:q=2:=by
  rcases hpx2 with⟨rfl,_⟩ |⟨rfl,_⟩<;>simpa [zS,zq,zy,zQ]using hp
 subst hq2;refine⟨0,by simp[zsP],⟨⟨2,0,5000,0⟩,by simp[zsP],rfl,rfl,by show(0:Int)<=5000;omega⟩,?_,?_⟩
 ·rcases hpx2 with⟨rfl,_⟩ |⟨rfl,_⟩<;>simp[zsP,zjF]
 ·rcases hpx2 with⟨_,rfl⟩ |⟨_,rfl⟩<;>simp[zsP,zjF]
theorem Zd3(n:Int):∃m zs ss,z7y m zs ss/\Zcv m zs/\R L Cs zY [W n] []=some (.w (.a (zf m)),[]):=by
 obtain⟨k,lim,r,o1,o2,o3,v,ws,hk,nu,hR⟩:=zA5 n;exact⟨_,_,_,z7A k hk nu,Zeb k hk lim r o1 o2 o3 v ws,hR⟩
def ZdW(c:CrV):Bool:=decide (c.a=0)
def ZdU(m:zD)(t:SnV)(a:AgV):Bool:=thA t.tick a&&ZbU m (t.agents.getD 0 z3O) a
def crF(m:zD)(t:SnV)(cs:List CrV):Bool:=cs.any ZdW||t.agents.tail.any (ZdU m t)
theorem Zd1{m:zD}(h:zcp m)(t:SnV)(hs:KSn m t)(cs:List CrV)(hcl:cs.length<=1000):R L Cs Zcd [.a (zf m),.a (snC t),.c (.je (ZbD cs))] []=some (.w (Bo (crF m t cs)),[]):=by
 have vR:=hs.few;have k8:=hs.some;have h1:=zpE (L:=L) (Cs:=Cs) (b:=Zby) (live:=some [3,4,2,7]) (n0:=2) cs (fun i=>[(3,.w (Pt 0)),(4,.w (Pt 1)),(2,.w (.c (.je (ZbD cs)))),(7,.w (W i))]) [bx 5 (zf m),bx 3 (snC t)] ZdW (.ret,[(6,.w (Bo true))],[bx 5 (zf m),bx 3 (snC t)]) (.exit 0,[(12,.w (Bo false)),(2,.w (.c (.je (ZbD cs)))),(4,.w (Pt 1)),(3,.w (Pt 0)),(7,.w (W cs.length))],[bx 5 (zf m),bx 3 (snC t)])
  (fun i hi hb=>by
   have hw:=zB (i:=i) (by omega);generalize hx:cs[i]=c at *;have b1:(c.a==0)=false:=by simpa [ZdW]using hb
   rw[zj Zby.eq_1];simp[zf,snC,crC,hi,hx,hw,b1])
  (fun i hi hb=>by
   generalize hx:cs[i]=c at *;have b1:(c.a==0)=true:=by simpa [ZdW]using hb
   rw[zj Zby.eq_1];simp[zf,snC,crC,hi,hx,b1])
  (by rw[zj Zby.eq_1];simp[zf,snC])
 have hg0:t.agents.getD 0 z3O=t.agents[0]:=by simp[k8]
 have hT:∀(i:Nat) (hi:i<t.agents.tail.length),R L Cs z3I [.a (snC t),W (i+1:Nat)] []=some (.w (Bo (thA t.tick t.agents.tail[i])),[]):=fun i hi=>by
  rw[vd];exact z56 t (i+1) (by simp at hi;omega)
 have hU:∀(i:Nat) (hi:i<t.agents.tail.length),R L Cs z3y [.a (zf m),.a (agC t.agents[0]),.a (agC t.agents.tail[i])] []=some (.w (Bo (ZbU m t.agents[0] t.agents.tail[i])),[]):=fun i hi=>z55 h (hs.ags _ (jb k8)) (hs.ags _ (List.mem_of_mem_tail (jb hi)))
 have h2:=zpE (L:=L) (Cs:=Cs) (b:=Zbx) (live:=some [4,3,8]) (n0:=2) t.agents.tail (fun i=>[(4,.w (Pt 1)),(3,.w (Pt 0)),(8,.w (W (i+1:Nat)))]) [bx 5 (zf m),bx 3 (snC t)] (ZdU m t) (.ret,[(6,.w (Bo true))],[bx 5 (zf m),bx 3 (snC t)]) (.exit 2,[(25,.w (Bo false)),(3,.w (Pt 0)),(4,.w (Pt 1)),(8,.w (W (t.agents.tail.length+1:Nat)))],[bx 5 (zf m),bx 3 (snC t)])
  (fun i hi hb=>by
   have hil:i+1<t.agents.length:=by simp at hi;omega
   have hci:(i:Int)+1<t.agents.length:=by omega
   have hw:=kj ((i:Int)+1+1);have h0:(0:Int)<t.agents.length:=by omega
   have hip:(0:Int)<=(i:Int)+1:=by omega
   have e1:t.agents.tail[i]=t.agents[i+1]:=vd ..;have q1:=hT i hi;have q2:=hU i hi;unfold ZdU at hb;rw[hg0]at hb;rw[e1]at hb q1 q2;have e2:((i+1:Nat):Int)=(i:Int)+1:=by omega
   rw[e2]at q1;generalize hx:t.agents[i+1]=a at *;generalize hy:t.agents[0]=b at *;simp only[zf,snC,agC]at q1 q2;rw[zj Zbx.eq_1];cases ht:thA t.tick a with
   |false =>
    rw[ht]at q1;simp[zf,snC,agC,hil,hci,hip,k8,h0,hx,hy,hw,q1,zg,zH]
   |true =>
    have hu:ZbU m b a=false:=by simpa [ht]using hb
    rw[ht]at q1;rw[hu]at q2;simp[zf,snC,agC,hil,hci,hip,k8,h0,hx,hy,hw,q1,q2,zg,zH])
  (fun i hi hb=>by
   have hil:i+1<t.agents.length:=by simp at hi;omega
   have hci:(i:Int)+1<t.agents.length:=by omega
   have h0:(0:Int)<t.agents.length:=by omega
   have hip:(0:Int)<=(i:Int)+1:=by omega
   have e1:t.agents.tail[i]=t.agents[i+1]:=vd ..;have q1:=hT i hi;have q2:=hU i hi;unfold ZdU at hb;rw[hg0]at hb;rw[e1]at hb q1 q2;have e2:((i+1:Nat):Int)=(i:Int)+1:=by omega
   rw[e2]at q1;generalize hx:t.agents[i+1]=a at *;generalize hy:t.agents[0]=b at *;simp only[jh]at hb;rw[hb.1]at q1;rw[hb.2]at q2;simp only[zf,snC,agC]at q1 q2;rw[zj Zbx.eq_1];simp[zf,snC,agC,hil,hci,hip,k8,h0,hx,hy,q1,q2,zg,zH])
  (by
   have e:t.agents.tail.length+1=t.agents.length:=by simp;omega
   rw[e,zj Zbx.eq_1];simp[zf,snC])
 unfold crF;simp only[zf,snC,ji,ky,j6]at h1 h2;rw[zUa Zce rfl];cases q1:cs.any ZdW with
 |true =>
  rw[q1]at h1;simp[ZbH,zf,snC,h1,zg]
 |false =>
  rw[q1]at h1;cases q2:t.agents.tail.any (ZdU m t)with
  |true =>
   rw[q2]at h2;simp[ZbH,zf,snC,h1,h2,zg]
  |false =>
   rw[q2]at h2;simp[ZbH,zf,snC,h1,h2,zg]
def obF(x:z45):z45:=⟨x.r,x.s,x.v,x.len,x.start,false⟩
def obL(l:List z45)(i:Nat):List z45:=(l.take i).map obF++l.drop i
theorem ZdC(l:List z45)(i:Nat):(obL l i).length=l.length:=by simp[obL];omega
@[simp] theorem ZeI(l:List z45):(∀x,x∈z32 l->x.length=6)<->True:=by simp[z32]
theorem Zew(l:List z45)(i:Nat)(h:i<l.length):(obL l i)[i]'(by rw[ZdC];exact h)=l[i]:=by
 unfold obL;rw[yg (by simp;omega)];simp
 congr 1
 omega
theorem Zev(l:List z45)(i:Nat)(h:i<l.length):(obL l i).set i (obF l[i])=obL l (i+1):=by
 unfold obL;have h1:((l.take i).map obF).length=i:=by simp;omega
 rw[kd _ _ (by omega),h1,yE,km h,yc,vc h,ui,jA];rfl
theorem Zdw(l:List z45)(i:Nat)(x:z45):(z32 l).set i (z3N x)=z32 (l.set i x):=by simp[z32,vT]
abbrev obE(n i:Nat):Env:=[(4,.w (W i)),(3,.w (.c (.slice 1 n 6 0 n none)))]
abbrev obM(l:List z45)(i:Nat):Mem:=[gb 6,some { box:=false,esz:=6,rows:=z32 (obL l i),gen:=l.length,fz:=false,ver:=l.length+i }]
theorem Zet(l:List z45)(hl:l.length<=7)(i:Nat)(hi:i<l.length):Y L Cs Zbt (some [4,3]) 2 (obE l.length i) (obM l i)=Y L Cs Zbt (some [4,3]) 2 (obE l.length (i+1)) (obM l (i+1)):=by
 have hw:=zB (i:=i) (by omega);have hci:(i:Int)<l.length:=by omega
 have hlen:=ZdC l i;have hg:=Zew l i hi;have hs:(z32 (obL l i)).set i (z3N (obF l[i]))=z32 (obL l (i+1)):=by rw[Zdw,Zev l i hi]
 have hil:i<(obL l i).length:=by omega
 have hv:l.length+(i+1)=l.length+i+1:=by omega
 generalize hx:l[i]=x at *;simp only[z3N,obF]at hs;rw[zj Zbt.eq_1];simp[obE,obM,z3N,hi,hci,hlen,hil,hg,hs,hw,hv]
theorem Zeu(l:List z45)(hl:l.length<=7):∀(f i:Nat),i+f=l.length->Y L Cs Zbt (some [4,3]) 2 (obE l.length i) (obM l i)=some (.exit 0,(11,.w (Bo false))::obE l.length l.length,obM l l.length):=by
 intro f;induction f with
 |zero =>
  intro i hi;obtain rfl:i=l.length:=by omega
  rw[zj Zbt.eq_1];simp[obE,obM]
 |succ f ih =>
  intro i hi;rw[Zet l hl i (by omega)];exact ih (i+1) (by omega)
theorem Zdz(l:List z45)(hl:l.length<=7):R L Cs Zca [.c (.je (z32 l))] []=some (.w (.c (.je (z32 (l.map obF)))),[]):=by
 have h1:l.length*48<=140737488355328:=by omega
 have hL:=Zeu l hl l.length 0 (by omega);have e0:obL l 0=l:=by simp[obL]
 have e1:obL l l.length=l.map obF:=by simp[obL]
 have tk:(z32 (l.map obF)).take l.length=z32 (l.map obF):=jC (by simp);simp only[obE,obM,e0,e1,kP,ji]at hL;rw[zUa Zcb rfl];by_cases hne:l=[]
 ·subst hne;simp only[show z32 []=[] from rfl,qE,jv]at hL;simp[ZbI,show z32 []=[] from rfl,hL,zg,zX]
 ·have h2:z32 l≠[]:=by simpa [z32]using hne
  simp[ZbI,h1,h2,hne,hL,tk,zg,zX]
theorem VB.okb{m:zD}(h:zcp m){b:zk}(hb:VB m b):OKB b:=by
 have h1:=hb.lo;have h2:=hb.le;have h3:=hb.hi;have hl:=(zcX h hb.lane).2;exact⟨by omega,by omega,by omega,by omega⟩
theorem Ze{out:List zk}{b:zk}(h:∀x∈out,OKB x)(hb:OKB b):∀x∈zcP out b,OKB x:=by
 rcases qH out with rfl |⟨o,a,rfl⟩
 ·rw[z9w];simpa using hb
 ·rw[qI]at *;rw[z9l];have ha:=h a (by simp);split
  ·intro x hx;rcases jr.1 hx with hx|hx
   ·exact h x (by simp[hx])
   ·simp at hx;subst hx;have q1:=ha.lo1;have q2:=ha.lo2;have q3:=ha.hi1;have q4:=ha.hi2;have r1:=hb.lo1;have r2:=hb.lo2;have r3:=hb.hi1;have r4:=hb.hi2;exact⟨by simp only[glue];omega,by simp only[glue];omega,by simp only[glue];omega,by simp only[glue];omega⟩
  ·intro x hx;rcases jr.1 hx with hx|hx
   ·exact h x hx
   ·simp at hx;subst hx;exact hb
theorem Zv:∀(r out:List zk),(∀x∈out,OKB x)->(∀x∈r,OKB x)->∀x∈r.foldl zcP out,OKB x
 |[],out,h,_=>h
 |b::r,out,h,hr=>by
  rw[jQ];exact Zv r _ (Ze h (hr b jt)) fun x hx=>hr x (ju _ hx)
theorem Zax{l:List zk}(h:∀x∈l,OKB x):∀x∈zcz l,OKB x:=by
 unfold zcz;exact Zv _ [] (by simp) fun x hx=>h x ((zuL l [] x hx).resolve_right (by simp))
theorem Zc1{out:List zk}{b:zk}(h:∀x∈out,x.hold=0)(hb:b.hold=0):∀x∈zcP out b,x.hold=0:=by
 rcases qH out with rfl |⟨o,a,rfl⟩
 ·rw[z9w];simpa using hb
 ·rw[qI]at *;rw[z9l];have ha:=h a (by simp);split
  ·intro x hx;rcases jr.1 hx with hx|hx
   ·exact h x (by simp[hx])
   ·simp at hx;subst hx;simp[glue,ha]
  ·intro x hx;rcases jr.1 hx with hx|hx
   ·exact h x hx
   ·simp at hx;subst hx;exact hb
theorem Zc9:∀(r out:List zk),(∀x∈out,x.hold=0)->(∀x∈r,x.hold=0)->∀x∈r.foldl zcP out,x.hold=0
 |[],out,h,_=>h
 |b::r,out,h,hr=>by
  rw[jQ];exact Zc9 r _ (Zc1 h (hr b jt)) fun x hx=>hr x (ju _ hx)
theorem ZdV{l:List zk}(h:∀x∈l,x.hold=0):∀x∈zcz l,x.hold=0:=by
 unfold zcz;exact Zc9 _ [] (by simp) fun x hx=>h x ((zuL l [] x hx).resolve_right (by simp))
theorem ZdY{x fr to:Int}{b c:zk}(h:c∈zoX x fr to b):c.hold=b.hold:=by
 unfold zoX at h;split at h
 ·simp at h;rw[h]
 ·rcases jr.1 h with h|h
  ·split at h
   ·simp at h;rw[h]
   ·cases h
  ·split at h
   ·simp at h;rw[h]
   ·cases h
theorem Zdb{x fr to:Int}:∀(l:List zk),(∀b∈l,b.hold=0)->∀c∈zhn x fr to l,c.hold=0
 |[],_,c,hc=>by cases hc
 |b::l,h,c,hc=>by
  unfold zhn at hc;rcases jr.1 hc with hc|hc
  ·rw[ZdY hc];exact h b (by simp)
  ·exact Zdb l (fun x hx=>h x (by simp[hx])) c hc
theorem Zc4(m:zD)(e:Ego)(len:Int):∀(r:List Int) (a:Int) (l:List zk),(∀b∈l,b.hold=0)->∀c∈zpO m e len a r l,c.hold=0
 |[],_,_,h=>h
 |x::r,a,l,h=>Zc4 m e len r _ _ (Zdb l h)
theorem ZdT(m:zD)(e:Ego)(len:Int)(r:List Int){l:List zk}(h:∀b∈l,b.hold=0):∀c∈zkr m e len r l,c.hold=0:=by
 unfold zkr;split
 ·exact Zc4 m e len r 0 l h
 ·exact h
def OKH(b:zk):Prop:=OKB b/\b.hold=0
theorem Zaj{m:zD}(h:zcp m)(hsh:zmX m)(l:List Int)(hr:zdA m l=0)(len:Int)(hlen:300<=len/\len<=20000)(k:zci)(hk:k.jU.length<=1000)(hok:∀b∈k.jU,OKB b) :
  ∃bs:List zk,bs.length<=4000/\((∀b∈bs,OKB b)/\((∀b∈k.jU,b.hold=0)->∀b∈bs,b.hold=0))/\R L Cs zLq [.a (zf m),.c (.je (zu l)),W len,.a (zG k)] []=some (.w (.a (zG ⟨k.tick,bs,k.ego⟩)),[]):=by
 obtain⟨hon,hne,hl8⟩:=zg1 h hr;have h2l:=zlP hsh hr;have h1:=zy8 k (by omega);have h2:=zxh h k (by omega) hok;have h3:=zp0 m h.small h.Au l (by omega);rw[hr]at h3;rw[zUa zLw rfl];by_cases c1:zdf m k=0
 ·have hbd:k.jU.length*2 ^ l.length<=100000000000:=by
   have:2 ^ l.length<=4:=by
    have:l.length=0\/l.length=1\/l.length=2:=by omega
    rcases this with e|e|e<;>rw[e]<;>decide
   exact kc (ux hk this) (by decide)
  have he:=zPa c1;have h6:=zxN h l hl8 hon len k.ego ⟨by omega,by omega,by omega,by omega⟩ ⟨by omega,hlen.2⟩ k.jU hbd;have hvb:=ztK k.ego len l k.jU (zxJ h c1);have hol:=zij m k.ego len h2l k.jU;refine⟨zkr m k.ego len l k.jU,by omega,⟨fun b hb=>(hvb b hb).okb h,fun hh=>ZdT m k.ego len l hh⟩,?_⟩;simp only[zf,zG,zch,c1]at h1 h2 h3 h6 ⊢;simp[zH1,h1,h2,h3,h6,hlen.1,hlen.2,zch]
 ·have b1:(zdf m k==0)=false:=by simp[c1]
  refine⟨k.jU,by omega,⟨hok,fun hh=>hh⟩,?_⟩;simp only[zf,zG]at h1 h2 ⊢;simp[zH1,h1,h2,c1,b1]
inductive StS (n0:Nat):List Pnt->Cl->Mem->Prop
 |nil (h:n0=4):StS n0 [] .jd []
 |own (q:Nat) {out:List Pnt} {G:Mem} (hq:G[q]?=some (ptB out)) (hG:∀x∈G,PB x) (hn:n0=G.length+4\/4<=n0/\n0<=q+4):StS n0 out (ptS q out) G
theorem StS.drop{n0:Nat}{out:List Pnt}{S:Cl}{G:Mem}(h:StS n0 out S G){m:zD}{s:SnV}{seen:List Spn}{v:Nat}{X:Option Blk}(hX:PB X){E:Env}(hE:E.all (fun x=>x.2.below n0)=true):∃G',jI n0 E (snM m s seen v S (G++[X]))=snM m s seen v S G'/\StS n0 out S G':=by
 cases h with
 |nil h =>
  subst h;exact⟨[],ZZ hE,.nil rfl⟩
 |own q hq hG hn =>
  have hql:q<G.length:=by by_cases c:q<G.length;exact c;rw[jH (by omega)]at hq;cases hq
  rcases hn with hn|hn
  ·exact⟨G,Zb hn hql hG hE,.own q hq hG (.inl hn)⟩
  ·refine⟨G++[X],z8I hn.1 hn.2,.own q (by rw[jp hql,hq]) ?_ (.inr hn)⟩;intro x hx;rcases jr.1 hx with hx|hx
   ·exact hG x hx
   ·simp only[jx]at hx;subst hx;exact hX
theorem z8P{m:zD}(a:AgV):∀(r:List Int) (i:Nat),(∀x∈z4F m a i r,x.lo<=x.hi/\0<=x.lo/\x.lane∈r/\x.hi<=z8 m x.lane/\(x.hi-x.lo<=max 0 a.len))
 |[],_=>by simp[z4F]
 |x::r,i=>by
  intro y hy;unfold z4F at hy;rcases jr.1 hy with hy|hy
  ·split at hy
   ·rename_i c;simp only[jx]at hy;subst hy;refine⟨c,?_,jt ..,?_,?_⟩
    ·show 0<=max 0 (a.s-a.len-zb4 m a.jg i);omega
    ·show min (a.s-zb4 m a.jg i) (z8 m x)<=z8 m x;omega
    ·show min (a.s-zb4 m a.jg i) (z8 m x)-max 0 (a.s-a.len-zb4 m a.jg i)<=max 0 a.len;omega
   ·cases hy
  ·obtain⟨h1,h2,h3,h4⟩:=z8P a r (i+1) y hy;exact⟨h1,h2,ju _ h3,h4⟩
theorem z9E{n:Nat}{E:Env}{M:Mem}(h:M.length<=n):jI n E M=M:=by unfold jI;rw[if_pos h]
abbrev cvZ:List Cl:=[I 0,.jd,I 0,I 0,I 0,I 0]
abbrev cwM(m:zD)(s:SnV)(v:Nat)(S:Cl)(G:Mem):Mem:=bx 5 (zf m)::bx 3 (snC s)::bx 6 cvZ::bxv v 6 [I s.tick,S,I 0,I 0,I 0,I 0]::G
abbrev blB(out:List zk):Option Blk:=some { box:=false,esz:=6,rows:=zI out,gen:=out.length,fz:=false,ver:=out.length }
abbrev blS(q:Nat)(out:List zk):Cl:=.slice (q+4) out.length 6 0 out.length none
theorem ZaP(out:List zk):PB (blB out):=fun n=>by simp[pbw,Blk.below]
theorem ZaY{m:zD}{s:SnV}{v q n:Nat}{out:List zk}{G N:Mem}{E:Env}(hn:n=G.length+4)(hq:q<G.length)(hG:∀x∈G,PB x)(hE:E.all (fun x=>x.2.below n)=true):jI n E (cwM m s v (blS q out) (G++N))=cwM m s v (blS q out) G:=by
 subst hn;unfold jI;split
 ·rename_i h;have hN:N=[]:=jK.1 (by simp only[cwM,jq,jo]at h;omega);subst hN;simp
 ·rw[if_pos]
  ·simp
  ·rw[hE,kN];have e:List.take (G.length+4) (cwM m s v (blS q out) (G++N))=cwM m s v (blS q out) G:=by simp
   rw[e];simp[zH,Blk.below,Eng.below,uv,zf,snC];refine⟨by omega,fun x hx=>?_⟩;have:=hG x hx (G.length+4);cases x with
   |none=>rfl
   |some b=>simp[pbw,Blk.below]at this;simpa using this
theorem Z4{m:zD}{s:SnV}{v q n:Nat}{out:List zk}{G:Mem}{E:Env}(h4:4<=n)(hn:n<=q+4):jI n E (cwM m s v (blS q out) G)=cwM m s v (blS q out) G:=by
 unfold jI;split
 ·rfl
 ·rw[if_neg];obtain⟨k,rfl⟩:∃k,n=k+4:=⟨n-4,by omega⟩;have hc:¬q+4+1<=k+4:=by omega
  simp[zH,Blk.below,Eng.below,uv,hc]
inductive StB (n0:Nat):List zk->Cl->Mem->Prop
 |nil (h:n0=4):StB n0 [] .jd []
 |own (q:Nat) {out:List zk} {G:Mem} (hq:G[q]?=some (blB out)) (hG:∀x∈G,PB x) (hn:n0=G.length+4\/4<=n0/\n0<=q+4):StB n0 out (blS q out) G
abbrev z9r(at_ j:Nat)(sp:Int)(pad:List Int)(ps:List Spn)(i:Nat):Env:=[(10,.w (W at_)),(13,.w (W j)),(3,.w (W sp)),(8,.w (Pt 2)),(2,.w (.c (.je (zu pad)))),(4,.w (Pt 0)),(12,.w (.c (.je (zWx ps)))),(5,.w (Pt 1)),(11,.w (W i)),(9,.w (Pt 3))]
theorem ZS(at_ j:Nat)(sp:Int)(pad:List Int)(ps:List Spn)(i:Nat){n:Nat}(hn:4<=n):(z9r at_ j sp pad ps i).all (fun x=>x.2.below n)=true:=by
 simp[AV.below,WV.below,WV.cells,Eng.below,uv];refine⟨?_,?_,?_,?_⟩<;>first |omega |exact decide_eq_true (by omega)
theorem room48{n:Nat}(h:n<=100000):(n+1)*48<=140737488355328:=by omega
theorem ZaC{m:zD}(h:zcp m)(s:SnV)(hs:KSn m s)(sp:Int)(pad:List Int)(Bj:pad.length<=1000)(hpi:∀x∈pad,zk0 x)(ps:List Spn)(hps:∀x∈ps,(0<=x.lane/\x.lane<m.jc.length)/\0<=x.lo/\x.lo<=x.hi/\x.hi<=z8 m x.lane)(hpl:ps.length<=8)(i j at_:Nat)(hi:i<s.agents.length)(hj:j<ps.length)(hat:at_<=1000)(hst:thA s.tick (s.agents[i]'hi)=true)(n0 v:Nat)(out:List zk)(AO:out.length<=1000)(S:Cl)(G:Mem)(hS:StB n0 out S G) :
  ∃(b:zk) (v':Nat) (S':Cl) (G':Mem),OKH b/\StB n0 (out++[b]) S' G' /\
  Y L Cs z7G (some [10,13,3,8,2,4,12,5,11,9]) n0 (z9r at_ j sp pad ps i) (cwM m s v S G)=Y L Cs z7G (some [10,13,3,8,2,4,12,5,11,9]) n0 (z9r (at_+1) (j+1) sp pad ps i) (cwM m s v' S' G'):=by
 have vR:=hs.few;have hw:=zB (i:=j) (by omega);have hwa:=zB (i:=at_) (by omega);have hci:(i:Int)<s.agents.length:=by omega
 have hcj:(j:Int)<ps.length:=by omega
 have ha:=hs.ags _ (jb hi);have hT:=z56 s i hi;rw[hst]at hT;obtain⟨px1,px2,px3,px4⟩:=hps _ (jb hj);obtain⟨jl,hjl⟩:=jw px1.1;have hjm:jl<m.jc.length:=by omega
 have hB:=zhv (h.kind _ (jb hjm));have hL:=zEV h px1;have hlen:=zcX h px1;obtain⟨p,hpI,hP⟩:∃p:Int,zk0 p/\((pad=[]/\p=0/\p % 3000=IntKind.i64.wrap (p.tdiv 7) % 3000/\p % 50=IntKind.i64.wrap (p.tdiv 3) % 50)\/0<pad.length/\∃(hh:at_ % pad.length<pad.length),p=pad[at_ % pad.length]):=by
  by_cases c:pad.length=0
  ·exact⟨0,by unfold zk0;omega,.inl ⟨jK.1 c,rfl,rfl,rfl⟩⟩
  ·have hh:=qA at_ (show 0<pad.length by omega);exact⟨pad[at_ % pad.length],hpi _ (jb hh),.inr ⟨by omega,hh,rfl⟩⟩
 have m1:=zD0 p 3000 (by omega) (by omega);have m2:=zD0 (IntKind.i64.wrap (p.tdiv 7)) 3000 (by omega) (by omega);have m3:=zD0 p 50 (by omega) (by omega);have m4:=zD0 (IntKind.i64.wrap (p.tdiv 3)) 50 (by omega) (by omega);have r1:=zDJ p 3000 (by omega);have r2:=zDJ (IntKind.i64.wrap (p.tdiv 7)) 3000 (by omega);generalize p % 3000=d1 at *;generalize IntKind.i64.wrap (p.tdiv 7) % 3000=d2 at *;generalize p % 50=d3 at *;generalize IntKind.i64.wrap (p.tdiv 3) % 50=d4 at *;generalize hag:s.agents[i]=a at *;generalize hx:ps[j]=x at *;have w1:=kj (x.lo-d1);have w2:=kj (x.hi+d2);generalize hln:z8 m x.lane=ln at *;rw[hjl]at hL;generalize hv1:IntKind.i64.wrap (a.v-d3)=u1 at *;generalize hv2:IntKind.i64.wrap (a.v+d4)=u2 at *;generalize htv:zeR m.jc[jl].kind=tv at *;let b:zk:=⟨jl,max 0 (x.lo-d1),min ln (x.hi+d2),max 0 u1,min tv u2,0⟩;have hbk:OKB b:=⟨by show -9223372036854775808<=max 0 (x.lo-d1);omega,by show max 0 (x.lo-d1)<=9223372036854775807;omega,by show -9223372036854775808<=min ln (x.hi+d2);omega,by show min ln (x.hi+d2)<=9223372036854775807;omega⟩;have q5:Int.tmod (at_:Int) (pad.length:Int)=((at_ % pad.length:Nat):Int):=rfl;have jX:=room48 (n:=out.length) (by omega);simp only[zf,snC]at hT hL;clear px1 px2 px3 px4 hlen r1 r2 hpI hpi hps ha h hs;cases hS with
 |nil hn =>
  subst hn;refine⟨b,v+1,blS 1 [b],[blB [b],blB [b]],⟨hbk,rfl⟩,.own 1 rfl (by intro y hy;simp at hy;subst hy;exact ZaP _) (.inr ⟨by omega,by omega⟩),?_⟩;rw[zj z7G.eq_1];rcases hP with⟨rfl,rfl,rfl,rfl⟩ |⟨l0,hh,hpe⟩
  ·have x0:IntKind.i64.wrap 0=0:=rfl;simp only[Int.zero_tdiv,x0]at m2 m4;simp (maxSteps:=1000000) [x0,z9r,cwM,blB,blS,b,zf,snC,agC,zWX,ze,zo,hi,hj,hci,hcj,hag,hx,hjl,hjm,hT,hB,hL,htv,m1,m2,m3,m4,w1,w2,hv1,hv2,hw,hwa,zg,zH]
  ·have l0':(0:Int)<pad.length:=by omega
   have l1:¬pad.length=0:=by omega
   have hq6:0<=(at_:Int) % (pad.length:Int):=qL _ (by omega);have hq7:(at_:Int) % (pad.length:Int)<pad.length:=qq _ (by omega);have hq8:((at_:Int) % (pad.length:Int)).toNat=at_ % pad.length:=by rw[<-Int.natCast_emod];exact yq _
   have hpe':=hpe.symm;simp (maxSteps:=1000000) [z9r,cwM,blB,blS,b,zf,snC,agC,zWX,ze,zo,hi,hj,hci,hcj,hag,hx,hjl,hjm,hT,hB,hL,htv,m1,m2,m3,m4,w1,w2,hv1,hv2,hw,hwa,l0,l0',l1,q5,hq6,hq7,hq8,hh,hpe',zg,zH]
 |own q hq hG hn =>
  have hql:q<G.length:=by by_cases c:q<G.length;exact c;rw[jH (by omega)]at hq;cases hq
  have hE1:∀(x:Option Blk) (N:Mem),(G++x::N)[G.length]?=some x:=fun x N=>by simp
  have hEs:∀(x y:Option Blk) (N:Mem),(G++x::N).set G.length y=G++y::N:=fun x y N=>by rw[kd _ _ (jk _)];simp
  have hq':∀N:Mem,(G++N)[q]?=some (blB out):=fun N=>by rw[jp hql,hq]
  have vF:∀(N:Mem) (x:Option Blk),(G++N).set q x=G.set q x++N:=fun N x=>kH _ _ hql
  have htk:(zI out).take out.length=zI out:=jC (by simp);have BP:∀y∈G.set q (blB (out++[b])),PB y:=by
   intro y hy;rcases kJ hy with hy|rfl
   ·exact hG y hy
   ·exact ZaP _
  have hn4:4<=n0:=by omega
  have hqS:(G.set q (blB (out++[b])))[q]?=some (blB (out++[b])):=jY hql;have key:Y L Cs z7G (some [10,13,3,8,2,4,12,5,11,9]) n0 (z9r at_ j sp pad ps i) (cwM m s v (blS q out) G)=Y L Cs z7G (some [10,13,3,8,2,4,12,5,11,9]) n0 (z9r (at_+1) (j+1) sp pad ps i) (jI n0 (z9r (at_+1) (j+1) sp pad ps i) (cwM m s (v+1) (blS q (out++[b])) (G.set q (blB (out++[b]))++[blB [b]]))):=by
   simp only[blB]at hq';clear BP hqS hG hn hq;rw[zj z7G.eq_1];rcases hP with⟨rfl,rfl,rfl,rfl⟩ |⟨l0,hh,hpe⟩
   ·have x0:IntKind.i64.wrap 0=0:=rfl;simp only[Int.zero_tdiv,x0]at m2 m4;simp (maxSteps:=1000000) [x0,z9r,cwM,blB,blS,b,zf,snC,agC,zWX,ze,zo,hi,hj,hci,hcj,hag,hx,hjl,hjm,hT,hB,hL,htv,m1,m2,m3,m4,w1,w2,hv1,hv2,hw,hwa,hE1,hEs,hq',vF,htk,jX,zg,zH,-jI]
   ·have l0':(0:Int)<pad.length:=by omega
    have l1:¬pad.length=0:=by omega
    have hq6:0<=(at_:Int) % (pad.length:Int):=qL _ (by omega);have hq7:(at_:Int) % (pad.length:Int)<pad.length:=qq _ (by omega);have hq8:((at_:Int) % (pad.length:Int)).toNat=at_ % pad.length:=by rw[<-Int.natCast_emod];exact yq _
    have hpe':=hpe.symm;simp (maxSteps:=1000000) [z9r,cwM,blB,blS,b,zf,snC,agC,zWX,ze,zo,hi,hj,hci,hcj,hag,hx,hjl,hjm,hT,hB,hL,htv,m1,m2,m3,m4,w1,w2,hv1,hv2,hw,hwa,l0,l0',l1,q5,hq6,hq7,hq8,hh,hpe',hE1,hEs,hq',vF,htk,jX,zg,zH,-jI]
  rcases hn with hn|hn
  ·rw[ZaY (by simpa using hn) (by simpa using hql) BP (ZS _ _ _ _ _ _ hn4)]at key;exact⟨b,v+1,_,_,⟨hbk,rfl⟩,.own q hqS BP (.inl (by simpa using hn)),key⟩
  ·rw[Z4 hn.1 hn.2]at key;refine⟨b,v+1,_,_,⟨hbk,rfl⟩,.own q (by rw[jp (by simpa using hql)];exact hqS) ?_ (.inr hn),key⟩;intro y hy;rcases jr.1 hy with hy|hy
   ·exact BP y hy
   ·simp at hy;subst hy;exact ZaP _
abbrev Zbg(at_ j:Nat)(sp:Int)(pad:List Int)(ps:List Spn)(i:Nat):Env:=(45,.w (Bo false))::z9r at_ j sp pad ps i
theorem ZaD{m:zD}(h:zcp m)(s:SnV)(hs:KSn m s)(sp:Int)(pad:List Int)(Bj:pad.length<=1000)(hpi:∀x∈pad,zk0 x)(ps:List Spn)(hps:∀x∈ps,(0<=x.lane/\x.lane<m.jc.length)/\0<=x.lo/\x.lo<=x.hi/\x.hi<=z8 m x.lane)(hpl:ps.length<=8)(i:Nat)(hi:i<s.agents.length)(n0:Nat):∀(f j at_ v:Nat) (out:List zk) (S:Cl) (G:Mem),j+f=ps.length->at_+f<=1000->out.length+f<=1000->(∀b∈out,OKH b)->StB n0 out S G ->
  ∃(at' j' v':Nat) (qV:List zk) (S':Cl) (G':Mem),at'<=at_+f/\qV.length<=out.length+f/\(∀b∈qV,OKH b)/\StB n0 qV S' G' /\
  Y L Cs z7G (some [10,13,3,8,2,4,12,5,11,9]) n0 (z9r at_ j sp pad ps i) (cwM m s v S G)=some (.exit 2,Zbg at' j' sp pad ps i,cwM m s v' S' G'):=by
 have vR:=hs.few;have ha:=hs.ags _ (jb hi);have hT:=z56 s i hi;intro f;induction f with
 |zero =>
  intro j at_ v out S G hj hat ho hok hS;obtain rfl:j=ps.length:=by omega
  refine⟨at_,ps.length,v,out,S,G,by omega,by omega,hok,hS,?_⟩;rw[zj z7G.eq_1];simp[z9r,cwM]
 |succ f ih =>
  intro j at_ v out S G hj hat ho hok hS;have hcj:(j:Int)<ps.length:=by omega
  by_cases c:thA s.tick (s.agents[i]'hi)=true
  ·obtain⟨b,v1,S1,G1,g1,g2,g3⟩:=ZaC h s hs sp pad Bj hpi ps hps hpl i j at_ hi (by omega) (by omega) c n0 v out (by omega) S G hS;obtain⟨a2,j2,v2,o2,S2,G2,k1,k2,k3,k4,k5⟩:=ih (j+1) (at_+1) v1 (out++[b]) S1 G1 (by omega) (by omega) (by simp;omega) (by
    intro x hx;rcases jr.1 hx with hx|hx
    ·exact hok x hx
    ·simp at hx;subst hx;exact g1) g2
   exact⟨a2,j2,v2,o2,S2,G2,by omega,by simp at k2;omega,k3,k4,g3.trans k5⟩
  ·rw[qP.2 c]at hT;refine⟨at_,j,v,out,S,G,by omega,by omega,hok,hS,?_⟩;simp only[snC]at hT;rw[zj z7G.eq_1];simp[z9r,cwM,snC,hcj,hT,zg,zH]
theorem StB.up{n0:Nat}{out:List zk}{S:Cl}{G:Mem}(h:StB n0 out S G):StB 4 out S G/\∀{m:zD} {s:SnV} {v:Nat} {E:Env},E.all (fun x=>x.2.below 4)=true->jI 4 E (cwM m s v S G)=cwM m s v S G:=by
 cases h with
 |nil h=>exact⟨.nil rfl,fun hE=>z9E (by simp)⟩
 |own q hq hG hn=>exact⟨.own q hq hG (.inr ⟨by omega,by omega⟩),fun hE=>Z4 (by omega) (by omega)⟩
theorem StB.down{out:List zk}{S:Cl}{G:Mem}(h:StB 4 out S G):StB (G.length+4) out S G:=by
 cases h with
 |nil h=>exact .nil rfl
 |own q hq hG hn=>exact .own q hq hG (.inl rfl)
abbrev ZA(at_:Nat)(sp:Int)(pad:List Int)(i:Nat):Env:=[(10,.w (W at_)),(8,.w (Pt 2)),(3,.w (W sp)),(2,.w (.c (.je (zu pad)))),(4,.w (Pt 0)),(5,.w (Pt 1)),(11,.w (W i)),(9,.w (Pt 3))]
abbrev Zbf(at_:Nat)(sp:Int)(pad:List Int)(i:Nat):Env:=[(27,.w (Bo false)),(10,.w (W at_)),(3,.w (W sp)),(8,.w (Pt 2)),(2,.w (.c (.je (zu pad)))),(4,.w (Pt 0)),(5,.w (Pt 1)),(11,.w (W i)),(9,.w (Pt 3))]
theorem ZR(at_:Nat)(sp:Int)(pad:List Int)(i:Nat):(ZA at_ sp pad i).all (fun x=>x.2.below 4)=true:=by
 simp[AV.below,WV.below,WV.cells,Eng.below,uv]
theorem ZV{m:zD}(h:zcp m){a:AgV}(ha:WAg m a):∀x∈z2B m a,(0<=x.lane/\x.lane<m.jc.length)/\0<=x.lo/\x.lo<=x.hi/\x.hi<=z8 m x.lane:=fun x hx=>by
 obtain⟨h1,h2,h3,h4,_⟩:=z8P a _ 0 x hx;exact⟨(ha.on h).1 _ h3,h2,h1,h4⟩
theorem ZaA{m:zD}(h:zcp m)(s:SnV)(hs:KSn m s)(sp:Int)(pad:List Int)(Bj:pad.length<=1000)(hpi:∀x∈pad,zk0 x)(i at_:Nat)(hi:i<s.agents.length)(hat:at_<=8*i)(v:Nat)(out:List zk)(ho:out.length<=8*i)(hok:∀b∈out,OKH b)(S:Cl)(G:Mem)(hS:StB 4 out S G) :
  ∃(at' v':Nat) (qV:List zk) (S':Cl) (G':Mem),at'<=8*(i+1)/\qV.length<=8*(i+1)/\(∀b∈qV,OKH b)/\StB 4 qV S' G' /\
  Y L Cs z7O (some [10,8,3,2,4,5,11,9]) 4 (ZA at_ sp pad i) (cwM m s v S G)=Y L Cs z7O (some [10,8,3,2,4,5,11,9]) 4 (ZA at' sp pad (i+1)) (cwM m s v' S' G'):=by
 have vR:=hs.few;have hw:=zB (i:=i) (by omega);have hci:(i:Int)<s.agents.length:=by omega
 have ha:=hs.ags _ (jb hi);have hB:=z5H h ha;have hl:=z38 h ha;obtain⟨a2,j2,v2,o2,S2,G2,k1,k2,k3,k4,k5⟩:=ZaD h s hs sp pad Bj hpi (z2B m s.agents[i]) (ZV h ha) hl i hi (G.length+4) (z2B m s.agents[i]).length 0 at_ v out S G (by omega) (by omega) (by omega) hok hS.down;obtain⟨u1,u2⟩:=k4.up;refine⟨a2,v2,o2,S2,G2,by omega,by omega,k3,u1,?_⟩;have hd:=u2 (m:=m) (s:=s) (v:=v2) (ZR a2 sp pad (i+1));have hdl:∀(E:Env),jI (G.length+4) E (cwM m s v S G)=cwM m s v S G:=fun E=>z9E (by simp)
 generalize hag:s.agents[i]=a at *;simp only[zf,agC]at hB;simp only[ZA,cwM,jJ,ky,zf]at hd;simp only[cwM,zf]at hdl;simp only[z9r,Zbg,cwM,zf,ji]at k5;clear u2 hS k4 u1 hok k3;rw[zj z7O.eq_1];simp only[snC]at hd hdl k5;simp[ZA,cwM,zf,snC,agC,hi,hci,hag,hw,hB,hdl,k5,hd,zg,zH,-jI]
theorem ZaB{m:zD}(h:zcp m)(s:SnV)(hs:KSn m s)(sp:Int)(pad:List Int)(Bj:pad.length<=1000)(hpi:∀x∈pad,zk0 x):∀(f i at_ v:Nat) (out:List zk) (S:Cl) (G:Mem),i+f=s.agents.length->at_<=8*i->out.length<=8*i->(∀b∈out,OKH b)->StB 4 out S G ->
  ∃(at' v':Nat) (qV:List zk) (S':Cl) (G':Mem),qV.length<=64/\(∀b∈qV,OKH b)/\StB 4 qV S' G' /\
  Y L Cs z7O (some [10,8,3,2,4,5,11,9]) 4 (ZA at_ sp pad i) (cwM m s v S G)=some (.exit 0,Zbf at' sp pad s.agents.length,cwM m s v' S' G'):=by
 have vR:=hs.few;intro f;induction f with
 |zero =>
  intro i at_ v out S G hi hat ho hok hS;obtain rfl:i=s.agents.length:=by omega
  refine⟨at_,v,out,S,G,by omega,hok,hS,?_⟩;rw[zj z7O.eq_1];simp[ZA,cwM,snC]
 |succ f ih =>
  intro i at_ v out S G hi hat ho hok hS;obtain⟨a1,v1,o1,S1,G1,g1,g2,g3,g4,g5⟩:=ZaA h s hs sp pad Bj hpi i at_ (by omega) hat v out ho hok S G hS;obtain⟨a2,v2,o2,S2,G2,k1,k2,k3,k4⟩:=ih (i+1) a1 v1 o1 S1 G1 (by omega) g1 g2 g3 g4;exact⟨a2,v2,o2,S2,G2,k1,k2,k3,g5.trans k4⟩
theorem Zdt{m:zD}(h:zcp m)(hsh:zmX m)(s:SnV)(hs:KSn m s)(pad:List Int)(Bj:pad.length<=1000)(hpi:∀x∈pad,zk0 x)(sp:Int) :
  ∃k:zci,k.jU.length<=4000/\((∀b∈k.jU,OKB b)/\(∀b∈k.jU,b.hold=0)/\k.ego.shi<=9000000)/\k.tick=s.tick/\R L Cs z8D [.a (zf m),.a (snC s),.c (.je (zu pad)),W sp] []=some (.w (.a (zG k)),[]):=by
 have k8:=hs.some;have vR:=hs.few;have ha:=hs.ags _ (jb k8);have hsa:=ha.s;have hse:=ha.vw h;have hsle:=ha.len;have e1:IntKind.i64.wrap 1=1:=rfl;obtain⟨at',v,out,S,G,g1,g2,g3,g4⟩:=ZaB h s hs sp pad Bj hpi (s.agents.length-1) 1 0 1 [] .jd [] (by omega) (by omega) (by simp) (by simp) (.nil rfl);have hJ:=zy7 out (by omega) (fun b hb=>(g2 b hb).1);have hjl:=zkq out;have hm:=zD0 sp 600 (by omega) (by omega);have hr:=zDJ sp 600 (by omega);generalize sp % 600=w at *;have t3:0<=w.tdiv 3/\w.tdiv 3<=200:=by rw[kF hr.1];omega
 have wa:=kj (w.tdiv 3);generalize hag:s.agents[0]=a at *;have w1:=kj (a.s-w.tdiv 3);have w2:=kj (a.s+w);have w3:=kj (a.s+w-w.tdiv 3);generalize hv1:IntKind.i64.wrap (w.tdiv 90)=u1 at *;generalize hv2:IntKind.i64.wrap (w.tdiv 60)=u2 at *;generalize hv3:IntKind.i64.wrap (a.v-u1)=u3 at *;generalize hv4:IntKind.i64.wrap (a.v+u2)=u4 at *;obtain⟨bs,b1,⟨b2,b3⟩,hO⟩:=Zaj h hsh a.jg ha.jg a.len ⟨by have:=ha.len;omega,by have:=ha.len;omega⟩ ⟨s.tick,zcz out,⟨max 0 (a.s-w.tdiv 3),a.s+w-w.tdiv 3,max 0 u3,min 2000 u4⟩⟩ (by simp only;omega) (Zax (fun b hb=>(g2 b hb).1));refine⟨⟨s.tick,bs,⟨max 0 (a.s-w.tdiv 3),a.s+w-w.tdiv 3,max 0 u3,min 2000 u4⟩⟩,b1,⟨b2,b3 (ZdV (fun b hb=>(g2 b hb).2)),by simp only;omega⟩,rfl,?_⟩;generalize zcz out=J at *;simp only[zf,snC,zG,ZA,Zbf,cwM,cvZ,ji,ky]at g4 hO;rw[zUa z8G rfl];have hci:(0:Int)<s.agents.length:=by omega
 cases g3 with
 |nil hn =>
  have hJ0:R L Cs zlm [.c (.je [])] []=some (.w (.c (.je (zI J))),[]):=by simpa using hJ
  simp (maxSteps:=1000000) [z7Z,zf,snC,agC,zG,k8,hci,hag,g4,hJ0,hm,wa,w1,w2,w3,hv1,hv2,hv3,hv4,hO,zg,zH,zX]
 |own q hq hG hn =>
  have hql:q<G.length:=by by_cases c:q<G.length;exact c;rw[jH (by omega)]at hq;cases hq
  have hq':G[q]?=some (some { box:=false,esz:=6,rows:=zI out,gen:=out.length,fz:=false,ver:=out.length }):=hq;have htk:(zI out).take out.length=zI out:=jC (by simp);have hqq:∀(x:Option Blk),(G.set q x)[q]?=some x:=fun x=>jY hql
  have hE1:∀(y x:Option Blk) (N:Mem),(G.set q y++x::N)[G.length]?=some x:=fun y x N=>by rw[jN (by simp)];simp
  have hEs:∀(z x y:Option Blk) (N:Mem),(G.set q z++x::N).set G.length y=G.set q z++y::N:=fun z x y N=>by rw[kd _ _ (by simp)];simp
  clear hql hq;simp (maxSteps:=1000000) [z7Z,zf,snC,agC,zG,k8,hci,hag,g4,hJ,hm,wa,w1,w2,w3,hv1,hv2,hv3,hv4,hO,hq',hqq,htk,hE1,hEs,zg,zH,zX]
abbrev z7r:Sh:=.st [zmN,zmN,zmN,zmN,zmN,.bool]
theorem z7q{r:List Cl}(h:zfo z7r r):∃x,r=z3N x:=by
 simp only[zfo,znD]at h;obtain⟨_,_,rfl,⟨a1,rfl,q1⟩,_,_,rfl,⟨a2,rfl,q2⟩,_,_,rfl,⟨a3,rfl,q3⟩,_,_,rfl,⟨a4,rfl,q4⟩,_,_,rfl,⟨a5,rfl,q5⟩,_,_,rfl,⟨a6,rfl⟩,rfl⟩:=h;exact⟨⟨a1,a2,a3,a4,a5,a6⟩,rfl⟩
theorem z6p:∀{rows:List (List Cl)},(∀r∈rows,zfo z7r r)->∃l,rows=z32 l
 |[],_=>⟨[],rfl⟩
 |r::rows,h=>by
  obtain⟨b,rfl⟩:=z7q (h r (jt ..));obtain⟨l,rfl⟩:=z6p fun x hx=>h x (ju _ hx)
  exact⟨b::l,rfl⟩
def Zcg(l:List (List Int)):List (List Cl):=l.map fun a=>[.je (zu a)]
@[simp] theorem ZeH(l:List (List Int)):(Zcg l).length=l.length:=by simp[Zcg]
@[simp] theorem Zd8{l:List (List Int)}{i:Nat}(h:i<(Zcg l).length):(Zcg l)[i]=[.je (zu (l[i]'(by simpa using h)))]:=by simp[Zcg]
abbrev ZcB(ke:List (List Int))(sg:Bool)(i:Nat):Env:=[(16,.w (W i)),(4,.w (.c (.je (Zcg ke)))),(14,.w (Pt 1)),(15,.w (Pt 2)),(13,.w (Pt 0)),(5,.w (Bo sg))]
abbrev ZcE(m:zD)(s:SnV)(k:zci)(v w:Nat):Mem:=[bxv 1 5 (zf m),bxv v 3 (snC s),bxv w 6 (zG k)]
theorem ZeJ{m:zD}{t:SnV}{cs:List CrV}(h:crF m t cs=false):(∀c∈cs,c.a≠0)/\∀(j:Nat) (h0:0<t.agents.length) (hj:j<t.agents.length),0<j->thA t.tick t.agents[j]=true->ZbU m t.agents[0] t.agents[j]=false:=by
 unfold crF at h;rw[vH,kQ,kQ]at h;constructor
 ·intro c hc h0;have:=h.1 c hc;unfold ZdW at this;simp[h0]at this
 ·intro j h0 hj hj0 hth;have hm:t.agents[j]∈t.agents.tail:=by
   obtain⟨k,rfl⟩:∃k,j=k+1:=⟨j-1,by omega⟩;have hk:k<t.agents.tail.length:=by simp;omega
   have e:t.agents.tail[k]=t.agents[k+1]:=vd ..;rw[<-e];exact jb hk
  have:=h.2 _ hm;unfold ZdU at this;have hg:t.agents.getD 0 z3O=t.agents[0]:=by simp[h0]
  rw[hg,hth]at this;simpa using this
theorem Zee{m:zD}{zs:List Zon}{ss:List Sgn}(hF:z7y m zs ss)(hmz:Zcv m zs)(sg:Bool)(ke:List (List Int))(hal:ke.length<=12)(hin:∀a∈ke,∀x∈a,zk0 x)(i:Nat)(hi:i<ke.length)(s:SnV)(k:zci)(v w:Nat)(hI:CnI m sg i s k) :
  (∃M',Y L Cs Zbo (some [16,4,14,15,13,5]) 3 (ZcB ke sg i) (ZcE m s k v w)=some (.ret,[(12,.w (Bo true))],M')) \/
  (∃s' k',CnI m sg (i+1) s' k'/\Y L Cs Zbo (some [16,4,14,15,13,5]) 3 (ZcB ke sg i) (ZcE m s k v w)=Y L Cs Zbo (some [16,4,14,15,13,5]) 3 (ZcB ke sg (i+1)) (ZcE m s' k' (v+1) (w+1))):=by
 have haw:=zBZ;have h:=hF.full.qt;have hs:=hI.ks;have k8:=hs.some;have htk:=hI.tick;obtain⟨q1,q2,q3,q4,q5⟩:=Zck.1 hI.cov;generalize Ba:ke[i]=al;have hai:∀x∈al,zk0 x:=Ba ▸ hin _ (jb hi);obtain⟨bs,ins,cs,hbl,hM,hO,hcl,hcr,hS⟩:=Zd0 hF hs q1 hI.few (by omega) al hai;have hzl:m.kh.length<=2:=by rw[hF.full.zd.z];have:=hF.zn2;simp;exact this
 obtain⟨t1,t2,t3⟩:=Zeh hF.full hzl hs q1 hI.few (by omega) hbl hM hO;have hC:=Zd1 h ⟨s.tick+1,bs,ins⟩ t1 cs (by omega);have ha0:=hs.ags _ (jb k8);have h1:=ha0.s;have h2:=ha0.len;have h3:=ha0.vw h;have w1:=kj (s.agents[0].s-s.agents[0].len);have hwi:=zB (i:=i) (by omega);have hci:(i:Int)<ke.length:=by omega
 have hc0:(0:Int)<s.agents.length:=by omega
 cases hcc:crF m ⟨s.tick+1,bs,ins⟩ cs with
 |true =>
  left;rw[hcc]at hC;simp only[zf,snC]at hS hC;clear hM hO hcr hI hmz hF t1 t2 t3 q4 q5;apply Exists.intro;rw[zj Zbo.eq_1];cases al with
  |nil =>
   simp only[zay]at hS;simp (maxSteps:=1000000) [ZcB,ZcE,zf,snC,agC,zG,zch,hi,hci,k8,hc0,Ba,hS,hC,haw,w1,hwi,zg,zH,zX]
   all_goals rfl
  |cons x r =>
   have lr:(0:Int)<(r.length:Int)+1:=by omega
   simp only[zaP]at hS;simp (maxSteps:=1000000) [ZcB,ZcE,zf,snC,agC,zG,zch,hi,hci,k8,hc0,Ba,hS,hC,haw,w1,hwi,lr,zg,zH,zX]
   all_goals rfl
 |false =>
  rw[hcc]at hC;obtain⟨n1,n2⟩:=ZeJ hcc;by_cases hlen:s.agents[0].s-s.agents[0].len<1
  ·left;simp only[zf,snC]at hS hC;clear hM hO hcr hI hmz hF t1 t2 t3 q4 q5 n1 n2 hcc;generalize Bt:s.agents[0]=a0 at *;apply Exists.intro;rw[zj Zbo.eq_1];cases al with
   |nil =>
    simp only[zay]at hS;simp (maxSteps:=1000000) [ZcB,ZcE,zf,snC,agC,zG,zch,hi,hci,k8,hc0,Ba,Bt,hS,hC,haw,w1,hwi,hlen,zg,zH,zX]
    all_goals rfl
   |cons x r =>
    have lr:(0:Int)<(r.length:Int)+1:=by omega
    simp only[zaP]at hS;simp (maxSteps:=1000000) [ZcB,ZcE,zf,snC,agC,zG,zch,hi,hci,k8,hc0,Ba,Bt,hS,hC,haw,w1,hwi,lr,hlen,zg,zH,zX]
    all_goals rfl
  ·cases AG:s.agents[0].gone with
   |true =>
    left;simp only[zf,snC]at hS hC;clear hM hO hcr hI hmz hF t1 t2 t3 q4 q5 n1 n2 hcc;generalize Bt:s.agents[0]=a0 at *;apply Exists.intro;rw[zj Zbo.eq_1];cases al with
    |nil =>
     simp only[zay]at hS;simp (maxSteps:=1000000) [ZcB,ZcE,zf,snC,agC,zG,zch,hi,hci,k8,hc0,Ba,Bt,hS,hC,haw,w1,hwi,hlen,AG,zg,zH,zX]
     all_goals rfl
    |cons x r =>
     have lr:(0:Int)<(r.length:Int)+1:=by omega
     simp only[zaP]at hS;simp (maxSteps:=1000000) [ZcB,ZcE,zf,snC,agC,zG,zch,hi,hci,k8,hc0,Ba,Bt,hS,hC,haw,w1,hwi,lr,hlen,AG,zg,zH,zX]
     all_goals rfl
   |false =>
    right;obtain⟨e1,e2⟩:=ZeV hF hmz (by omega) hI k8 hbl hM hO (fun j hj0 hj hp=>by
     obtain⟨c,hc,hc0⟩:=hcr 0 j hj0 hj hp;exact n1 c hc (by simpa using hc0)) n2 (by omega) AG
    have hT:=zvN hF.full s.agents[0].jg (by have:=((ha0.on h).2.2);omega) s.agents[0].len k (by have:=zvx h hF.full.yT q2;omega) (al.getD 0 0) (by
     cases al with
     |nil=>show zk0 0;unfold zk0;omega
     |cons x r=>exact hai x (by simp)) sg
    unfold zsH at hT;rw[if_pos e1]at hT;have hco:=e2.cov;obtain⟨p1,p2,_⟩:=Zck.1 hco;have hR:=z54 h ⟨s.tick+1,bs,ins⟩ t1 _ (by have:=zvx h hF.full.yT p2;omega) (fun b hb=>(zxJ h p2 b hb).okb h);rw[hco]at hR;refine⟨_,_,e2,?_⟩;clear e1 e2 hM hO hcr hI hmz hF t1 t2 t3 q4 q5 n1 n2 hcc hco p1 p2;generalize Bt:s.agents[0]=a0 at *;generalize zhp (zlg (zfV m zs ss a0.jg a0.len k (zaN m a0.jg k.ego (al.getD 0 0)) sg))=sw at *;generalize zpg m zs ss a0.jg a0.len k (zaN m a0.jg k.ego (al.getD 0 0)) sg=K at *;simp only[zf,snC,zG,zch]at hS hC hT hR;rw[zj Zbo.eq_1];cases al with
    |nil =>
     simp only[zay,List.getD_nil]at hS hT;simp (maxSteps:=1000000) [ZcB,ZcE,zf,snC,agC,zG,zch,hi,hci,k8,hc0,Ba,Bt,hS,hC,haw,w1,hwi,hlen,AG,hT,hR,zg,zH,zX]
    |cons x r =>
     have lr:(0:Int)<(r.length:Int)+1:=by omega
     simp only[zaP,qW]at hS hT;simp (maxSteps:=1000000) [ZcB,ZcE,zf,snC,agC,zG,zch,hi,hci,k8,hc0,Ba,Bt,hS,hC,haw,w1,hwi,lr,hlen,AG,hT,hR,zg,zH,zX]
theorem Zef{m:zD}{zs:List Zon}{ss:List Sgn}(hF:z7y m zs ss)(hmz:Zcv m zs)(sg:Bool)(ke:List (List Int))(hal:ke.length<=12)(hin:∀a∈ke,∀x∈a,zk0 x):∀(f i:Nat) (s:SnV) (k:zci) (v w:Nat),i+f=ke.length->CnI m sg i s k ->
  (∃M',Y L Cs Zbo (some [16,4,14,15,13,5]) 3 (ZcB ke sg i) (ZcE m s k v w)=some (.ret,[(12,.w (Bo true))],M')) \/
  (∃M',Y L Cs Zbo (some [16,4,14,15,13,5]) 3 (ZcB ke sg i) (ZcE m s k v w)=some (.exit 0,(60,.w (Bo false))::ZcB ke sg ke.length,M')):=by
 intro f;induction f with
 |zero =>
  intro i s k v w hi hI;obtain rfl:i=ke.length:=by omega
  right;refine⟨ZcE m s k v w,?_⟩;rw[zj Zbo.eq_1];simp[ZcB]
 |succ f ih =>
  intro i s k v w hi hI;rcases Zee hF hmz sg ke hal hin i (by omega) s k v w hI with h |⟨s',k',h1,h2⟩
  ·exact .inl h
  ·rw[h2];exact ih (i+1) s' k' (v+1) (w+1) (by omega) h1
theorem Zeg{m:zD}{zs:List Zon}{ss:List Sgn}{sg:Bool}{s:SnV}{k:zci}(hs:KSn m s)(ht:s.tick=0)(hl:s.agents.length<=7)(hp:ZeX m sg s.agents)(hc:z4P m s k=true)(hh:∀b∈k.jU,b.hold=0)(hshi:k.ego.shi<=9000000):CnI m sg 0 s k:=by
 refine⟨hs,hl,hc,by rw[ht];rfl,hp.free,hp.all,fun j h0 hj hj0 hth=>?_,fun _ j hj hj0 hth b hb _ _ _=>.inl (hh b hb),by simpa using hshi⟩;have:=(ZcK hth).2;exact hp.apart 0 j h0 hj hj0 (by rw[hp.own h0];omega) (by omega)
theorem ZcZ{m:zD}{zs:List Zon}{ss:List Sgn}(hF:z7y m zs ss)(hmz:Zcv m zs)(n:Int)(l:List z45)(c1:l.length<=7)(pad:List Int)(c2:pad.length<=8)(hpi:∀x∈pad,zk0 x)(sp:Int)(ke:List (List Int))(c3:ke.length<=12)(hin:∀a∈ke,∀x∈a,zk0 x)(sg:Bool)(hM:R L Cs zY [W n] []=some (.w (.a (zf m)),[])) :
  R L Cs ZbA [W n,.c (.je (z32 l)),.c (.je (zu pad)),W sp,.c (.je (Zcg ke)),Bo sg] []=some (.w (Bo true),[]):=by
 have haw:=zBZ;have h:=hF.full.qt;have hsh:=hF.full.yT;have d1:¬(7:Int)<l.length:=by omega
 have d1':¬7<l.length:=by omega
 have d2:¬(8:Int)<pad.length:=by omega
 have d2':¬8<pad.length:=by omega
 have d3:¬(12:Int)<ke.length:=by omega
 have d3':¬12<ke.length:=by omega
 have hOb:=Zdz l (by omega);obtain⟨l2,hl2,Ca,hsg⟩:∃l2:List z45,l2=(if sg=true then l.map obF else l)/\l2.length<=7/\(sg=true->∀x∈l2,x.dis=false):=by
  refine⟨_,rfl,?_,fun h x hx=>?_⟩
  ·split
   ·simpa using c1
   ·exact c1
  ·rw[if_pos h]at hx;obtain⟨y,_,rfl⟩:=kq.1 hx;rfl
 obtain⟨s,hs,⟨ht,hl7,hP⟩,hS⟩:=Zep hF sg l2 hsg Ca;obtain⟨k,b1,⟨b2,b3,b4⟩,b5,hC⟩:=Zdt h hsh s hs pad (by omega) hpi sp;have AR:=z54 h s hs k (by omega) b2;cases hc:z4P m s k with
 |false =>
  rw[hc]at AR;simp only[zf,snC,zG,zch]at hM hS hC AR;rw[zUa Zbv rfl];cases sg with
  |true =>
   simp only[↓reduceIte]at hl2;subst hl2;simp (maxSteps:=1000000) [Zbp,zf,snC,zG,zch,d1,d1',d2,d2',d3,d3',haw,hM,hOb,hS,hC,AR,zg,zH,zX]
  |false =>
   simp only[jB,↓reduceIte]at hl2;subst hl2;simp (maxSteps:=1000000) [Zbp,zf,snC,zG,zch,d1,d1',d2,d2',d3,d3',haw,hM,hS,hC,AR,zg,zH,zX]
 |true =>
  rw[hc]at AR;have hI:CnI m sg 0 s k:=Zeg (zs:=zs) (ss:=ss) hs ht hl7 hP hc b3 b4;have hL:=Zef hF hmz sg ke c3 hin ke.length 0 s k 1 1 (by omega) hI;simp only[zf,snC,zG,zch]at hM hS hC AR;simp only[ZcB,ZcE,zf,snC,zG,zch,ji]at hL;rw[zUa Zbv rfl];rcases hL with⟨M',hL⟩ |⟨M',hL⟩
  ·cases sg with
   |true =>
    simp only[↓reduceIte]at hl2;subst hl2;simp (maxSteps:=1000000) [Zbp,zf,snC,zG,zch,d1,d1',d2,d2',d3,d3',haw,hM,hOb,hS,hC,AR,hL,zg,zH,zX]
   |false =>
    simp only[jB,↓reduceIte]at hl2;subst hl2;simp (maxSteps:=1000000) [Zbp,zf,snC,zG,zch,d1,d1',d2,d2',d3,d3',haw,hM,hS,hC,AR,hL,zg,zH,zX]
  ·cases sg with
   |true =>
    simp only[↓reduceIte]at hl2;subst hl2;simp (maxSteps:=1000000) [Zbp,zf,snC,zG,zch,d1,d1',d2,d2',d3,d3',haw,hM,hOb,hS,hC,AR,hL,zg,zH,zX]
   |false =>
    simp only[jB,↓reduceIte]at hl2;subst hl2;simp (maxSteps:=1000000) [Zbp,zf,snC,zG,zch,d1,d1',d2,d2',d3,d3',haw,hM,hS,hC,AR,hL,zg,zH,zX]
theorem ZcQ(n:Int)(l:List z45)(pad:List Int)(hpi:∀x∈pad,zk0 x)(sp:Int)(ke:List (List Int))(hin:∀a∈ke,∀x∈a,zk0 x)(sg:Bool):R L Cs ZbA [W n,.c (.je (z32 l)),.c (.je (zu pad)),W sp,.c (.je (Zcg ke)),Bo sg] []=some (.w (Bo true),[]):=by
 have ha:=zBZ;by_cases c1:(7:Int)<l.length
 ·have c1':7<l.length:=by omega
  rw[zUa Zbv rfl];simp[Zbp,c1,c1',ha,zg]
 have c1':¬7<l.length:=by omega
 by_cases c2:(8:Int)<pad.length
 ·have c2':8<pad.length:=by omega
  rw[zUa Zbv rfl];simp[Zbp,c1,c1',c2,c2',ha,zg]
 have c2':¬8<pad.length:=by omega
 by_cases c3:(12:Int)<ke.length
 ·have c3':12<ke.length:=by omega
  rw[zUa Zbv rfl];simp[Zbp,c1,c1',c2,c2',c3,c3',ha,zg]
 obtain⟨m,zs,ss,hF,hD,hM⟩:=Zd3 n;exact ZcZ hF hD n l (by omega) pad (by omega) hpi sp ke (by omega) hin sg hM
theorem Zec:∀{rows:List (List Cl)},(∀r∈rows,zfo (.slice zmN) r)->∃l,rows=Zcg l/\∀a∈l,∀x∈a,zk0 x
 |[],_=>⟨[],rfl,by simp⟩
 |r::rows,h=>by
  obtain⟨l,rfl,hl⟩:=Zec (rows:=rows) (fun x hx=>h x (ju _ hx));have h1:=h r jt;simp only[zfo]at h1;obtain⟨rs,rfl,_,hrs⟩:=h1;obtain⟨a,rfl,ha⟩:=zxB (rows:=rs) (fun r hr=>by simp only[zfo];exact hrs r hr);exact⟨a::l,rfl,fun b hb=>by
   rcases jD.1 hb with rfl|hb
   ·exact ha
   ·exact hl b hb⟩
theorem Zc0:∀xs,zot [zmN,.slice z7r,.slice zmN,zmN,.slice (.slice zmN),.bool] xs->∃M',R L Cs ZbA xs []=some (.w (.c (.bool true)),M'):=by
 intro xs h;simp only[zot]at h;obtain⟨c1,_,rfl,h1,c2,_,rfl,h2,c3,_,rfl,h3,c4,_,rfl,h4,c5,_,rfl,h5,c6,_,rfl,h6,rfl⟩:=h;simp only[zfo]at h1 h2 h3 h4 h5 h6;obtain⟨n,rfl,_⟩:=h1;obtain⟨rows,rfl,_,Ae⟩:=h2;obtain⟨l,rfl⟩:=z6p (rows:=rows) (fun r hr=>by
  have:=Ae r hr;simp only[zfo,znD];exact this)
 obtain⟨rows3,rfl,_,BC⟩:=h3;obtain⟨pad,rfl,hpi⟩:=zxB (rows:=rows3) (fun r hr=>by simp only[zfo];exact BC r hr);obtain⟨sp,rfl,_⟩:=h4;obtain⟨rows5,rfl,_,hrows5⟩:=h5;obtain⟨ke,rfl,hin⟩:=Zec (rows:=rows5) (fun r hr=>by simp only[zfo];exact hrows5 r hr);obtain⟨sg,rfl⟩:=h6;exact⟨[],ZcQ n l pad hpi sp ke hin sg⟩
theorem zq2(a:Int):R L [] zlc [W a] []=some (.w (Bo false),[]):=by
 rw[zUa zle rfl];simp[zfU]
theorem zn3(a:Int):R L [] zi5 [W a] []=some (.w (Bo false),[]):=by
 rw[zUa zi9 rfl];simp[ze6]
theorem zuB(a b:Int):R L [] zi6 [W a,W b] []=some (.w (W (zgQ a b)),[]):=by
 have h1:=zq2 a;have h2:=zq2 b;rw[zUa zja rfl];unfold zgQ;by_cases h:a<b
 ·simp[zb3,h1,h2,h]
 ·by_cases h':b<a
  ·simp[zb3,h1,h2,h,h']
  ·simp[zb3,h1,h2,h,h']
theorem zmv(a b:Int):R L [] zhQ [W a,W b] []=some (.w (W (zgQ a b)),[]):=by
 have h1:=zn3 a;have h2:=zn3 b;rw[zUa zhS rfl];unfold zgQ;by_cases h:a<b
 ·simp[zbq,h1,h2,h]
 ·by_cases h':b<a
  ·simp[zbq,h1,h2,h,h']
  ·simp[zbq,h1,h2,h,h']
theorem zxz(b:Bool):R L [] zhB [Bo b] []=some (.w (W (if b then 1 else 0)),[]):=by
 rw[zUa zp4 rfl];cases b<;>simp[zhF]
def orI(a b c d:Int):Int:=if a=0 then(if b=0 then(if c=0 then d else c) else b) else a
abbrev orE(a b c d:Int)(i:Int):Env:=[(7,.w (W 4)),(6,.w (.c (.je [[I a],[I b],[I c],[I d]]))),(3,.w (W 0)),(8,.w (W i))]
theorem or0(a b c d:Int):R L [] zob [.c (.je [[I a],[I b],[I c],[I d]])] []=some (.w (W (orI a b c d)),[]):=by
 have w1:IntKind.i64.wrap 1=1:=rfl;have w2:IntKind.i64.wrap 2=2:=rfl;have w3:IntKind.i64.wrap 3=3:=rfl;have w4:IntKind.i64.wrap 4=4:=rfl;have h4:Y L [] zab (some [7,6,3,8]) 0 (orE a b c d 4) []=some (.exit 0,[(9,.w (Bo false)),(3,.w (W 0)),(6,.w (.c (.je [[I a],[I b],[I c],[I d]]))),(7,.w (W 4)),(8,.w (W 4))],[]):=by
  rw[zj zab.eq_1];simp
 have h3:Y L [] zab (some [7,6,3,8]) 0 (orE a b c d 3) []=if d=0 then Y L [] zab (some [7,6,3,8]) 0 (orE a b c d 4) [] else some (.ret,[(2,.w (W d))],[]):=by
  rw[zj zab.eq_1];by_cases h:d=0
  ·simp[h,w4]
  ·have h':(d !=0)=true:=by simp[h]
   simp[h,h']
 have h2:Y L [] zab (some [7,6,3,8]) 0 (orE a b c d 2) []=if c=0 then Y L [] zab (some [7,6,3,8]) 0 (orE a b c d 3) [] else some (.ret,[(2,.w (W c))],[]):=by
  rw[zj zab.eq_1];by_cases h:c=0
  ·simp[h,w3]
  ·have h':(c !=0)=true:=by simp[h]
   simp[h,h']
 have h1:Y L [] zab (some [7,6,3,8]) 0 (orE a b c d 1) []=if b=0 then Y L [] zab (some [7,6,3,8]) 0 (orE a b c d 2) [] else some (.ret,[(2,.w (W b))],[]):=by
  rw[zj zab.eq_1];by_cases h:b=0
  ·simp[h,w2]
  ·have h':(b !=0)=true:=by simp[h]
   simp[h,h']
 have h0:Y L [] zab (some [7,6,3,8]) 0 (orE a b c d 0) []=if a=0 then Y L [] zab (some [7,6,3,8]) 0 (orE a b c d 1) [] else some (.ret,[(2,.w (W a))],[]):=by
  rw[zj zab.eq_1];by_cases h:a=0
  ·simp[h,w1]
  ·have h':(a !=0)=true:=by simp[h]
   simp[h,h']
 rw[h4]at h3;rw[h3]at h2;rw[h2]at h1;rw[h1]at h0;rw[zUa zow rfl];unfold orI;by_cases c1:a=0<;>by_cases c2:b=0<;>by_cases c3:c=0<;>by_cases c4:d=0<;>simp only[c1,c2,c3,c4,if_true,if_false]at h0 ⊢<;>simp[zfw,h0]
def zoG(b:Bool):Int:=if b then 1 else 0
def zu6(a b:Swp):Int:=orI (zgQ a.lane b.lane) (zgQ a.lo b.lo) (zgQ a.hi b.hi) (zoG a.cap-zoG b.cap)
theorem less0(a b:Swp):R L [] zar [.a (swC a),.a (swC b)] []=some (.w (W (zu6 a b)),[]):=by
 have h1:=zuB a.lane b.lane;have h2:=zmv a.lo b.lo;have h3:=zmv a.hi b.hi;have h4:R L [] zhB [Bo a.cap] []=some (.w (W (zoG a.cap)),[]):=zxz a.cap;have h5:R L [] zhB [Bo b.cap] []=some (.w (W (zoG b.cap)),[]):=zxz b.cap;have h6:=or0 (zgQ a.lane b.lane) (zgQ a.lo b.lo) (zgQ a.hi b.hi) (zoG a.cap-zoG b.cap);have w:IntKind.i64.wrap (zoG a.cap-zoG b.cap)=zoG a.cap-zoG b.cap:=by
  cases a.cap<;>cases b.cap<;>rfl
 unfold zu6;generalize zgQ a.lane b.lane=x1 at *;generalize zgQ a.lo b.lo=x2 at *;generalize zgQ a.hi b.hi=x3 at *;generalize zoG a.cap=o1 at *;generalize zoG b.cap=o2 at *;rw[zUa zsv rfl];simp[zjq,swC,h1,h2,h3,h4,h5,h6,w,zg,zX]
theorem zz5(a b:Swp):(zu6 a b<0)<->ltS a b=true:=by
 rw[zz2];unfold zu6 orI zgQ zoG;by_cases h1:a.lane<b.lane
 ·simp[h1]
 ·by_cases h2:b.lane<a.lane
  ·have:¬a.lane=b.lane:=by omega
   simp[h1,h2,this]
  ·have e1:a.lane=b.lane:=by omega
   by_cases h3:a.lo<b.lo
   ·simp[e1,h3]
   ·by_cases h4:b.lo<a.lo
    ·have:¬a.lo=b.lo:=by omega
     simp[e1,h3,h4,this]
    ·have e2:a.lo=b.lo:=by omega
     by_cases h5:a.hi<b.hi
     ·simp[e1,e2,h5]
     ·by_cases h6:b.hi<a.hi
      ·have:¬a.hi=b.hi:=by omega
       simp[e1,e2,h5,h6,this]
      ·have e3:a.hi=b.hi:=by omega
       cases a.cap<;>cases b.cap<;>simp[e1,e2,e3]
end Go.TrRun
namespace Go.Eng
open Go
theorem zsf [zb0]{P:Program}{cf:za4}(hcf:FnS P cf){f:FuncId}(hf:f<zb0.base){args:List WV}{vs:Array Value}{w:World}{σ:zP}{j:Inj}{M':Mem}{c:Int}(h:cf f args []=some (.w (.c (.int .i64 c)),M'))
  (hag:zM σ w) (hvs:zac σ j args vs.toList) (hm:MR (fun b=>w.heap.size<=b) σ j [] w) :
  Calls P f vs w fun e w'=>e=.returned (.int .i64 c)/\∃q os',w'=Go.Sort.grow (w.drewN q) os':=by
 obtain⟨_,_,_,_,hc⟩:=(hcf f args [] _ _ h (fun id hid=>by simp at hid)).1 hf;refine Calls.yx (hc (fun b=>w.heap.size<=b) σ j w vs (fun _ h=>h) hag hm hvs) ?_;rintro e w' ⟨v,σ',j',rfl,hr,_,_,hst⟩;have hr:VC σ' j' (.int .i64 c) v:=hr;cases hr;refine⟨rfl,w'.drawn-w.drawn,w'.heap.extract w.heap.size w'.heap.size,?_⟩;have h1:=hst.side.os;have h2:=hst.side.output;have h3:=hst.side.tape;have h4:=hst.side.drawn;have h5:=hst.frame;have h6:=hst.size;cases w' with |mk heap tape drawn os output =>
 simp only at h1 h2 h3 h4 h5 h6;subst h1;subst h2;subst h3;unfold Go.Sort.grow World.drewN;simp only[World.mk.injEq,and_true,true_and];refine⟨?_,by omega⟩;apply Array.ext_getElem?;intro i;by_cases hi:i<w.heap.size
 ·rw[kp hi];exact h5 i hi (by omega)
 ·rw[vU (by omega),ue];by_cases hi2:i<heap.size
  ·rw[if_pos (by omega)]
   congr 1;omega
  ·rw[if_neg (by omega)];exact qF (by omega)
end Go.Eng
namespace Go.TrRun
open Go Go.Eng
theorem zxp(σ:zP)(j:Inj)(x:List Int):WVR σ j (.a (swC (zik x))) (.agg (ziq 4 7 x).toArray):=by
 refine⟨_,rfl,?_⟩;have e:(ziq 4 7 x).toArray.toList=[.int .i64 (x.getD 0 0),.int .i64 (x.getD 1 0),.int .i64 (x.getD 2 0),.bool (x.getD 3 0 !=0)]:=rfl;rw[e];refine⟨rfl,fun n c v hc hv=>?_⟩
 match n with
 |0=>cases hc;cases hv;exact .int _ _ _
 |1=>cases hc;cases hv;exact .int _ _ _
 |2=>cases hc;cases hv;exact .int _ _ _
 |3=>cases hc;cases hv;exact .bool _ _
 |n+4=>cases hc
def zAw(x y:List Int):Int:=zu6 (zik x) (zik y)
theorem zBC:(fun x y=>decide (zAw x y<0))=ltZ 4 7:=by
 funext x y;have h:=zz5 (zik x) (zik y);have e:ltS (zik x) (zik y)=ltZ 4 7 x y:=by
  have k1:∀z:List Int,zji (zik z)=zsY 4 7 z:=fun z=>by
   simp[zji,zik,zsY,List.range,List.range.loop,zgk]
  simp only[ltS,ltZ,k1,if_true]
 rw[e]at h;unfold zAw;cases hz:ltZ 4 7 x y with
 |true=>exact decide_eq_true (h.2 hz)
 |false =>
  refine decide_eq_false fun h'=>?_
  rw[h.1 h']at hz;cases hz
theorem zwK{P:Program}(uz:P.follows .mixedOrders=true)(hL:(L.map fun p=>zcF P an true p.1)=L.map fun p=>some p.2)(hV:zql P L=true)(hf:zar<P.funcs.size)(x y:List Int)(W:World) :
  Calls P zar #[.agg (ziq 4 7 x).toArray,.agg (ziq 4 7 y).toArray] W fun e w'=>e=.returned (.int .i64 (zAw x y))/\∃q os',w'=Go.Sort.grow (W.drewN q) os':=by
 letI:=zww P fun f=>L.lookup f
 obtain⟨n,hn⟩:=zah.1 (less0 (zik x) (zik y));exact zsf (zsT uz hL hV (Cs:=[]) rfl (fun c hc=>by cases hc) n) (f:=zar) hf hn (zml (W:=W) fun g row hr=>by cases hr) (.cons (zxp _ _ x) (.cons (zxp _ _ y) .nil)) MR.nil
end Go.TrRun
