/- This text proves what functions of this seat's program answer, run by the evaluator; no condition. -/
import Derived.Test.YtammkplkmigccaaGreatUTx1
set_option maxHeartbeats 8000000
set_option linter.unusedVariables false
set_option linter.unusedSimpArgs false
set_option linter.unusedSectionVars false
set_option maxRecDepth 10000
namespace Go.TrRun
open Go Go.Eng
def Apt(p b:zk):Prop:=p.lane<b.lane\/(p.lane=b.lane/\p.hi+1<b.lo)
theorem zFx{m:zD}{b:zk}(h:VB m b):¬um m b:=by
 have h1:=h.lo;have h2:=h.le;have h3:=h.hi;have h4:=h.vlo;have h5:=h.vle;have h6:=h.vhi;have h7:=h.hold;unfold um;omega
theorem zFo{m:zD}(hg:zcp m){b:zk}(h:VB m b):OKB b:=by
 have h0:=zcX hg h.lane;have h1:=h.lo;have h2:=h.le;have h3:=h.hi;exact⟨by omega,by omega,by omega,by omega⟩
theorem zED{m:zD}:∀(l:List zk) (p:zk),(∀b∈l,VB m b)->l.Pairwise Apt->(∀b∈l,¬zmM p b)->zls m p l=0
 |[],_,_,_,_=>rfl
 |x::l,p,hv,ha,hp=>by
  rw[jL]at ha;have hx:=hv x (jo ..);have hl:=hx.lane;have h0:zer m p x=0:=by
   unfold zer;rw[if_neg (by omega),if_neg (zFx hx),if_neg (hp x (jo ..))]
  unfold zls;rw[if_neg (by simp[h0])];refine zED l x (fun b hb=>hv b (jl _ hb)) ha.2 fun b hb=>?_
  have:=ha.1 b hb;unfold Apt at this;unfold zmM;omega
theorem zFt{m:zD}{a b:zk}(ha:VB m a)(hb:VB m b)(hl:a.lane=b.lane):VB m (glue a b):=by
 have a1:=ha.lo;have a2:=ha.le;have a3:=ha.hi;have a4:=ha.vlo;have a5:=ha.vle;have a6:=ha.vhi;have a7:=ha.hold;rw[hl]at a3 a6 a7;have b3:=hb.hi;have b4:=hb.vlo;have b5:=hb.vle;have b6:=hb.vhi;have b7:=hb.hold;refine⟨hb.lane,a1,?_,?_,?_,?_,?_,?_⟩
 ·show a.lo<=max a.hi b.hi;omega
 ·show max a.hi b.hi<=z8 m b.lane;omega
 ·show 0<=min a.vlo b.vlo;omega
 ·show min a.vlo b.vlo<=max a.vhi b.vhi;omega
 ·show max a.vhi b.vhi<=zeR (zaK m b.lane);omega
 ·show 0<=(if a.hold=0\/b.hold=0 then 0 else max a.hold b.hold)/\(if a.hold=0\/b.hold=0 then 0 else max a.hold b.hold)<=z8 m b.lane;split<;>omega
theorem zEw(init:List zk)(a b:zk):zcP (init++[a]) b=if far a b=false then init++[glue a b] else init++[a]++[b]:=by
 have e:(init++[a]).getD ((init++[a]).length-1) z9=a:=by simp[jx]
 unfold zcP;rw[e];by_cases c:far a b=false
 ·rw[if_pos ⟨by simp,c⟩,if_pos c];simp
 ·rw[if_neg (fun h=>c h.2),if_neg c]
theorem zEu{m:zD}:∀(l init:List zk) (a:zk),(a::l).Pairwise leB->(∀b∈l,VB m b)->(∀o∈init++[a],VB m o)->(init++[a]).Pairwise Apt ->
  (∀o∈l.foldl zcP (init++[a]),VB m o)/\(l.foldl zcP (init++[a])).Pairwise Apt
 |[],init,a,_,_,h1,h2=>⟨h1,h2⟩
 |b::l,init,a,hs,hv,h1,h2=>by
  rw[jL]at hs;have hbl:=hs.2;rw[jL]at hbl;have hab:=hs.1 b (jo ..);have hb:=hv b (jo ..);have ha:=h1 a (by simp);rw[jI,zEw];have hfar:far a b=false<->(a.lane=b.lane/\b.lo<=a.hi+1):=by
   unfold far;by_cases c:a.lane=b.lane
   ·simp[c];omega
   ·simp[c]
  by_cases c:far a b=false
  ·rw[if_pos c];have hc:=hfar.1 c;refine zEu l init (glue a b) ?_ (fun x hx=>hv x (jl _ hx)) ?_ ?_
   ·rw[jL];refine⟨fun x hx=>?_,hbl.2⟩;have hbx:=hbl.1 x hx;unfold leB at hab hbx ⊢;simp only[glue];omega
   ·intro o ho;rcases jw.1 ho with ho|ho
    ·exact h1 o (jP _ ho)
    ·rw[jm.1 ho];exact zFt ha hb hc.1
   ·rw[kD]at h2 ⊢;refine⟨h2.1,kZ _ _,fun x hx y hy=>?_⟩;rw[jm.1 hy];have:=h2.2.2 x hx a (by simp);unfold Apt at this ⊢;simp only[glue];omega
  ·rw[if_neg c];have hc:¬(a.lane=b.lane/\b.lo<=a.hi+1):=fun h=>c (hfar.2 h)
   refine zEu l (init++[a]) b hs.2 (fun x hx=>hv x (jl _ hx)) ?_ ?_
   ·intro o ho;rcases jw.1 ho with ho|ho
    ·exact h1 o ho
    ·rw[jm.1 ho];exact hb
   ·rw[kD];refine⟨h2,kZ _ _,fun x hx y hy=>?_⟩;rw[jm.1 hy];have hA:Apt a b:=by
     unfold Apt;unfold leB at hab;omega
    rcases jw.1 hx with hx|hx
    ·have:=(kD.1 h2).2.2 x hx a (by simp);have a2:=ha.le;unfold Apt at this hA ⊢;omega
    ·rw[jm.1 hx];exact hA
theorem zEl{m:zD}(l:List zk)(h:∀b∈l,VB m b):(∀o∈zcz l,VB m o)/\(zcz l).Pairwise Apt:=by
 have hm:∀x∈l.foldl zb5 [],x∈l:=fun x hx=>(zuL l [] x hx).resolve_right (by simp)
 have hs:(l.foldl zb5 []).Pairwise leB:=by
  rw[zpi];exact ziR _ [] List.Pairwise.nil
 unfold zcz;generalize l.foldl zb5 []=S at *;cases S with
 |nil=>exact⟨by simp,List.Pairwise.nil⟩
 |cons a t =>
  have e:zcP [] a=[]++[a]:=by simp[zcP]
  rw[jI,e];refine zEu t [] a hs (fun b hb=>h b (hm b (jl _ hb))) ?_ ?_
  ·intro o ho;simp at ho;subst ho;exact h _ (hm _ (jo ..))
  ·simp
theorem zE1{x fr to:Int}{b:zk}:∀z∈zoX x fr to b,z.lane=b.lane/\b.lo<=z.lo/\z.hi<=b.hi:=by
 intro z hz;unfold zoX at hz;split at hz
 ·simp only[jm]at hz;subst hz;exact⟨rfl,jE _,jE _⟩
 ·rename_i hc;rcases jw.1 hz with hz|hz
  ·split at hz
   ·simp only[jm]at hz;subst hz;exact⟨rfl,jE _,by show fr-1<=b.hi;omega⟩
   ·cases hz
  ·split at hz
   ·simp only[jm]at hz;subst hz;exact⟨rfl,by show b.lo<=to+1;omega,jE _⟩
   ·cases hz
theorem zFm(x fr to:Int)(b:zk):(zoX x fr to b).Pairwise Apt:=by
 unfold zoX;split
 ·exact kZ _ _
 ·rename_i hc;split
  ·split
   ·simp only[List.singleton_append,jL,jm,forall_eq,kU,false_imp_iff,implies_true,List.Pairwise.nil,and_true];exact .inr ⟨rfl,by show fr-1+1<to+1;omega⟩
   ·simp
  ·split<;>simp
theorem zE0{x fr to:Int}:∀(l:List zk),∀z∈zhn x fr to l,∃b∈l,z.lane=b.lane/\b.lo<=z.lo/\z.hi<=b.hi
 |[],z,hz=>by cases hz
 |b::l,z,hz=>by
  unfold zhn at hz;rcases jw.1 hz with hz|hz
  ·exact⟨b,jo ..,zE1 z hz⟩
  ·obtain⟨c,hc,h⟩:=zE0 l z hz;exact⟨c,jl _ hc,h⟩
theorem zEN(x fr to:Int):∀(l:List zk),l.Pairwise Apt->(zhn x fr to l).Pairwise Apt
 |[],_=>List.Pairwise.nil
 |b::l,h=>by
  rw[jL]at h;unfold zhn;rw[kD];refine⟨zFm x fr to b,zEN x fr to l h.2,fun y hy z hz=>?_⟩;obtain⟨h1,h2,h3⟩:=zE1 y hy;obtain⟨c,hc,g1,g2,g3⟩:=zE0 l z hz;have:=h.1 c hc;unfold Apt at this ⊢;omega
theorem zEE{m:zD}(h:zcp m)(hne:0<m.je.length)(x:Bit):VB m (zDN m x):=by
 have f:=zEA h hne x;have h1:=f.lo;have h2:=f.le;have h3:=f.hi;have h4:=f.hold;exact⟨f.lane,f.lo,f.le,f.hi,f.vlo,f.vle,f.vhi,by omega⟩
theorem zFv{m:zD}{k:zci}(ho:¬ziI k)(hv:∀b∈k.jy,VB m b)(ha:k.jy.Pairwise Apt):zdf m k=0:=by
 unfold zdf;rw[if_neg ho];refine zED _ _ hv ha fun b hb=>?_
 have:=(hv b hb).lane;simp only[zmM,zqY];omega
theorem zFu{m:zD}(h:zcp m)(q:List Int)(hq:q.length<=8)(hon:zj2 m q):0<=zmd m 0 q/\zmd m 0 q<=8000000:=by
 have:=zEC h q 0 hon (jE _);omega
theorem zEM{m:zD}(h:zcp m)(hne:0<m.je.length)(q:List Int)(hq:q.length<=8)(hon:zj2 m q)(l:List Bit)(t s v sp:Int):zdf m (zD1 m q l t s v sp)=0/\(zD1 m q l t s v sp).tick<=1000/\(zD1 m q l t s v sp).ego.shi<=8000000:=by
 have hv:∀b∈l.map (zDN m),VB m b:=by
  intro b hb;obtain⟨x,_,rfl⟩:=jY.1 hb;exact zEE h hne x
 obtain⟨j1,j2⟩:=zEl _ hv;have he:=zFu h q hq hon;have hL:0<=(if zdA m q=0 then zmd m 0 q else 0)/\(if zdA m q=0 then zmd m 0 q else 0)<=8000000:=by split<;>omega
 generalize hLL:(if zdA m q=0 then zmd m 0 q else 0)=L at *;have r1:=zDJ s (L+1) (by omega);have r2:=zDJ v 2001 (by omega);have r3:=zDJ sp 2000 (by omega);refine⟨zFv ?_ j1 j2,?_,?_⟩
 ·simp only[ziI,zD1,zEo,zsa,hLL];omega
 ·simp only[zD1];omega
 ·simp only[zD1,zEo,hLL];omega
theorem zE9(k:Nat)(hk:k<7)(lim r o1 o2 o3 v w b t:Int):0<(zq k lim r o1 o2 o3 v w b t).je.length:=by
 match k,hk with
 |0,_ |1,_ |2,_ |3,_ |4,_ |5,_ |6,_=>simp[zq,zy]
theorem zFb(n:Int):∃m zs ss,zmq m zs ss/\0<m.je.length/\R L Cs zY [W n] []=some (.w (.a (zf m)),[]):=by
 obtain⟨k,lim,r,o1,o2,o3,v,w,b,t,hk,nu,hR⟩:=zA5 n;exact⟨_,_,_,zCE k hk nu,zE9 k hk _ _ _ _ _ _ _ _ _,hR⟩
structure InP(p q:zk):Prop where
 lane:p.lane=q.lane
 lo:q.lo<=p.lo
 hi:p.hi<=q.hi
 vlo:q.vlo<=p.vlo
 vhi:p.vhi<=q.vhi
 hold:q.hold=0\/(p.hold≠0/\p.hold<=q.hold)
theorem z1i(p q:zk):inB p q=true<->InP p q:=by
 unfold inB;simp only[jf,uJ,decide_eq_true_eq];exact⟨fun⟨⟨⟨⟨⟨a,b⟩,c⟩,d⟩,e⟩,f⟩=>⟨a,b,c,d,e,f⟩,fun h=>⟨⟨⟨⟨⟨h.lane,h.lo⟩,h.hi⟩,h.vlo⟩,h.vhi⟩,h.hold⟩⟩
theorem InP.refl(p:zk):InP p p:=⟨rfl,jE _,jE _,jE _,jE _,by omega⟩
theorem InP.trans{p q s:zk}(h:InP p q)(g:InP q s):InP p s :=
 ⟨h.lane.trans g.lane,by have:=h.lo;have:=g.lo;omega,by have:=h.hi;have:=g.hi;omega,by have:=h.vlo;have:=g.vlo;omega,by have:=h.vhi;have:=g.vhi;omega,by have:=h.hold;have:=g.hold;omega⟩
abbrev Sub(l k:List zk):Prop:=∀p∈l,∃q∈k,InP p q
structure InE(x y:Ego):Prop where
 slo:y.slo<=x.slo
 shi:x.shi<=y.shi
 vlo:y.vlo<=x.vlo
 vhi:x.vhi<=y.vhi
structure InK(a b:zci):Prop where
 tick:a.tick=b.tick
 ego:InE a.ego b.ego
 bl:Sub a.jy b.jy
theorem zX7(a b:zci):zXR a b=true<->InK a b:=by
 unfold zXR z1D;simp only[jf,decide_eq_true_eq,kK,uC,decide_eq_false_iff_not,jq,qy,z1i];constructor
 ·rintro⟨⟨h1,⟨⟨⟨h2,h3⟩,h4⟩,h5⟩⟩,h6⟩;exact⟨h1,⟨by omega,by omega,by omega,by omega⟩,h6⟩
 ·intro h;have:=h.ego.slo;have:=h.ego.shi;have:=h.ego.vlo;have:=h.ego.vhi;exact⟨⟨h.tick,⟨⟨⟨by omega,by omega⟩,by omega⟩,by omega⟩⟩,h.bl⟩
abbrev Le(l:List zk):Prop:=∀p∈l,p.lo<=p.hi
theorem zUB{x fr to:Int}{p p':zk}(h:p'∈zoX x fr to p)(hp:p.lo<=p.hi):InP p' p/\p'.lo<=p'.hi:=by
 unfold zoX at h;split at h
 ·obtain rfl:=jm.1 h;exact⟨.refl _,hp⟩
 ·rename_i c;rcases jw.1 h with h|h
  ·split at h
   ·obtain rfl:=jm.1 h;exact⟨⟨rfl,jE _,by simp only;omega,jE _,jE _,by simp only;omega⟩,by simp only;omega⟩
   ·cases h
  ·split at h
   ·obtain rfl:=jm.1 h;exact⟨⟨rfl,by simp only;omega,jE _,jE _,jE _,by simp only;omega⟩,by simp only;omega⟩
   ·cases h
theorem zVn{p q:zk}(h:InP p q)(hp:p.lo<=p.hi){x fr to fr' to':Int}(hf:fr'<=fr)(ht:to<=to'){p':zk}(hp':p'∈zoX x fr' to' p):∃q'∈zoX x fr to q,InP p' q':=by
 have h1:=h.lane;have h2:=h.lo;have h3:=h.hi;have h4:=h.hold;have h5:=h.vlo;have h6:=h.vhi;by_cases c:q.lane≠x\/fr>to\/fr>q.hi\/to<q.lo
 ·exact⟨q,by unfold zoX;rw[if_pos c];simp,(zUB hp' hp).1.trans h⟩
 ·have e:zoX x fr to q=(if q.lo<fr then [{ q with hi:=fr-1 }] else [])++(if to<q.hi then [{ q with lo:=to+1 }] else []):=by unfold zoX;rw[if_neg c]
  rw[e];have left:∀z:zk,z.lane=p.lane->z.lo=p.lo->z.vlo=p.vlo->z.vhi=p.vhi->z.hold=p.hold->z.hi<=fr-1->z.lo<=z.hi->∃q'∈(if q.lo<fr then [{ q with hi:=fr-1 }] else [])++(if to<q.hi then [{ q with lo:=to+1 }] else []),InP z q':=fun z z1 z2 z3 z4 z5 z6 z7 =>
   ⟨{ q with hi:=fr-1 },jP _ (by rw[if_pos (by omega)];simp),⟨by rw[z1];exact h1,by rw[z2];exact h2,z6,by rw[z3];exact h5,by rw[z4];exact h6,by rw[z5];exact h4⟩⟩
  have right:∀z:zk,z.lane=p.lane->z.hi=p.hi->z.vlo=p.vlo->z.vhi=p.vhi->z.hold=p.hold->to+1<=z.lo->z.lo<=z.hi->∃q'∈(if q.lo<fr then [{ q with hi:=fr-1 }] else [])++(if to<q.hi then [{ q with lo:=to+1 }] else []),InP z q':=fun z z1 z2 z3 z4 z5 z6 z7 =>
   ⟨{ q with lo:=to+1 },kw _ (by rw[if_pos (by omega)];simp),⟨by rw[z1];exact h1,z6,by rw[z2];exact h3,by rw[z3];exact h5,by rw[z4];exact h6,by rw[z5];exact h4⟩⟩
  unfold zoX at hp';split at hp'
  ·rename_i d;obtain rfl:=jm.1 hp';by_cases d1:p'.hi<fr'
   ·exact left p' rfl rfl rfl rfl rfl (by omega) hp
   ·exact right p' rfl rfl rfl rfl rfl (by omega) hp
  ·rcases jw.1 hp' with hh|hh
   ·split at hh
    ·obtain rfl:=jm.1 hh;exact left _ rfl rfl rfl rfl rfl (by simp only;omega) (by simp only;omega)
    ·cases hh
   ·split at hh
    ·obtain rfl:=jm.1 hh;exact right _ rfl rfl rfl rfl rfl (by simp only;omega) (by simp only;omega)
    ·cases hh
theorem zUl{x fr to:Int}{p':zk}:∀{l:List zk},p'∈zhn x fr to l<->∃p∈l,p'∈zoX x fr to p
 |[]=>by simp[zhn]
 |b::l=>by
  simp only[zhn,jw,zUl (l:=l),jr];constructor
  ·rintro(h |⟨p,hp,h⟩)
   ·exact⟨b,.inl rfl,h⟩
   ·exact⟨p,.inr hp,h⟩
  ·rintro⟨p,rfl|hp,h⟩
   ·exact .inl h
   ·exact .inr ⟨p,hp,h⟩
theorem zUA{x fr to:Int}{l:List zk}(hl:Le l):Sub (zhn x fr to l) l/\Le (zhn x fr to l):=by
 refine⟨fun p' h=>?_,fun p' h=>?_⟩
 ·obtain⟨p,hp,h⟩:=zUl.1 h;exact⟨p,hp,(zUB h (hl p hp)).1⟩
 ·obtain⟨p,hp,h⟩:=zUl.1 h;exact(zUB h (hl p hp)).2
theorem zVm{l k:List zk}(h:Sub l k)(hl:Le l){x fr to fr' to':Int}(hf:fr'<=fr)(ht:to<=to'):Sub (zhn x fr' to' l) (zhn x fr to k):=fun p' hp'=>by
 obtain⟨p,hp,hc⟩:=zUl.1 hp';obtain⟨q,hq,hi⟩:=h p hp;obtain⟨q',hq',hi'⟩:=zVn hi (hl p hp) hf ht hc;exact⟨q',zUl.2 ⟨q,hq,hq'⟩,hi'⟩
theorem Sub.trans{l k j:List zk}(h:Sub l k)(g:Sub k j):Sub l j:=fun p hp=>by
 obtain⟨q,hq,h⟩:=h p hp;obtain⟨s,hs,g⟩:=g q hq;exact⟨s,hs,h.trans g⟩
theorem zVx{x fr to:Int}(hft:fr<=to){p p':zk}(h:p'∈zoX x fr to p)(hx:p'.lane=x):p'.hi<fr\/to<p'.lo:=by
 unfold zoX at h;split at h
 ·obtain rfl:=jm.1 h;omega
 ·rcases jw.1 h with h|h
  ·split at h
   ·obtain rfl:=jm.1 h;exact .inl (by simp only;omega)
   ·cases h
  ·split at h
   ·obtain rfl:=jm.1 h;exact .inr (by simp only;omega)
   ·cases h
theorem zVu{a b:zk}(h:leB a b)(hl:a.lane=b.lane):a.lo<=b.lo:=by unfold leB at h;omega
theorem zVw{a b:zk}(hl:a.lane=b.lane)(hlo:a.lo<=b.lo):InP a (glue a b)/\InP b (glue a b):=by
 have ho:(glue a b).hold=0\/(a.hold≠0/\a.hold<=(glue a b).hold)/\(b.hold≠0/\b.hold<=(glue a b).hold):=by
  simp only[glue];by_cases c:a.hold=0\/b.hold=0
  ·rw[if_pos c];exact .inl rfl
  ·rw[if_neg c];right;omega
 refine⟨⟨hl,jE _,by simp only[glue];omega,by simp only[glue];omega,by simp only[glue];omega,by omega⟩,⟨rfl,hlo,by simp only[glue];omega,by simp only[glue];omega,by simp only[glue];omega,by omega⟩⟩
theorem zUU{a b x:zk}(hl:a.lane=b.lane)(hab:leB a b)(hbx:leB b x):leB (glue a b) x:=by
 unfold leB at hab hbx ⊢;simp only[glue];omega
theorem zVg(a b:zk):far a b=false<->(a.lane=b.lane/\b.lo<=a.hi+1):=by
 unfold far;by_cases c:a.lane=b.lane
 ·simp[c];omega
 ·simp[c]
theorem zUn:∀(l init:List zk) (a:zk),(a::l).Pairwise leB->∀x,(x∈init++[a]\/x∈l)->∃o∈l.foldl zcP (init++[a]),InP x o
 |[],init,a,_,x,hx=>⟨x,hx.resolve_right (by simp),.refl x⟩
 |b::l,init,a,hs,x,hx=>by
  rw[jL]at hs;have hbl:=hs.2;rw[jL]at hbl;have hab:=hs.1 b (jo ..);rw[jI,zEw];by_cases c:far a b=false
  ·rw[if_pos c];have hc:=(zVg a b).1 c;obtain⟨g1,g2⟩:=zVw hc.1 (zVu hab hc.1);have ih:=zUn l init (glue a b) (jL.2 ⟨fun y hy=>zUU hc.1 hab (hbl.1 y hy),hbl.2⟩);obtain⟨o,ho,hg⟩:=ih (glue a b) (.inl (by simp));rcases hx with hx|hx
   ·rcases jw.1 hx with hx|hx
    ·exact ih x (.inl (jP _ hx))
    ·rw[jm.1 hx];exact⟨o,ho,g1.trans hg⟩
   ·rcases jr.1 hx with rfl|hx
    ·exact⟨o,ho,g2.trans hg⟩
    ·exact ih x (.inr hx)
  ·rw[if_neg c];have ih:=zUn l (init++[a]) b hs.2;rcases hx with hx|hx
   ·exact ih x (.inl (jP _ hx))
   ·rcases jr.1 hx with rfl|hx
    ·exact ih x (.inl (by simp))
    ·exact ih x (.inr hx)
theorem zUT(b:zk):zcP [] b=[]++[b]:=by simp[zcP]
theorem zUQ{l:List zk}(hl:Le l):(l.foldl zb5 []).Perm l/\(l.foldl zb5 []).Pairwise leB:=by
 have hf:l.filter (fun b=>!bad b)=l:=uM.2 fun b hb=>by
  have:=hl b hb;simp[bad];omega
 have e:=zpi l [];constructor
 ·rw[e,hf];have:=znu l [];simpa using this
 ·rw[e];exact ziR _ [] List.Pairwise.nil
theorem zU6{l:List zk}(hl:Le l):Sub l (zcz l):=fun x hx=>by
 obtain⟨hp,hs⟩:=zUQ hl;have hx:=hp.mem_iff.2 hx;unfold zcz;generalize l.foldl zb5 []=S at *;cases S with
 |nil=>cases hx
 |cons a t =>
  rw[jI,zUT];refine zUn t [] a hs x ?_;rcases jr.1 hx with rfl|hx
  ·exact .inl (by simp)
  ·exact .inr hx
theorem zFs{p b:zk}(h:¬zmM p b):Apt p b:=by
 unfold zmM at h;unfold Apt;omega
theorem zEO{m:zD}(h:zcp m):∀(r:List zk) (p:zk),zls m p r=0->r.Pairwise Apt/\∀b∈r,Apt p b
 |[],p,_=>⟨List.Pairwise.nil,by simp⟩
 |x::r,p,hc=>by
  unfold zls at hc;split at hc
  ·rename_i h1;exact absurd hc h1
  ·rename_i h1;have h1:zer m p x=0:=by simpa using h1
   obtain⟨a1,a2,a3,a4,a5,a6,a7,a8,a9,a10,_,a12⟩:=zui h h1;have hx:=zFs a12;obtain⟨i1,i2⟩:=zEO h r x hc;refine⟨jL.2 ⟨i2,i1⟩,fun b hb=>?_⟩;rcases jr.1 hb with rfl|hb
   ·exact hx
   ·have:=i2 b hb;unfold Apt at this hx ⊢;omega
theorem zFn{m:zD}(h:zcp m){k:zci}(hc:zdf m k=0):k.jy.Pairwise Apt:=by
 unfold zdf at hc;split at hc
 ·cases hc
 ·exact(zEO h _ _ hc).1
abbrev zFC:Sh:=.st [zmN,zmN,zmN,zmN,zmN,zmN]
theorem zE2:∀{rows:List (List Cl)},(∀r∈rows,zfo zFC r)->∃l,rows=zDS l/\∀b∈l,zk0 b.hold
 |[],_=>⟨[],rfl,by simp⟩
 |r::rows,h=>by
  have h1:=h r (jo ..);simp only[zfo,znD]at h1;obtain⟨_,_,rfl,⟨a1,rfl,q1⟩,_,_,rfl,⟨a2,rfl,q2⟩,_,_,rfl,⟨a3,rfl,q3⟩,_,_,rfl,⟨a4,rfl,q4⟩,_,_,rfl,⟨a5,rfl,q5⟩,_,_,rfl,⟨a6,rfl,q6⟩,rfl⟩:=h1;obtain⟨l,rfl,hl⟩:=zE2 fun x hx=>h x (jl _ hx)
  refine⟨⟨a1,a2,a3,a4,a5,a6⟩::l,rfl,fun x hx=>?_⟩;rcases jr.1 hx with rfl|hx
  ·exact q6
  ·exact hl x hx
structure KJ(m:zD)(k:zci):Prop where
 vb:∀b∈k.jy,VB m b
 apt:k.jy.Pairwise Apt
 ego:znd k.ego
theorem zN7{m:zD}(h:zcp m)(hs:zmX m){k:zci}(hk:KJ m k):k.jy.length<=200000000:=by
 have hc:zls m zqY k.jy=0:=zED _ _ hk.vb hk.apt fun b hb=>by
  have:=(hk.vb b hb).lane;simp only[zmM,zqY];omega
 have:=zvw h _ _ hc (show(-1:Int)<_ by omega) (show(0:Int)<=_ by omega);have:=hs.few;simp only[zqY]at *;omega
structure InV(p q:zk):Prop where
 lane:p.lane=q.lane
 vlo:q.vlo<=p.vlo
 vhi:p.vhi<=q.vhi
 hold:q.hold=0\/(p.hold≠0/\p.hold<=q.hold)
theorem InP.v{p q:zk}(h:InP p q):InV p q:=⟨h.lane,h.vlo,h.vhi,h.hold⟩
def gW(less:List Int)(i:Nat):Int:=if less.length=0 then 0 else(less.getD (i % less.length) 0) % 1073741824
theorem z0S(less:List Int)(i:Nat):0<=gW less i/\gW less i<1073741824:=by
 unfold gW;split<;>omega
def zY2(m:zD)(b:zk)(g:Int):zk:=⟨b.lane,max 0 (b.lo-g % 2000),min (z8 m b.lane) (b.hi+g / 3 % 2000),max 0 (b.vlo-g % 100),min (zeR (zaK m b.lane)) (b.vhi+g / 7 % 100),if g % 3=0 then 0 else b.hold⟩
def zYg(m:zD)(grow:List Int):Nat->List zk->List zk
 |_,[]=>[]
 |i,b::r=>zY2 m b (gW grow i)::zYg m grow (i+1) r
theorem zYu(m:zD)(grow:List Int):∀(l:List zk) (i:Nat),(zYg m grow i l).length=l.length
 |[],_=>rfl
 |b::r,i=>by simp[zYg,zYu m grow r]
def zYO(m:zD)(grow:List Int)(l:List zk):List zk :=
 if 1<grow.length then zYg m grow 0 l++[⟨((grow.getD 1 0).tmod 64) % m.je.length,0,grow.getD 0 0 % 1000,0,zeR (zaK m (((grow.getD 1 0).tmod 64) % m.je.length)),0⟩] else zYg m grow 0 l
def zYI(e:Ego)(grow:List Int):Ego:=if 1<grow.length then⟨max 0 (e.slo-grow.getD 0 0 % 300),e.shi+grow.getD 1 0 % 300,max 0 (e.vlo-grow.getD 0 0 % 9),min 2000 (e.vhi+grow.getD 1 0 % 9)⟩ else e
def zWZ(m:zD)(k:zci)(grow:List Int):zci:=⟨k.tick,zcz (zYO m grow k.jy),zYI k.ego grow⟩
theorem z1c{m:zD}{b:zk}(h:VB m b){g:Int}(hg:0<=g):VB m (zY2 m b g)/\InP b (zY2 m b g):=by
 have h1:=h.lo;have h2:=h.le;have h3:=h.hi;have h4:=h.vlo;have h5:=h.vle;have h6:=h.vhi;have h7:=h.hold;refine⟨⟨h.lane,?_,?_,?_,?_,?_,?_,?_⟩,⟨rfl,?_,?_,?_,?_,?_⟩⟩<;>simp only[zY2]<;>(try split)<;>omega
theorem z0c{m:zD}(grow:List Int):∀(l:List zk) (i:Nat),(∀b∈l,VB m b)->(∀b∈zYg m grow i l,VB m b)/\Sub l (zYg m grow i l)
 |[],_,_=>⟨fun _ h=>(nomatch h),fun _ h=>(nomatch h)⟩
 |b::r,i,h=>by
  obtain⟨h1,h2⟩:=z0c grow r (i+1) fun x hx=>h x (jl _ hx)
  obtain⟨g1,g2⟩:=z1c (h b (jo ..)) (z0S grow i).1;refine⟨fun x hx=>?_,fun x hx=>?_⟩
  ·rcases jr.1 hx with rfl|hx
   ·exact g1
   ·exact h1 x hx
  ·rcases jr.1 hx with rfl|hx
   ·exact⟨_,jo ..,g2⟩
   ·obtain⟨q,hq,hi⟩:=h2 x hx;exact⟨q,jl _ hq,hi⟩
theorem zZF(k:Int):300<=zeR k/\zeR k<=2000:=by unfold zeR;(repeat' split)<;>omega
theorem z0b{m:zD}(h:zcp m)(hne:0<m.je.length)(grow:List Int)(l:List zk)(hl:∀b∈l,VB m b):(∀b∈zYO m grow l,VB m b)/\Sub l (zYO m grow l):=by
 obtain⟨h1,h2⟩:=z0c grow l 0 hl;unfold zYO;split
 ·refine⟨fun x hx=>?_,fun x hx=>?_⟩
  ·rcases jw.1 hx with hx|hx
   ·exact h1 x hx
   ·obtain rfl:=jm.1 hx;have hr:0<=((grow.getD 1 0).tmod 64) % (m.je.length:Int)/\((grow.getD 1 0).tmod 64) % (m.je.length:Int)<m.je.length:=by
     constructor
     ·exact qf _ (by omega)
     ·exact kV _ (by omega)
    generalize ((grow.getD 1 0).tmod 64) % (m.je.length:Int)=ln at *;have hL:=zcX h hr;have ht:=zZF (zaK m ln);exact⟨hr,jE _,by simp only;omega,by simp only;omega,jE _,by simp only;omega,jE _,by simp only;omega⟩
  ·obtain⟨q,hq,hi⟩:=h2 x hx;exact⟨q,jP _ hq,hi⟩
 ·exact⟨h1,h2⟩
theorem z1b{e:Ego}(grow:List Int)(h:0<=e.slo/\0<=e.vlo/\e.vhi<=2000):InE e (zYI e grow):=by
 unfold zYI;split
 ·exact⟨by simp only;omega,by simp only;omega,by simp only;omega,by simp only;omega⟩
 ·exact⟨jE _,jE _,jE _,jE _⟩
theorem z1a{m:zD}(h:zcp m)(hne:0<m.je.length)(grow:List Int){k:zci}(hc:zdf m k=0)(hs:k.ego.shi<=8000000):zdf m (zWZ m k grow)=0/\InK k (zWZ m k grow)/\(zWZ m k grow).ego.shi<=k.ego.shi+300:=by
 have hv:=zxJ h hc;obtain⟨h1,h2⟩:=z0b h hne grow k.jy hv;have hno:¬ziI k:=by
  unfold zdf at hc;split at hc
  ·cases hc
  ·assumption
 unfold ziI at hno;have hE:=z1b (e:=k.ego) grow (by omega);have hb:(zYI k.ego grow).shi<=k.ego.shi+300/\0<=(zYI k.ego grow).slo/\0<=(zYI k.ego grow).vlo/\(zYI k.ego grow).vhi<=2000:=by
  unfold zYI;split
  ·simp only;omega
  ·omega
 have e1:=hE.slo;have e2:=hE.shi;have e3:=hE.vlo;have e4:=hE.vhi;obtain⟨j1,j2⟩:=zEl _ h1;refine⟨zFv ?_ j1 j2,⟨rfl,hE,h2.trans (zU6 fun p hp=>(h1 p hp).le)⟩,hb.1⟩;unfold ziI;simp only[zWZ,zsa]at hno ⊢;omega
abbrev zW7(t:Int)(S:Cl)(e:Ego):List Cl:=[I t,S,I e.slo,I e.shi,I e.vlo,I e.vhi]
theorem z0k(k:zci)(hl:k.jy.length<=100000000000)(hb:k.jy≠[]):R L Cs zln [.a (zG k)] []=some (.w (.a (zW7 k.tick (sl 0 6 (zI k.jy)) k.ego)),[some (own 6 (zI k.jy))]):=by
 have hr:k.jy.length*48<=140737488355328:=by omega
 rw[zUa zlD rfl];obtain⟨t,bl,e⟩:=k;cases bl with
 |nil=>exact absurd rfl hb
 |cons b l =>
  simp only[jG]at hr;simp[zdH,zG,hr]
theorem z0l(k:zci)(hb:k.jy=[]):R L Cs zln [.a (zG k)] []=some (.w (.a (zW7 k.tick .jc k.ego)),[]):=by
 rw[zUa zlD rfl];simp[zdH,zG,hb]
abbrev wiE(grow:List Int)(i:Nat):Env:=[(8,.w (W i)),(6,.w (Pt 2)),(2,.w (.c (.jd (zu grow)))),(7,.w (Pt 3)),(3,.w (Pt 0))]
abbrev wiM(m:zD)(k:zci)(n v:Nat)(rows:List (List Cl)):Mem:=[bx 5 (zf m),bx 6 (zG k),bx 6 [I 0,.jc,I 0,I 0,I 0,I 0],bxv 1 6 (zW7 k.tick (.slice 4 n 6 0 n none) k.ego),some { box:=false,esz:=6,rows:=rows,gen:=n,fz:=false,ver:=v }]
theorem z1d{m:zD}(h:zcp m)(hne:0<m.je.length)(k:zci)(grow:List Int)(hg:grow.length<=1000)(n i:Nat)(hi:i<n)(hn:n<=1000)(b:zk)(hb:VB m b)(P Q:List (List Cl))(hP:P.length=i)(hQ:P.length+1+Q.length=n)(v:Nat) :
  ∃v',Y L Cs zWm (some [8,6,2,7,3]) 5 (wiE grow i) (wiM m k n v (P++ze b::Q))=Y L Cs zWm (some [8,6,2,7,3]) 5 (wiE grow (i+1)) (wiM m k n v' (P++ze (zY2 m b (gW grow i))::Q)):=by
 have hw:=zB (i:=i) (by omega);have hg0:=z0S grow i;have hG:(grow.length=0/\gW grow i=0)\/(0<grow.length/\∃(h:i % grow.length<grow.length),gW grow i=grow[i % grow.length] % 1073741824):=by
  by_cases c:grow.length=0
  ·exact .inl ⟨c,by unfold gW;rw[if_pos c]⟩
  ·have h:=qp i (show 0<grow.length by omega);refine .inr ⟨by omega,h,?_⟩;unfold gW;rw[if_neg c,jx,ji h];rfl
 have hx1:∀row,(P++row::Q)[i]?=some row:=fun row=>by rw[<-hP];simp
 have hx2:∀row vn,(P++row::Q).set i vn=P++vn::Q:=fun row vn=>by rw[<-hP,jZ _ _ (jk _)];simp
 have hx3:∀row,(P++row::Q).length=n:=fun row=>by simp;omega
 have hx4:P.length+(Q.length+1)=n:=by omega
 have hx5:∀row (hh:i<(P++row::Q).length),(P++row::Q)[i]=row:=fun row hh=>by have:=hx1 row;rw[ji hh]at this;exact Option.some.inj this
 have q1:∀x:Int,(gW grow i).tmod x=gW grow i % x:=fun x=>jH hg0.1
 have q2:∀x:Int,(gW grow i).tdiv x=gW grow i / x:=fun x=>jS hg0.1
 have q3:(gW grow i / 3).tmod 2000=gW grow i / 3 % 2000:=jH (by omega);have q4:(gW grow i / 7).tmod 100=gW grow i / 7 % 100:=jH (by omega);have q5:Int.tmod (i:Int) (grow.length:Int)=((i % grow.length:Nat):Int):=rfl;have Aw:∀n:Int,R L Cs zEd [W n,W 1073741824] []=some (.w (W (n % 1073741824)),[]):=fun n=>zD0 n 1073741824 (by omega) (by omega)
 have gL:=zEV h hb.lane;have hL:=zcX h hb.lane;obtain⟨⟨l1,l2⟩,b1,b2,b3,b4,b5,b6,b7,b8⟩:=hb;obtain⟨j,hj⟩:=jB l1;rw[hj]at l2 gL hL b3 b6 b8;have hjl:j<m.je.length:=by omega
 have eK:zaK m (j:Int)=m.je[j].kind:=by simp[zaK,hjl]
 have gB:=zhv (h.kind _ (jh hjl));have hT:=zZF m.je[j].kind;rw[eK]at b6;unfold zY2;rw[hj,eK];generalize gW grow i=g at *;generalize z8 m (j:Int)=len at *;generalize hV:zeR m.je[j].kind=tv at *;obtain⟨bl,lo,bhi,vlo,vhi,hold⟩:=b;simp only at hj b1 b2 b3 b4 b5 b6 b7 b8;subst hj;have w1:=kH (lo-g % 2000);have w2:=kH (bhi+g / 3 % 2000);have w3:=kH (vlo-g % 100);have w4:=kH (vhi+g / 7 % 100);have w5:=kH (g / 3);have w6:=kH (g / 7);have w7:=kH (g % 2000);have w8:=kH (g % 100);have w9:=kH (g / 3 % 2000);have wa:=kH (g / 7 % 100);have wb:=kH (g % 3);simp only[zf]at gL;rcases hG with⟨hl0,hge⟩ |⟨hl0,hlt,hge⟩
 ·subst hge;refine⟨v+5,?_⟩;have x0:IntKind.i64.wrap 0=0:=rfl;have y1:=kH lo;have y2:=kH bhi;have y3:=kH vlo;have y4:=kH vhi;rw[zj zWm.eq_1];simp (maxSteps:=1000000) [x0,y1,y2,y3,y4,Int.zero_tmod,wiE,wiM,zf,zo,ze,zW7,hi,hw,zg,hl0,gL,gB,hjl,hV,hx1,hx2,hx3,hx4,hx5,w1,w2,w3,w4,w5,w6,w7,w8,w9,wa,wb]
 ·have hl1:¬grow.length=0:=by omega
  have hl1':(0:Int)<grow.length:=by omega
  have hge':=hge.symm;have hq6:0<=(i:Int) % (grow.length:Int):=qf _ (by omega);have hq7:(i:Int) % (grow.length:Int)<grow.length:=kV _ (by omega);have hq8:((i:Int) % (grow.length:Int)).toNat=i % grow.length:=by rw[<-Int.natCast_emod];exact Int.toNat_natCast _
  by_cases c:g % 3=0
  ·refine⟨v+5,?_⟩;rw[zj zWm.eq_1];simp (maxSteps:=1000000) [wiE,wiM,zf,zo,ze,zW7,hi,hw,zg,hl0,hl1,hl1',hge',Aw,q1,q2,q3,q4,q5,hq6,hq7,hq8,hlt,gL,gB,hjl,hV,hx1,hx2,hx3,hx4,hx5,w1,w2,w3,w4,w5,w6,w7,w8,w9,wa,wb,c]
  ·have cb:(g % 3==0)=false:=by simp[c]
   refine⟨v+4,?_⟩;rw[zj zWm.eq_1];simp (maxSteps:=1000000) [wiE,wiM,zf,zo,ze,zW7,hi,hw,zg,hl0,hl1,hl1',hge',Aw,q1,q2,q3,q4,q5,hq6,hq7,hq8,hlt,gL,gB,hjl,hV,hx1,hx2,hx3,hx4,hx5,w1,w2,w3,w4,w5,w6,w7,w8,w9,wa,wb,c,cb]
theorem z0d{m:zD}(h:zcp m)(hne:0<m.je.length)(k:zci)(grow:List Int)(hg:grow.length<=1000)(n:Nat)(hn:n<=1000):∀(r pre:List zk) (v:Nat),(∀b∈r,VB m b)->pre.length+r.length=n ->
  ∃v',Y L Cs zWm (some [8,6,2,7,3]) 5 (wiE grow pre.length) (wiM m k n v (zI (pre++r)))=some (.exit 0,(23,.w (Bo false))::wiE grow n,wiM m k n v' (zI (pre++zYg m grow pre.length r))):=by
 intro r;induction r with
 |nil =>
  intro pre v hr hl;simp only[jA,qk]at hl;refine⟨v,?_⟩;rw[zj zWm.eq_1];simp[wiE,wiM,zW7,zYg,hl]
 |cons b r ih =>
  intro pre v hr hl;simp only[jG]at hl;obtain⟨v1,h1⟩:=z1d h hne k grow hg n pre.length (by omega) hn b (hr b (jo ..)) (zI pre) (zI r) (by simp) (by simp;omega) v;obtain⟨v2,h2⟩:=ih (pre++[zY2 m b (gW grow pre.length)]) v1 (fun x hx=>hr x (jl _ hx)) (by simp;omega);refine⟨v2,?_⟩;have e1:zI (pre++b::r)=zI pre++ze b::zI r:=by simp[zI]
  have e2:zI (pre++[zY2 m b (gW grow pre.length)]++r)=zI pre++ze (zY2 m b (gW grow pre.length))::zI r:=by simp[zI]
  have e3:(pre++[zY2 m b (gW grow pre.length)]).length=pre.length+1:=by simp
  rw[e2,e3]at h2;rw[e1,h1,h2,zYg];simp
theorem z0C(m:zD)(grow:List Int)(l:List zk):(zYO m grow l).length<=l.length+1:=by
 unfold zYO;split<;>simp[zYu]
theorem z1o{m:zD}(h:zcp m)(hne:0<m.je.length)(k:zci)(hv:∀b∈k.jy,VB m b)(hl:k.jy.length<=100)(he:znd k.ego)(hs:k.ego.shi<=9000000)(grow:List Int)(hg:grow.length<=1000)(hgi:∀x∈grow,zk0 x) :
  R L Cs zXW [.a (zf m),.a (zG k),.c (.jd (zu grow))] []=some (.w (.a (zG (zWZ m k grow))),[]):=by
 have hes:=he.s;have hev:=he.v;have hml:=z0C m grow k.jy;have hJ:=zy7 (zYO m grow k.jy) (by omega) (fun x hx=>zFo h ((z0b h hne grow k.jy hv).1 x hx));have jO:(k.jy.length+1)*48<=140737488355328:=by omega
 unfold zWZ;have hsm:=h.small.je;by_cases c:1<grow.length
 ·obtain⟨x0,x1,t,rfl⟩:∃x0 x1 t,grow=x0::x1::t:=by
   match grow,c with
   |x0::x1::t,_=>exact⟨x0,x1,t,rfl⟩
  have c':(1:Int)<((x0::x1::t).length:Int):=by omega
  have d0:(0:Int)<(t.length:Int)+1+1:=by omega
  have d1:(1:Int)<(t.length:Int)+1+1:=by omega
  have hx1:=hgi x1 (by simp);have hmm:-64<x1.tmod 64/\x1.tmod 64<64:=by
   rcases Int.le_total 0 x1 with h|h
   ·rw[jH h];omega
   ·obtain⟨y,rfl⟩:∃y,x1=-y:=⟨-x1,by omega⟩;rw[Int.neg_tmod,jH (by omega)];omega
  have wm:=kH (x1.tmod 64);have g1:=zEW (x1.tmod 64) m.je.length (by omega) (by omega);have g2:=zDJ (x1.tmod 64) m.je.length (by omega);have hM:zYO m (x0::x1::t) k.jy=zYg m (x0::x1::t) 0 k.jy++[⟨(x1.tmod 64) % m.je.length,0,x0 % 1000,0,zeR (zaK m ((x1.tmod 64) % m.je.length)),0⟩]:=by unfold zYO;rw[if_pos c];rfl
  have hE:zYI k.ego (x0::x1::t)=⟨max 0 (k.ego.slo-x0 % 300),k.ego.shi+x1 % 300,max 0 (k.ego.vlo-x0 % 9),min 2000 (k.ego.vhi+x1 % 9)⟩:=by unfold zYI;rw[if_pos c];rfl
  rw[hM]at hJ;rw[hM,hE];generalize (x1.tmod 64) % (m.je.length:Int)=ln at *;obtain⟨j,rfl⟩:=jB g2.1;have hj:j<m.je.length:=by omega
  have eK:zaK m (j:Int)=m.je[j].kind:=by simp[zaK,hj]
  have g3:=zhv (h.kind _ (jh hj));rw[eK]at hJ;rw[eK];have f1:=zD0 x0 1000 (by omega) (by omega);have f2:=zD0 x0 300 (by omega) (by omega);have f3:=zD0 x1 300 (by omega) (by omega);have f4:=zD0 x0 9 (by omega) (by omega);have f5:=zD0 x1 9 (by omega) (by omega);have w1:=kH (k.ego.slo-x0 % 300);have w2:=kH (k.ego.shi+x1 % 300);have w3:=kH (k.ego.vlo-x0 % 9);have w4:=kH (k.ego.vhi+x1 % 9);by_cases hb:k.jy=[]
  ·have hC:=z0l k hb;rw[hb]at hJ;rw[hb];simp only[zYg,jK]at hJ ⊢;simp only[zCy,zic,ze,zf,zG,hb]at hJ hC g2;have hY:∀E,Y L Cs zWm (some [8,6,2,7,3]) 4 [(8,.w (W (0:Nat))),(6,.w (Pt 2)),(2,.w (.c (.jd (zu (x0::x1::t))))),(7,.w (Pt 3)),(3,.w (Pt 0))] [bx 5 (zf m),E,bx 6 [I 0,.jc,I 0,I 0,I 0,I 0],bxv 1 6 (zW7 k.tick .jc k.ego)]=some (.exit 0,[(23,.w (Bo false)),(8,.w (W (0:Nat))),(6,.w (Pt 2)),(2,.w (.c (.jd (zu (x0::x1::t))))),(7,.w (Pt 3)),(3,.w (Pt 0))],[bx 5 (zf m),E,bx 6 [I 0,.jc,I 0,I 0,I 0,I 0],bxv 1 6 (zW7 k.tick .jc k.ego)]):=by
    intro E;rw[zj zWm.eq_1];simp[zW7]
   simp only[zf,zW7,jt,zaP]at hY;rw[zUa zWK rfl];simp (maxSteps:=1000000) [zWB,zf,zo,ze,zG,zW7,hb,hC,hY,g1,g3,f1,f2,f3,f4,f5,w1,w2,w3,w4,wm,hj,hJ,d0,d1,zg,zH,zX]
  ·have hC:=z0k k (by omega) hb;obtain⟨v',hL⟩:=z0d h hne k (x0::x1::t) hg k.jy.length (by omega) k.jy [] k.jy.length hv (by simp);simp only[jK,jA,wiE,wiM,jt]at hL;have hwl:=zYu m (x0::x1::t) k.jy 0;generalize zYg m (x0::x1::t) 0 k.jy=wl at *;have ht:List.take k.jy.length wl=wl:=jF (by omega);have ht2:∀x,List.take (k.jy.length+1) (zI wl++[x])=zI wl++[x]:=fun x=>jF (by simp;omega)
   simp only[znQ,zCy,zic,zaP,ze,zf,zG,zW7,sl,own,zgg]at hJ hC hL;rw[zUa zWK rfl];simp (maxSteps:=1000000) [zWB,zf,zo,ze,zG,zW7,hC,hL,g1,g3,f1,f2,f3,f4,f5,w1,w2,w3,w4,wm,hj,hJ,d0,d1,zg,zH,zX,hwl,jO,ht,ht2]
 ·have c':¬(1:Int)<(grow.length:Int):=by omega
  have hM:zYO m grow k.jy=zYg m grow 0 k.jy:=by unfold zYO;rw[if_neg c]
  have hE:zYI k.ego grow=k.ego:=by unfold zYI;rw[if_neg c]
  rw[hM]at hJ;rw[hM,hE];by_cases hb:k.jy=[]
  ·have hC:=z0l k hb;rw[hb]at hJ;rw[hb];simp only[zYg]at hJ ⊢;have hY:∀E,Y L Cs zWm (some [8,6,2,7,3]) 4 [(8,.w (W (0:Nat))),(6,.w (Pt 2)),(2,.w (.c (.jd (zu grow)))),(7,.w (Pt 3)),(3,.w (Pt 0))] [bx 5 (zf m),E,bx 6 [I 0,.jc,I 0,I 0,I 0,I 0],bxv 1 6 (zW7 k.tick .jc k.ego)]=some (.exit 0,[(23,.w (Bo false)),(8,.w (W (0:Nat))),(6,.w (Pt 2)),(2,.w (.c (.jd (zu grow)))),(7,.w (Pt 3)),(3,.w (Pt 0))],[bx 5 (zf m),E,bx 6 [I 0,.jc,I 0,I 0,I 0,I 0],bxv 1 6 (zW7 k.tick .jc k.ego)]):=by
    intro E;rw[zj zWm.eq_1];simp[zW7]
   simp only[zf,zW7,jt]at hY;simp only[zic,zf,zG,hb]at hJ hC;rw[zUa zWK rfl];simp (maxSteps:=1000000) [zWB,zf,zG,zW7,hb,hC,hY,hJ,c,c',zg,zH,zX]
  ·have hC:=z0k k (by omega) hb;obtain⟨v',hL⟩:=z0d h hne k grow hg k.jy.length (by omega) k.jy [] k.jy.length hv (by simp);simp only[jK,jA,wiE,wiM,jt]at hL;have hwl:=zYu m grow k.jy 0;generalize zYg m grow 0 k.jy=wl at *;simp only[zf,zG,zW7,sl,own,zgg]at hJ hC hL;have ht:List.take k.jy.length (zI wl)=zI wl:=jF (by simp;omega);rw[zUa zWK rfl];simp (maxSteps:=1000000) [zWB,zf,zG,zW7,hC,hL,hJ,c,c',zg,zH,zX,hwl,ht]
theorem z0V{m:zD}(h:zcp m)(h1:zXl m){n:Nat}(hn:n<m.je.length)(cs:List Pnt):∀x∈zXw n m.je[n] cs,InB x/\x.lane=n/\x.lo<=x.hi:=by
 intro x hx;have hle:=h.AM _ (jh hn);simp only[zXw,qu,zXt,jY]at hx;obtain⟨p,hp,f,hf,rfl⟩:=hx;have hb:=(zYS h1 (jh hn) p).2 f hf;refine⟨⟨?_,?_⟩,rfl,?_⟩<;>simp only[zYk]<;>omega
theorem zZO{m:zD}(h1:zXl m){n:Nat}(hn:n<m.je.length)(cs:List Pnt):(zXw n m.je[n] cs).length<=cs.length:=by
 induction cs with
 |nil=>simp[zXw]
 |cons p cs ih =>
  have:=zZf h1 hn p;simp only[zXw,jN,jU,jG]at *;omega
def zYw(n:Nat)(l:zfn)(cs:List Pnt):List Fnd:=(zYJ (zXw n l cs)).foldl grp []
def zXF(cs:List Pnt):Nat->List zfn->List Fnd
 |_,[]=>[]
 |n,l::ls=>zYw n l cs++zXF cs (n+1) ls
theorem zY3(s:List Fnd):∀g,(s.foldl grp g).length<=g.length+s.length:=by
 induction s with
 |nil=>intro g;simp
 |cons x s ih =>
  intro g;have:=ih (grp g x);have:=z0h g x;simp only[jI,jG];omega
theorem zZd{m:zD}(h1:zXl m){n:Nat}(hn:n<m.je.length)(cs:List Pnt):(zYw n m.je[n] cs).length<=cs.length:=by
 have h2:=zY3 (zYJ (zXw n m.je[n] cs)) [];have h3:=zX5 (zXw n m.je[n] cs);have h4:=zZO h1 hn cs;unfold zYw;simp at h2;omega
theorem zZJ{m:zD}(h:zcp m)(h1:zXl m)(pts:List Pnt)(hp:pts.length<=1000)(hm:m.je.length<=90):∀(r:List zfn) (i v:Nat) (o:List Fnd),m.je.drop i=r->i<=m.je.length->o.length<=i*1000 ->
  ∃v',Y L Cs zWT (some [5,21,20,1,2]) 3 [(5,.w (.c (oS 2 o))),(21,.w (W i)),(20,.w (W m.je.length)),(1,.w (.c (.jd (zWs pts)))),(2,.w (Pt 0))] [bx 5 (zf m),gb 5,oB v o] =
   some (.exit 0,[(22,.w (Bo false)),(5,.w (.c (oS 2 (o++zXF (pts.filter zXq) i r)))),(21,.w (W m.je.length)),(20,.w (W m.je.length)),(1,.w (.c (.jd (zWs pts)))),(2,.w (Pt 0))],[bx 5 (zf m),gb 5,oB v' (o++zXF (pts.filter zXq) i r)]):=by
 intro r;induction r with
 |nil =>
  intro i v o hd hi ho;obtain rfl:=zUb hd hi;refine⟨v,?_⟩;rw[zj zWT.eq_1];simp[zXF]
 |cons ln r ih =>
  intro i v o hd hi ho;obtain⟨hil,hs,hd'⟩:=zL hd;have hw:=zB (i:=i) (by omega);have hcnt:=z0z pts hp;have hfl:(pts.filter zXq).length<=pts.length:=qc _ _;have hcs:∀p∈pts.filter zXq,zXq p=true:=fun p hp=>(kN.1 hp).2
  generalize pts.filter zXq=cs at *;have hl1:=zZK h h1 hil v m.je.length o pts cs hcs (by omega) cs 0 [] rfl (jz _) (jz _);have hlen:=zZO h1 hil cs;have hInB:=z0V h h1 hil cs;have hll:=zZd h1 hil cs;rw[hs]at hl1 hlen hInB hll;obtain⟨v2,hl2⟩:=zYG (m:=m) i m.je.length ((zXw i ln cs).length+1) o (by omega) pts (zYJ (zXw i ln cs)) (fun x hx=>(hInB x ((zZa _).mem_iff.1 hx)).1) (by rw[zX5];omega) (zYJ (zXw i ln cs)) 0 v [] rfl (jz _) (jz _) (by simp);change Y _ _ _ _ _ _ _=some (_,[_,_,_,_,_,_,_,_,_,(5,.w (.c (oS 2 (o++zYw i ln cs))))],[_,_,oB v2 (o++zYw i ln cs),_])at hl2;have hsl:=zX5 (zXw i ln cs);by_cases h0:zXw i ln cs=[]
  ·have e:zYw i ln cs=[]:=by
    have:zYJ ([]:List Fnd)=[]:=jV (zX5 []);simp[zYw,h0,this]
   obtain⟨v',ih⟩:=ih (i+1) v o hd' hil (by omega);refine⟨v',?_⟩;have hS:=zZS 0;rw[zXF,e,jK,<-ih,zj zWT.eq_1];clear ih hl2 hInB hll;obtain⟨v3,hl2⟩:=zYG (m:=m) i m.je.length 0 o (by omega) pts [] (by simp) (by simp) [] 0 v [] rfl (jz _) (jz _) (by simp);have hv3:v3=v:=by
    rw[zj zWH.eq_1]at hl2;simp[oB,oS,lB,zf]at hl2;exact hl2.symm
   subst hv3;rw[h0]at hl1;simp only[oB,oS,lB,sl,own,zf,jA,jt,zXx,kP,jK,zYf,List.foldl_nil]at hl1 hl2 hcnt hS ⊢;simp[hil,hw,hcnt,hl1,hS,hl2,zg,zH,zf,oB,oS,lB]
  ·obtain⟨v',ih⟩:=ih (i+1) v2 (o++zYw i ln cs) hd' hil (by simp;omega);refine⟨v',?_⟩;have hS:=z1u (zXw i ln cs) (by omega) h0 (zXw i ln cs).length;have hn0:(zXw i ln cs).length≠0:=by simpa using h0
   rw[zXF,<-ul,<-ih,zj zWT.eq_1];clear ih hInB;generalize zYw i ln cs=lf at *;generalize zYJ (zXw i ln cs)=sf at *;simp only[jK]at hl1;generalize zXw i ln cs=af at *;simp only[oB,oS,lB,sl,own,zf,jA,jt,zXx,kP,zYf,hsl]at hl1 hl2 hcnt hS ⊢;simp[hil,hw,hcnt,hl1,hS,hl2,zg,zH,zf,oB,oS,lB,hsl]
theorem zZ5{m:zD}(h1:zXl m)(cs:List Pnt):∀(r:List zfn) (i:Nat),m.je.drop i=r->(zXF cs i r).length<=r.length*cs.length:=by
 intro r;induction r with
 |nil=>intro i _;simp[zXF]
 |cons ln r ih =>
  intro i hd;obtain⟨hil,hs,hd'⟩:=zL hd;have h2:=ih (i+1) hd';have h3:=zZd h1 hil cs;rw[hs]at h3;simp only[zXF,jU,jG,kY];omega
def zWG(m:zD)(pts:List Pnt):List Fnd:=zXF (pts.filter zXq) 0 m.je
theorem z1x{m:zD}(h:zcp m)(h1:zXl m)(pts:List Pnt)(hp:pts.length<=1000)(hm:m.je.length<=90):R L Cs zY5 [.a (zf m),.c (.jd (zWs pts))] []=some (.w (.c (.jd (zWw (zWG m pts)))),[]):=by
 obtain⟨v',hl⟩:=zZJ h h1 pts hp hm m.je 0 0 [] rfl (jz _) (jz _);have hck:=h.chk;have htk:List.take (zWG m pts).length (zWw (zWG m pts))=zWw (zWG m pts):=zYQ _;change Y _ _ _ _ _ _ _=some (_,[_,(5,.w (.c (oS 2 (zWG m pts)))),_,_,_,_],[_,_,oB v' (zWG m pts)])at hl;generalize zWG m pts=ff at *;simp only[oB,oS,zf,jA,jt,zXx]at hl hck;rw[zUa zY8 rfl];simp[zXH,zf,hck,hl,zg,zX,htk]
def vK:List Spn->List zk->List zk
 |[],l=>l
 |s::r,l=>vK r (zhn s.lane s.lo s.hi l)
def zXy(seen:List Spn)(b:zk):Bool:=seen.any fun s=>decide (s.lane=b.lane)&&(decide (s.lo<=b.lo)&&decide (b.hi<=s.hi))
def zXe(b:zk)(f:Fnd):Bool:=decide (f.lane=b.lane)&&(decide (f.lo<=b.hi)&&decide (b.lo<=f.hi))
def zYT(x:Fnd)(l:List Fnd):Fnd:=l.foldl (fun y z=>if z.v1<y.v1 then z else y) x
def zYU(x:Fnd)(l:List Fnd):Fnd:=l.foldl (fun y z=>if y.v2<z.v2 then z else y) x
def nrB(b:zk):List Fnd->zk
 |[]=>b
 |x::l=>{ b with vlo:=max b.vlo (zYT x l).v1,vhi:=min b.vhi (zYU x l).v2 }
def zX4(seen:List Spn)(found:List Fnd)(b:zk):List zk :=
 if zXy seen b=true then(if(nrB b (found.filter (zXe b))).vlo<=(nrB b (found.filter (zXe b))).vhi then [nrB b (found.filter (zXe b))] else []) else [b]
def zXm(m:zD)(seen:List Spn)(pts:List Pnt)(l:List zk):List zk :=
 (vK (zXD m seen (zWG m pts)) l).flatMap (zX4 (zXa m seen) (zWG m pts))
theorem zZg:∀(fr:List Spn) (l k:List zk),Sub l k->Le l->Sub (vK fr l) (vK fr k)
 |[],l,k,h,_=>h
 |s::r,l,k,h,hl=>zZg r _ _ (zVm h hl (jE _) (jE _)) (zUA hl).2
theorem zX8:∀(fr:List Spn) (l:List zk),Le l->Sub (vK fr l) l/\Le (vK fr l)
 |[],l,hl=>⟨fun p hp=>⟨p,hp,.refl p⟩,hl⟩
 |s::r,l,hl=>by
  obtain⟨h1,h2⟩:=zUA (x:=s.lane) (fr:=s.lo) (to:=s.hi) hl;obtain⟨g1,g2⟩:=zX8 r _ h2;exact⟨g1.trans h1,g2⟩
theorem zZM:∀(fr:List Spn) (l:List zk),Le l->∀s∈fr,s.lo<=s.hi->∀p∈vK fr l,p.lane=s.lane->p.hi<s.lo\/s.hi<p.lo
 |t::r,l,hl,s,hs,hse,p,hp,hpl=>by
  obtain⟨h1,h2⟩:=zUA (x:=t.lane) (fr:=t.lo) (to:=t.hi) hl;rcases jr.1 hs with rfl|hs
  ·obtain⟨q,hq,hi⟩:=(zX8 r _ h2).1 p hp;obtain⟨b,hb,hqb⟩:=zUl.1 hq;have:=zVx hse hqb (by rw[<-hi.lane,hpl]);have:=hi.lo;have:=hi.hi;omega
  ·exact zZM r _ h2 s hs hse p hp hpl
theorem zZs{m:zD}:∀(fr:List Spn) (l:List zk),(∀b∈l,VB m b)->l.Pairwise Apt->(∀b∈vK fr l,VB m b)/\(vK fr l).Pairwise Apt
 |[],l,hv,ha=>⟨hv,ha⟩
 |s::r,l,hv,ha=>zZs r _ (zxH l hv) (zEN _ _ _ l ha)
abbrev z04(ln o:Int)(l:List Spn):Prop:=∃t∈l,t.lane=ln/\t.lo<=o/\o<=t.hi
theorem zZN{x fr to ln o:Int}(hno:¬(x=ln/\fr<=o/\o<=to)):∀{l:List Spn},z04 ln o l->z04 ln o (zYr x fr to l)
 |b::l,⟨t,ht,h1,h2,h3⟩=>by
  unfold zYr;rcases jr.1 ht with rfl|ht
  ·have key:z04 ln o (zYm x fr to t):=by
    unfold zYm;split
    ·exact⟨t,by simp,h1,h2,h3⟩
    ·rename_i hc;by_cases c1:o<fr
     ·exact⟨{ t with hi:=fr-1 },jP _ (by rw[if_pos (by omega)];simp),h1,h2,by simp only;omega⟩
     ·have c2:to<o:=by omega
      exact⟨{ t with lo:=to+1 },kw _ (by rw[if_pos (by omega)];simp),h1,by simp only;omega,h3⟩
   obtain⟨t',ht',hh⟩:=key;exact⟨t',jP _ ht',hh⟩
  ·obtain⟨t',ht',hh⟩:=zZN hno ⟨t,ht,h1,h2,h3⟩;exact⟨t',kw _ ht',hh⟩
theorem zZe{m:zD}{ln o:Int}:∀(fs:List Fnd) (l:List Spn),(∀f∈fs,¬(f.lane=ln/\f.lo<=o/\o<=f.hi))->z04 ln o l->z04 ln o (zYx m fs l)
 |[],l,_,h=>h
 |f::fs,l,hf,h=>by
  unfold zYx;refine zZe fs _ (fun x hx=>hf x (jl _ hx)) ?_;split
  ·exact zZN (hf f (jo ..)) h
  ·exact h
theorem z0J{m:zD}{seen:List Spn}{fs:List Fnd}{l:List zk}(hl:Le l){p:zk}(hp:p∈vK (zXD m seen fs) l)(hs:zXy (zXa m seen) p=true):fs.filter (zXe p)≠[]:=by
 intro he;have hle:=(zX8 _ _ hl).2 p hp;obtain⟨s,hsm,hsp⟩:=qy.1 hs;simp only[jf,decide_eq_true_eq]at hsp;have hno:∀f∈fs,¬(f.lane=p.lane/\f.lo<=p.lo/\p.lo<=f.hi):=fun f hf hh=>by
  have:f∈fs.filter (zXe p):=kN.2 ⟨hf,by unfold zXe;simp only[jf,decide_eq_true_eq];omega⟩;rw[he]at this;cases this
 obtain⟨t,ht,t1,t2,t3⟩:=zZe (m:=m) fs (zXa m seen) hno ⟨s,hsm,hsp.1,hsp.2.1,by omega⟩;have:=zZM _ _ hl t ht (by omega) p hp t1.symm;omega
theorem zYB:∀(l:List Fnd) (x:Fnd),(zYT x l∈x::l)/\∀y∈x::l,(zYT x l).v1<=y.v1
 |[],x=>⟨by simp[zYT],fun y hy=>by rw[jm.1 hy];exact jE _⟩
 |z::l,x=>by
  have e:zYT x (z::l)=zYT (if z.v1<x.v1 then z else x) l:=rfl;obtain⟨h1,h2⟩:=zYB l (if z.v1<x.v1 then z else x);rw[e];have h3:=h2 _ (jo ..);refine⟨?_,fun y hy=>?_⟩
  ·rcases jr.1 h1 with h|h
   ·rw[h];split<;>simp
   ·exact jl _ (jl _ h)
  ·rcases jr.1 hy with hy|hy
   ·rw[hy];by_cases c:z.v1<x.v1<;>simp only[c,if_true,if_false]at h3 ⊢<;>omega
   ·rcases jr.1 hy with hy|hy
    ·rw[hy];by_cases c:z.v1<x.v1<;>simp only[c,if_true,if_false]at h3 ⊢<;>omega
    ·exact h2 y (jl _ hy)
theorem zYC:∀(l:List Fnd) (x:Fnd),(zYU x l∈x::l)/\∀y∈x::l,y.v2<=(zYU x l).v2
 |[],x=>⟨by simp[zYU],fun y hy=>by rw[jm.1 hy];exact jE _⟩
 |z::l,x=>by
  have e:zYU x (z::l)=zYU (if x.v2<z.v2 then z else x) l:=rfl;obtain⟨h1,h2⟩:=zYC l (if x.v2<z.v2 then z else x);rw[e];have h3:=h2 _ (jo ..);refine⟨?_,fun y hy=>?_⟩
  ·rcases jr.1 h1 with h|h
   ·rw[h];split<;>simp
   ·exact jl _ (jl _ h)
  ·rcases jr.1 hy with hy|hy
   ·rw[hy];by_cases c:x.v2<z.v2<;>simp only[c,if_true,if_false]at h3 ⊢<;>omega
   ·rcases jr.1 hy with hy|hy
    ·rw[hy];by_cases c:x.v2<z.v2<;>simp only[c,if_true,if_false]at h3 ⊢<;>omega
    ·exact h2 y (jl _ hy)
theorem z0M(b:zk)(l:List Fnd):(nrB b l).lane=b.lane/\(nrB b l).lo=b.lo/\(nrB b l).hi=b.hi/\(nrB b l).hold=b.hold/\b.vlo<=(nrB b l).vlo/\(nrB b l).vhi<=b.vhi:=by
 cases l with
 |nil=>exact⟨rfl,rfl,rfl,rfl,jE _,jE _⟩
 |cons x l=>exact⟨rfl,rfl,rfl,rfl,by simp only[nrB];omega,by simp only[nrB];omega⟩
theorem zYv{seen:List Spn}{found:List Fnd}{b p:zk}(h:p∈zX4 seen found b):InP p b/\p.lane=b.lane/\p.lo=b.lo/\p.hi=b.hi/\p.hold=b.hold/\(b.vlo<=b.vhi->p.vlo<=p.vhi):=by
 unfold zX4 at h;obtain⟨n1,n2,n3,n4,n5,n6⟩:=z0M b (found.filter (zXe b));split at h
 ·split at h
  ·rename_i c;rw[jm.1 h];exact⟨⟨n1,by omega,by omega,n5,n6,by rw[n4];omega⟩,n1,n2,n3,n4,fun _=>c⟩
  ·cases h
 ·rw[jm.1 h];exact⟨.refl b,rfl,rfl,rfl,rfl,id⟩
theorem z0o{seen:List Spn}{found:List Fnd}{p q:zk}(hle:p.lo<=p.hi)(hI:InP p q)(hh:zXy seen p=true->found.filter (zXe p)≠[]){p':zk}(hp:p'∈zX4 seen found p):∃q'∈zX4 seen found q,InP p' q':=by
 have i1:=hI.lane;have i2:=hI.lo;have i3:=hI.hi;have i4:=hI.vlo;have i5:=hI.vhi;by_cases cq:zXy seen q=true
 ·have cp:zXy seen p=true:=by
   obtain⟨s,hs,hsq⟩:=qy.1 cq;simp only[jf,decide_eq_true_eq]at hsq;exact qy.2 ⟨s,hs,by simp only[jf,decide_eq_true_eq];omega⟩
  have hne:=hh cp;unfold zX4 at hp ⊢;rw[if_pos cp]at hp;rw[if_pos cq];have yP:∀f∈found.filter (zXe p),f∈found.filter (zXe q):=fun f hf=>by
   obtain⟨h1,h2⟩:=kN.1 hf;refine kN.2 ⟨h1,?_⟩;unfold zXe at h2 ⊢;simp only[jf,decide_eq_true_eq]at h2 ⊢;omega
  generalize found.filter (zXe p)=A at *;generalize found.filter (zXe q)=B at *;obtain⟨x,l,rfl⟩:∃x l,A=x::l:=by cases A with|nil=>exact absurd rfl hne|cons x l=>exact⟨x,l,rfl⟩
  obtain⟨y,k,rfl⟩:∃y k,B=y::k:=by cases B with|nil=>exact absurd (yP x (jo ..)) (by simp)|cons y k=>exact⟨y,k,rfl⟩
  have m1:=(zYB k y).2 _ (yP _ (zYB l x).1);have m2:=(zYC k y).2 _ (yP _ (zYC l x).1);split at hp
  ·rename_i c;rw[jm.1 hp];simp only[nrB]at c;have hc:(nrB q (y::k)).vlo<=(nrB q (y::k)).vhi:=by simp only[nrB];omega
   rw[if_pos hc];exact⟨_,jm.2 rfl,⟨i1,i2,i3,by simp only[nrB];omega,by simp only[nrB];omega,hI.hold⟩⟩
  ·cases hp
 ·obtain⟨hin,_⟩:=zYv hp;have e:zX4 seen found q=[q]:=by unfold zX4;rw[if_neg cq]
  rw[e];exact⟨q,by simp,hin.trans hI⟩
theorem z0n{m:zD}{seen:List Spn}{pts:List Pnt}{l k:List zk}(h:Sub l k)(hl:Le l):Sub (zXm m seen pts l) (zXm m seen pts k):=by
 intro p' hp';obtain⟨p,hp,hpp⟩:=qu.1 hp';obtain⟨q,hq,hI⟩:=zZg _ _ _ h hl p hp;obtain⟨q',hq',hI'⟩:=z0o ((zX8 _ _ hl).2 p hp) hI (z0J hl hp) hpp;exact⟨q',qu.2 ⟨q,hq,hq'⟩,hI'⟩
theorem z0e{m:zD}{seen:List Spn}{pts:List Pnt}{l:List zk}(hl:Le l):Sub (zXm m seen pts l) l:=by
 intro p' hp';obtain⟨p,hp,hpp⟩:=qu.1 hp';obtain⟨q,hq,hI⟩:=(zX8 _ _ hl).1 p hp;exact⟨q,hq,(zYv hpp).1.trans hI⟩
theorem zZj{m:zD}{seen:List Spn}{pts:List Pnt}{l:List zk}(hv:∀b∈l,VB m b)(ha:l.Pairwise Apt):(∀b∈zXm m seen pts l,VB m b)/\(zXm m seen pts l).Pairwise Apt:=by
 unfold zXm;obtain⟨h1,h2⟩:=zZs (zXD m seen (zWG m pts)) l hv ha;generalize vK (zXD m seen (zWG m pts)) l=c at *;refine⟨fun b hb=>?_,?_⟩
 ·obtain⟨p,hp,hpp⟩:=qu.1 hb;have hb:=h1 p hp;obtain⟨g,g1,g2,g3,g4,g5⟩:=zYv hpp;have:=g.vlo;have:=g.vhi;exact⟨by rw[g1];exact hb.lane,by rw[g2];exact hb.lo,by rw[g2,g3];exact hb.le,by rw[g1,g3];exact hb.hi,by have:=hb.vlo;omega,g5 hb.vle,by rw[g1];have:=hb.vhi;omega,by rw[g1,g4];exact hb.hold⟩
 ·clear h1;induction c with
  |nil=>exact List.Pairwise.nil
  |cons p c ih =>
   obtain⟨q1,q2⟩:=jL.1 h2;rw[jN,kD];refine⟨?_,ih q2,fun a ha b hb=>?_⟩
   ·unfold zX4;split
    ·split
     ·exact kZ ..
     ·exact List.Pairwise.nil
    ·exact kZ ..
   ·obtain⟨_,a1,a2,a3,_,_⟩:=zYv ha;obtain⟨q,hq,hqq⟩:=qu.1 hb;obtain⟨_,b1,b2,b3,_,_⟩:=zYv hqq;have:=q1 q hq;unfold Apt at this ⊢;omega
theorem zZ9(a b:Fnd):R L Cs zW3 [.a (zWN a),.a (zWN b)] []=some (.w (W (zgQ a.v1 b.v1)),[]):=by
 have h:=zp1 a.v1 b.v1;rw[zUa zYE rfl];simp[zXk,zWN,h,zg]
theorem zZ8(a b:Fnd):R L Cs zW2 [.a (zWN a),.a (zWN b)] []=some (.w (W (zgQ a.v2 b.v2)),[]):=by
 have h:=zp1 a.v2 b.v2;rw[zUa zYD rfl];simp[zXj,zWN,h,zg]
abbrev mnE(q:Nat)(l:List Fnd)(i:Nat):Env:=[(6,.w (W i)),(4,.w (Pt 0)),(1,.w (.c (.fn q [] []))),(0,.w (.c (.jd (zWw l)))),(5,.w (Pt 1))]
theorem z1k(a b:Int):(zgQ a b<0)=(a<b):=by
 unfold zgQ;split
 ·simp;omega
 ·split<;>simp<;>omega
theorem z1l(a b:Int):(0<zgQ a b)=(b<a):=by
 unfold zgQ;split
 ·simp;omega
 ·split<;>simp<;>omega
theorem z0P(l:List Fnd)(hl:l.length<=100000)(z:List Cl):∀(r:List Fnd) (i v:Nat) (y:Fnd),l.drop i=r->i<=l.length ->
  ∃v',Y L Cs zWC (some [6,4,1,0,5]) 2 (mnE zW3 l i) [bx 5 z,bxv v 5 (zWN y)]=some (.exit 0,(17,.w (Bo false))::mnE zW3 l l.length,[bx 5 z,bxv v' 5 (zWN (zYT y r))]):=by
 intro r;induction r with
 |nil =>
  intro i v y hd hi;obtain rfl:=zUb hd hi;refine⟨v,?_⟩;rw[zj zWC.eq_1];simp[zYT]
 |cons x r ih =>
  intro i v y hd hi;obtain⟨hil,hx,hd'⟩:=zL hd;have hw:=zB (i:=i) (by omega);have hc:=zZ9 x y;have e:zYT y (x::r)=zYT (if x.v1<y.v1 then x else y) r:=rfl;have hs:=z1k x.v1 y.v1;by_cases c:x.v1<y.v1
  ·obtain⟨v',h'⟩:=ih (i+1) (v+1) x hd' hil;refine⟨v',?_⟩;rw[e,if_pos c,<-h'];clear ih h' e;rw[zj zWC.eq_1];simp only[zWN]at hc;simp[mnE,hil,hx,hw,zWN,hc,hs,c]
  ·obtain⟨v',h'⟩:=ih (i+1) v y hd' hil;refine⟨v',?_⟩;rw[e,if_neg c,<-h'];clear ih h' e;rw[zj zWC.eq_1];simp only[zWN]at hc;simp[mnE,hil,hx,hw,zWN,hc,hs,c]
theorem z0Q(l:List Fnd)(hl:l.length<=100000)(z:List Cl):∀(r:List Fnd) (i v:Nat) (y:Fnd),l.drop i=r->i<=l.length ->
  ∃v',Y L Cs zWD (some [6,4,1,0,5]) 2 (mnE zW2 l i) [bx 5 z,bxv v 5 (zWN y)]=some (.exit 0,(17,.w (Bo false))::mnE zW2 l l.length,[bx 5 z,bxv v' 5 (zWN (zYU y r))]):=by
 intro r;induction r with
 |nil =>
  intro i v y hd hi;obtain rfl:=zUb hd hi;refine⟨v,?_⟩;rw[zj zWD.eq_1];simp[zYU]
 |cons x r ih =>
  intro i v y hd hi;obtain⟨hil,hx,hd'⟩:=zL hd;have hw:=zB (i:=i) (by omega);have hc:=zZ8 x y;have e:zYU y (x::r)=zYU (if y.v2<x.v2 then x else y) r:=rfl;have hs:=z1l x.v2 y.v2;by_cases c:y.v2<x.v2
  ·obtain⟨v',h'⟩:=ih (i+1) (v+1) x hd' hil;refine⟨v',?_⟩;rw[e,if_pos c,<-h'];clear ih h' e;rw[zj zWD.eq_1];simp only[zWN]at hc;simp[mnE,hil,hx,hw,zWN,hc,hs,c]
  ·obtain⟨v',h'⟩:=ih (i+1) v y hd' hil;refine⟨v',?_⟩;rw[e,if_neg c,<-h'];clear ih h' e;rw[zj zWD.eq_1];simp only[zWN]at hc;simp[mnE,hil,hx,hw,zWN,hc,hs,c]
theorem z0A(x:Fnd)(l:List Fnd)(hl:l.length<100000):R L Cs zXS [.c (.jd (zWw (x::l))),.c (.fn zW3 [] [])] []=some (.w (.a (zWN (zYT x l))),[]):=by
 obtain⟨v',h⟩:=z0P (x::l) (by simp;omega) [I 0,I 0,I 0,I 0,I 0] l 1 1 x rfl (by simp);have hp:¬((l.length:Int)+1<1):=by omega
 simp only[mnE,uI,jG,zYn,zWN]at h;rw[zUa zXZ rfl];simp[zWV,h,zWN,hp,zg]
theorem z0B(x:Fnd)(l:List Fnd)(hl:l.length<100000):R L Cs zXT [.c (.jd (zWw (x::l))),.c (.fn zW2 [] [])] []=some (.w (.a (zWN (zYU x l))),[]):=by
 obtain⟨v',h⟩:=z0Q (x::l) (by simp;omega) [I 0,I 0,I 0,I 0,I 0] l 1 1 x rfl (by simp);have hp:¬((l.length:Int)+1<1):=by omega
 simp only[mnE,uI,jG,zYn,zWN]at h;rw[zUa zX0 rfl];simp[zWW,h,zWN,hp,zg]
abbrev nwE(fs out:List Fnd)(i:Nat):Env:=[(6,.w (.c (sl 2 5 (zWw out)))),(13,.w (W i)),(12,.w (W fs.length)),(4,.w (Pt 1)),(11,.w (.c (.jd (zWw fs)))),(2,.w (Pt 0))]
theorem z1g(b:zk)(fs:List Fnd)(hl:fs.length<=100000):∀(r:List Fnd) (i:Nat) (out:List Fnd),fs.drop i=r->i<=fs.length->out.length<=i ->
  Y L Cs zWQ (some [6,13,12,4,11,2]) 3 (nwE fs out i) [bx 6 (ze b),bx 6 [I 0,I 0,I 0,I 0,I 0,I 0],some (own 5 (zWw out))] =
    some (.exit 0,[(14,.w (Bo false)),(6,.w (.c (sl 2 5 (zWw (out++r.filter (zXe b)))))),(13,.w (W fs.length)),(12,.w (W fs.length)),(4,.w (Pt 1)),(11,.w (.c (.jd (zWw fs)))),(2,.w (Pt 0))],[bx 6 (ze b),bx 6 [I 0,I 0,I 0,I 0,I 0,I 0],some (own 5 (zWw (out++r.filter (zXe b))))]):=by
 intro r;induction r with
 |nil =>
  intro i out hd hi ho;obtain rfl:=zUb hd hi;rw[zj zWQ.eq_1];simp
 |cons x r ih =>
  intro i out hd hi ho;obtain⟨hil,hx,hd'⟩:=zL hd;have hw:=zB (i:=i) (by omega);have jO:(out.length+1)*40<=140737488355328:=by omega
  by_cases c:zXe b x=true
  ·rw[qw,if_pos c,show out++x::r.filter (zXe b)=(out++[x])++r.filter (zXe b) by simp,<-ih (i+1) (out++[x]) hd' hil (by simp;omega)];clear ih;unfold zXe at c;simp only[jf,decide_eq_true_eq]at c;obtain⟨c1,c2,c3⟩:=c;have c1':(x.lane==b.lane)=true:=by simp[c1]
   rw[zj zWQ.eq_1];simp[nwE,hil,hx,hw,zWN,ze,c1,c1',c2,c3,jO,zg,zH]
  ·rw[qw,if_neg c,<-ih (i+1) out hd' hil (by omega)];clear ih;unfold zXe at c;simp only[jf,decide_eq_true_eq]at c;rw[zj zWQ.eq_1];by_cases c1:x.lane=b.lane
   ·have c1':(x.lane==b.lane)=true:=by simp[c1]
    by_cases c2:x.lo<=b.hi
    ·have c3:¬b.lo<=x.hi:=fun h=>c ⟨c1,c2,h⟩
     simp[nwE,hil,hx,hw,zWN,ze,c1,c1',c2,c3,zg,zH]
    ·simp[nwE,hil,hx,hw,zWN,ze,c1,c1',c2,zg,zH]
   ·have c1':(x.lane==b.lane)=false:=by simp[c1]
    simp[nwE,hil,hx,hw,zWN,ze,c1,c1',zg,zH]
theorem z00(b:zk)(hb:b.vlo<=b.vhi)(fs:List Fnd)(hl:fs.length<=50000) :
  R L Cs zYV [.a (ze b),.c (.jd (zWw fs))] []=some (.t [.a (ze (nrB b (fs.filter (zXe b)))),Bo (decide ((nrB b (fs.filter (zXe b))).vlo<=(nrB b (fs.filter (zXe b))).vhi))],[]):=by
 have h:=z1g b fs (by omega) fs 0 [] rfl (jz _) (jk _);have hfl:=qc (zXe b) fs;simp only[jK,nwE,jt,zXx,jA,sl,own]at h;generalize fs.filter (zXe b)=A at *;cases A with
 |nil =>
  simp only[zXx,jA,ze]at h;rw[zUa zYc rfl];simp[zXf,h,nrB,hb,ze,zg,zH]
 |cons x l =>
  have h1:=z0A x l (by simp at hfl;omega);have h2:=z0B x l (by simp at hfl;omega);have hz:((l.length:Int)+1==0)=false:=beq_false_of_ne (by omega);simp only[zYn,zWN,ze]at h h1 h2;rw[zUa zYc rfl];simp[zXf,h,h1,h2,nrB,zWN,ze,hz,zg,zH,zX];exact decide_eq_decide.2 vV
theorem zYo{m:zD}(h:zcp m)(hs:zmX m){l:List zk}(hv:∀b∈l,VB m b)(ha:l.Pairwise Apt):l.length<=200000000 :=
 zN7 h hs (k:=⟨0,l,⟨0,0,0,0⟩⟩) ⟨hv,ha,(show znd ⟨0,0,0,0⟩ from⟨by decide,by decide⟩)⟩
theorem z0f(k:Int):300<=zeR k/\zeR k<=2000:=by unfold zeR;(repeat' split)<;>omega
abbrev VS(m:zD)(l:List Spn):Prop:=(∀b∈l.map zWu,VB m b)/\(l.map zWu).Pairwise Apt
theorem zZh(x fr to:Int):∀l:List Spn,(zYr x fr to l).map zWu=zhn x fr to (l.map zWu)
 |[]=>rfl
 |b::l=>by
  rw[zYr,qe,zZh x fr to l,kj,zhn]
  congr 1
  unfold zYm zoX;by_cases c:b.lane≠x\/fr>to\/fr>b.hi\/to<b.lo
  ·rw[if_pos c,if_pos (show(zWu b).lane≠x\/fr>to\/fr>(zWu b).hi\/to<(zWu b).lo from c)];rfl
  ·rw[if_neg c,if_neg (show ¬((zWu b).lane≠x\/fr>to\/fr>(zWu b).hi\/to<(zWu b).lo) from c),qe]
   congr 1
   ·by_cases c1:b.lo<fr
    ·rw[if_pos c1,if_pos (show(zWu b).lo<fr from c1)];rfl
    ·rw[if_neg c1,if_neg (show ¬(zWu b).lo<fr from c1)];rfl
   ·by_cases c1:to<b.hi
    ·rw[if_pos c1,if_pos (show to<(zWu b).hi from c1)];rfl
    ·rw[if_neg c1,if_neg (show ¬to<(zWu b).hi from c1)];rfl
theorem z0X{m:zD}{x fr to:Int}{l:List Spn}(h:VS m l):VS m (zYr x fr to l):=by
 unfold VS;rw[zZh];exact⟨zxH _ h.1,zEN _ _ _ _ h.2⟩
theorem z0W{m:zD}(h:zcp m)(hs:zmX m){l:List Spn}(hv:VS m l):l.length<=200000000:=by
 have:=zYo h hs hv.1 hv.2
 rwa [kO]at this
theorem zZE{m:zD}(h:zcp m)(l:List Spn):VS m (zXa m l):=by
 have h0:∀b∈(l.filter (onF m)).map zWu,VB m b:=fun b hb=>by
  obtain⟨s,hs,rfl⟩:=jY.1 hb;have hs:=(kN.1 hs).2;unfold onF at hs;simp only[jf,decide_eq_true_eq]at hs;have:=z0f (zaK m s.lane);have:=zcX h (x:=s.lane) (by omega);exact⟨by simp only[zWu];omega,by simp only[zWu];omega,by simp only[zWu];omega,by simp only[zWu];omega,by simp only[zWu];omega,by simp only[zWu];omega,by simp only[zWu];omega,by simp only[zWu];omega⟩
 obtain⟨j1,j2⟩:=zEl _ h0;unfold VS zXa;rw[vG];refine⟨fun b hb=>?_,?_⟩
 ·obtain⟨q,hq,rfl⟩:=jY.1 hb;have v:=j1 q hq;have:=z0f (zaK m q.lane);have:=zcX h v.lane;exact⟨v.lane,v.lo,v.le,v.hi,jE _,jE _,by show(0:Int)<=zeR (zaK m q.lane);omega,by constructor;exact jE _;show(0:Int)<=z8 m q.lane;omega⟩
 ·rw[List.pairwise_map];exact j2.imp fun {a b} hab=>by
   unfold Apt at hab ⊢;simp only[Function.comp,zWu,zXs];exact hab
theorem z0i{m:zD}(h:zcp m)(fs:List Fnd):∀(r:List Fnd) (l:List Spn),VS m l->VS m (zYx m r l)
 |[],l,hv=>hv
 |f::r,l,hv=>by
  unfold zYx;refine z0i h fs r _ ?_;split
  ·exact z0X hv
  ·exact hv
theorem zZ4{m:zD}(h:zcp m)(hs:zmX m)(fs:List Fnd)(hl:fs.length<=100000):∀(r:List Fnd) (i:Nat) (out:List Spn),fs.drop i=r->i<=fs.length->VS m out ->
  Y L Cs zW9 (some [7,19,18,17,3]) 2 [(7,.w (.c (.jd (zWx out)))),(19,.w (W i)),(18,.w (W fs.length)),(17,.w (.c (.jd (zWw fs)))),(3,.w (Pt 0))] [bx 5 (zf m),gb 3] =
    some (.exit 0,[(20,.w (Bo false)),(7,.w (.c (.jd (zWx (zYx m r out))))),(19,.w (W fs.length)),(18,.w (W fs.length)),(17,.w (.c (.jd (zWw fs)))),(3,.w (Pt 0))],[bx 5 (zf m),gb 3]):=by
 intro r;induction r with
 |nil =>
  intro i out hd hi hb;obtain rfl:=zUb hd hi;rw[zj zW9.eq_1];simp[zYx]
 |cons f r ih =>
  intro i out hd hi hb;obtain⟨hil,hf,hd'⟩:=zL hd;have hw:=zB (i:=i) (by omega);have hon:=z1M h f.s;have hb1:out.length<=100000000000:=by have:=z0W h hs hb;omega
  have hb2:VS m (if onF m f.s=true then zYr f.lane f.lo f.hi out else out):=by
   split
   ·exact z0X hb
   ·exact hb
  rw[zYx,<-ih (i+1) _ hd' hil hb2,zj zW9.eq_1];clear ih hb hb2;obtain⟨ln,lo,hi',v1,v2⟩:=f;by_cases c:onF m (Fnd.s ⟨ln,lo,hi',v1,v2⟩)=true
  ·have AQ:=z1H ln lo hi' (z0L h c).1 (z0L h c).2 out hb1;rw[if_pos c];rw[c]at hon;simp only[zf,zWX,Fnd.s]at hon;simp[hil,hf,hw,zWN,zf,hon,AQ,zg,zH]
  ·have c':onF m (Fnd.s ⟨ln,lo,hi',v1,v2⟩)=false:=by simpa using c
   rw[if_neg c];rw[c']at hon;simp only[zf,zWX,Fnd.s]at hon;simp[hil,hf,hw,zWN,zf,hon,zg,zH]
theorem z1w{m:zD}(h:zcp m)(hs:zmX m)(l:List Spn)(hl:l.length<=19)(fs:List Fnd)(hfs:fs.length<=100000):R L Cs zZp [.a (zf m),.c (.jd (zWx l)),.c (.jd (zWw fs))] []=some (.w (.c (.jd (zWx (zXD m l fs)))),[]):=by
 have h1:=z0j h l hl;have h2:=zZ4 h hs fs hfs fs 0 (zXa m l) rfl (jz _) (zZE h l);have hck:=h.chk;unfold zXD;simp only[zf,jt]at h1 h2 hck ⊢;rw[zUa zZy rfl];simp[zXY,h1,h2,hck,zg]
theorem zYY(s:Spn)(v:Nat)(b:zk):zx (R L Cs) ⟨true⟩ (.c (.fn zWL [] [.ptr 0 0 0 0])) [.a (zWX s)] [bxv v 6 (ze b)]=some (.w (Bo (decide (s.lane=b.lane)&&(decide (s.lo<=b.lo)&&decide (b.hi<=s.hi)))),[bxv v 6 (ze b)],.no):=by
 have h:∀v,R L Cs zWL [.a (zWX s),Pt 0] [bxv v 6 (ze b)]=some (.w (Bo (decide (s.lane=b.lane)&&(decide (s.lo<=b.lo)&&decide (b.hi<=s.hi)))),[bxv v 6 (ze b)]):=fun v=>by
  rw[zUa zYF rfl];by_cases c1:s.lane=b.lane
  ·have c1':(s.lane==b.lane)=true:=by simp[c1]
   by_cases c2:s.lo<=b.lo<;>by_cases c3:b.hi<=s.hi<;>simp[zW5,zWX,ze,c1,c1',c2,c3,zg,zH]
  ·have c1':(s.lane==b.lane)=false:=by simp[c1]
   simp[zW5,zWX,ze,c1,c1',zg,zH]
 simp only[zWX,ze]at h;simp[h,zWX,ze]
theorem zZT(l:List Spn)(hl:l.length<=100000000000)(v:Nat)(b:zk):R L Cs zXA [.c (.jd (zWx l)),.c (.fn zWL [] [.ptr 0 0 0 0])] [bxv v 6 (ze b)]=some (.w (Bo (zXy l b)),[bxv v 6 (ze b)]):=by
 have h:=zxf (L:=L) (Cs:=Cs) (b:=zWz) (live:=some [7,1,0,8]) (n0:=1) l (fun i=>[(7,.w (W l.length)),(1,.w (.c (.fn zWL [] [.ptr 0 0 0 0]))),(0,.w (.c (.jd (zWx l)))),(8,.w (W i))]) [bxv v 6 (ze b)] (fun s=>decide (s.lane=b.lane)&&(decide (s.lo<=b.lo)&&decide (b.hi<=s.hi))) (fun i=>(.ret,[(4,.w (W i))],[bxv v 6 (ze b)])) (.exit 0,[(9,.w (Bo false)),(0,.w (.c (.jd (zWx l)))),(1,.w (.c (.fn zWL [] [.ptr 0 0 0 0]))),(7,.w (W l.length)),(8,.w (W l.length))],[bxv v 6 (ze b)]) ?_ ?_ ?_
 ·have key:∃k:Int,R L Cs zXK [.c (.jd (zWx l)),.c (.fn zWL [] [.ptr 0 0 0 0])] [bxv v 6 (ze b)]=some (.w (W k),[bxv v 6 (ze b)])/\decide (0<=k)=zXy l b:=by
   unfold zXy;generalize (fun s:Spn=>decide (s.lane=b.lane)&&(decide (s.lo<=b.lo)&&decide (b.hi<=s.hi)))=f at *;cases hq:l.findIdx? f with
   |none =>
    rw[hq]at h;refine⟨-1,?_,?_⟩
    ·simp only[jt]at h;rw[zUa zXd rfl];simp[zWJ,h]
    ·rw[qP]at hq;have:l.any f=false:=by simpa using hq
     rw[this];decide
   |some k =>
    rw[hq]at h;refine⟨k,?_,?_⟩
    ·simp only[jt]at h;rw[zUa zXd rfl];simp[zWJ,h]
    ·obtain⟨h1,h2,_⟩:=qd.1 hq;have:l.any f=true:=qy.2 ⟨_,jh h1,h2⟩;rw[this];simp
  obtain⟨k,h1,h2⟩:=key;rw[zUa zXC rfl];simp only[ze]at h1;simp[zWP,h1,h2,ze]
 ·intro i hi hp;have hw:=zB (i:=i) (by omega);have hcc:=zYY l[i] v b;rw[hp]at hcc;simp only[zWX,ze]at hcc;rw[zj zWz.eq_1];simp[hi,hw,hcc,zWX,ze,-zx]
 ·intro i hi hp;have hcc:=zYY l[i] v b;rw[hp]at hcc;simp only[zWX,ze]at hcc;rw[zj zWz.eq_1];simp[hi,hcc,zWX,ze,-zx]
 ·rw[zj zWz.eq_1];simp
structure zZP where
 stamp:Int
 seen:List Spn
 pts:List Pnt
def zX6(x:zZP):List Cl:=[I x.stamp,.jd (zWx x.seen),.jd (zWs x.pts)]
abbrev zK:List Cl:=[I 0,.jc,I 0,I 0,I 0,I 0]
abbrev upM(m:zD)(v:Nat)(k:zci)(l:List zk)(x:zZP):Mem:=[bx 5 (zf m),bxv v 6 (zG ⟨k.tick,l,k.ego⟩),bx 3 (zX6 x),bx 6 zK]
abbrev upE(free seen:List Spn)(fs:List Fnd)(i:Nat):Env:=[(43,.w (W i)),(42,.w (W free.length)),(7,.w (.c (.jd (zWw fs)))),(8,.w (.c (.jd (zWx seen)))),(6,.w (Pt 3)),(41,.w (.c (.jd (zWx free)))),(4,.w (Pt 1))]
theorem z0E{m:zD}(h:zcp m)(hs:zmX m)(k:zci)(x:zZP)(free seen:List Spn)(hf:VS m free)(fs:List Fnd):∀(r:List Spn) (i v:Nat) (l:List zk),free.drop i=r->i<=free.length->(∀b∈l,VB m b)->l.Pairwise Apt ->
  ∃v',Y L Cs zWY (some [43,42,7,8,6,41,4]) 4 (upE free seen fs i) (upM m v k l x)=some (.exit 0,(44,.w (Bo false))::upE free seen fs free.length,upM m v' k (vK r l) x):=by
 have hfl:=z0W h hs hf;intro r;induction r with
 |nil =>
  intro i v l hd hi hv ha;obtain rfl:=zUb hd hi;refine⟨v,?_⟩;rw[zj zWY.eq_1];simp[vK]
 |cons s r ih =>
  intro i v l hd hi hv ha;obtain⟨hil,hx,hd'⟩:=zL hd;have hw:=zB (i:=i) (by omega);obtain⟨v',h'⟩:=ih (i+1) (v+1) (zhn s.lane s.lo s.hi l) hd' hil (zxH l hv) (zEN _ _ _ l ha);refine⟨v',?_⟩;rw[vK,<-h'];clear ih h';have hm:Mid s.lo/\Mid s.hi:=by
   have:=hf.1 (zWu s) (List.mem_map_of_mem (by rw[<-hx];exact jh hil));have hl:=zcX h this.lane;have h1:=this.lo;have h2:=this.le;have h3:=this.hi;simp only[zWu]at h1 h2 h3 hl;exact⟨⟨by omega,by omega⟩,⟨by omega,by omega⟩⟩
  have hc:=zDp s.lane s.lo s.hi hm.1 hm.2 l (by have:=zYo h hs hv ha;omega);rw[zj zWY.eq_1];simp[upE,upM,zf,zX6,hil,hx,hw,zWX,zG,hc,zg,zH]
abbrev z0p(bl:List zk)(seen:List Spn)(fs:List Fnd)(i:Nat)(out:List zk):Env:=[(11,.w (.c (sl 4 6 (zI out)))),(56,.w (W i)),(55,.w (W bl.length)),(6,.w (Pt 3)),(4,.w (Pt 1)),(54,.w (.c (.jd (zI bl)))),(8,.w (.c (.jd (zWx seen)))),(7,.w (.c (.jd (zWw fs))))]
theorem z0D{m:zD}(k:zci)(v:Nat)(l:List zk)(x:zZP)(seen:List Spn)(hs:seen.length<=100000000000)(fs:List Fnd)(hfs:fs.length<=50000)(bl:List zk)(hb:∀b∈bl,b.vlo<=b.vhi)(hbl:bl.length<=200000000):∀(r:List zk) (i:Nat) (out:List zk),bl.drop i=r->i<=bl.length->out.length<=i ->
  Y L Cs zWI (some [11,56,55,6,4,54,8,7]) 5 (z0p bl seen fs i out) (upM m v k l x++[some (own 6 (zI out))]) =
    some (.exit 2,[(57,.w (Bo false)),(11,.w (.c (sl 4 6 (zI (out++r.flatMap (zX4 seen fs)))))),(56,.w (W bl.length)),(55,.w (W bl.length)),(6,.w (Pt 3)),(4,.w (Pt 1)),(54,.w (.c (.jd (zI bl)))),(8,.w (.c (.jd (zWx seen)))),(7,.w (.c (.jd (zWw fs))))],upM m v k l x++[some (own 6 (zI (out++r.flatMap (zX4 seen fs))))]):=by
 intro r;induction r with
 |nil =>
  intro i out hd hi ho;obtain rfl:=zUb hd hi;rw[zj zWI.eq_1];simp[z0p,upM,zf,zG,zX6]
 |cons b r ih =>
  intro i out hd hi ho;obtain⟨hil,hx,hd'⟩:=zL hd;have hw:=zB (i:=i) (by omega);have hC:=zZT seen hs 1 b;have hN:=z00 b (by rw[<-hx];exact hb _ (jh hil)) fs hfs;have jO:(out.length+1)*48<=140737488355328:=by omega
  have htk:List.take i out=List.take i out:=rfl;have eU:zX4 seen fs b=if zXy seen b=true then(if(nrB b (fs.filter (zXe b))).vlo<=(nrB b (fs.filter (zXe b))).vhi then [nrB b (fs.filter (zXe b))] else []) else [b]:=rfl
  rw[jN,eU];clear eU;by_cases c:zXy seen b=true
  ·rw[if_pos c];rw[c]at hC;generalize nrB b (fs.filter (zXe b))=q at *;by_cases d:q.vlo<=q.vhi
   ·rw[if_pos d,show out++([q]++List.flatMap (zX4 seen fs) r)=(out++[q])++List.flatMap (zX4 seen fs) r by simp,<-ih (i+1) (out++[q]) hd' hil (by simp;omega)];clear ih;simp only[ze,d,decide_true]at hC hN;rw[zj zWI.eq_1];simp (maxSteps:=1000000) [z0p,upM,zf,zG,zX6,hil,hx,hw,ze,hC,hN,jO,zg,zH]
   ·rw[if_neg d,jK,<-ih (i+1) out hd' hil (by omega)];clear ih;simp only[ze,d,decide_false]at hC hN;rw[zj zWI.eq_1];simp (maxSteps:=1000000) [z0p,upM,zf,zG,zX6,hil,hx,hw,ze,hC,hN,jO,zg,zH]
  ·have c':zXy seen b=false:=by simpa using c
   rw[if_neg c,show out++([b]++List.flatMap (zX4 seen fs) r)=(out++[b])++List.flatMap (zX4 seen fs) r by simp,<-ih (i+1) (out++[b]) hd' hil (by simp;omega)];clear ih;rw[c']at hC;simp only[ze]at hC;rw[zj zWI.eq_1];simp (maxSteps:=1000000) [z0p,upM,zf,zG,zX6,hil,hx,hw,ze,hC,jO,zg,zH]
theorem zYP{m:zD}(h:zcp m)(hs:zmX m)(seen:List Spn)(pts:List Pnt){l:List zk}(hv:∀b∈l,VB m b)(ha:l.Pairwise Apt):(zXm m seen pts l).length<=200000000:=by
 obtain⟨h1,h2⟩:=zZj (seen:=seen) (pts:=pts) hv ha;exact zYo h hs h1 h2
theorem zZR{m:zD}(h:zcp m)(hs:zmX m)(h1:zXl m)(k:zci)(hk:zdf m k=0)(x:zZP)(hst:x.stamp=k.tick)(hse:x.seen.length<=19)(hp:x.pts.length<=100) :
  R L Cs zYW [.a (zf m),.a (zG k),.a (zX6 x)] []=some (.w (.a (zG ⟨k.tick,zXm m x.seen x.pts k.jy,k.ego⟩)),[]):=by
 obtain⟨st,se,pts⟩:=x;simp only at hst hse hp ⊢;subst hst;have hv:=zxJ h hk;have ha:=zFn h hk;have hl:=zYo h hs hv ha;have g1:=z1I k (by omega);have g2:=zuu h k (by omega);rw[hk]at g2;have hfew:=hs.few;have g3:=z1x h h1 pts (by omega) (by omega);have hfl:=zZ5 h1 (pts.filter zXq) m.je 0 rfl;have hcl:=qc zXq pts;have hfl2:(zWG m pts).length<=400:=by
  unfold zWG;refine kh hfl (kh (Nat.mul_le_mul hfew (kh hcl hp)) (by decide))
 have g4:=z1w h hs se hse (zWG m pts) (by omega);have g5:=z0j h se hse;have hwl:=zZW m se;have hfV:VS m (zXD m se (zWG m pts)):=z0i h (zWG m pts) _ _ (zZE h se);obtain⟨v',g6⟩:=z0E h hs k ⟨k.tick,se,pts⟩ _ (zXa m se) hfV (zWG m pts) (zXD m se (zWG m pts)) 0 1 k.jy rfl (jz _) hv ha;obtain⟨c1,c2⟩:=zZs (zXD m se (zWG m pts)) k.jy hv ha;have hcl:=zYo h hs c1 c2;have g7:=z0D (m:=m) k v' (vK (zXD m se (zWG m pts)) k.jy) ⟨k.tick,se,pts⟩ (zXa m se) (by omega) (zWG m pts) (by omega) (vK (zXD m se (zWG m pts)) k.jy) (fun b hb=>(c1 b hb).vle) hcl _ 0 [] rfl (jz _) (jk _);have hul:=zYP h hs se pts hv ha;have hul':zXm m se pts k.jy=(vK (zXD m se (zWG m pts)) k.jy).flatMap (zX4 (zXa m se) (zWG m pts)):=rfl;simp only[jK,ui]at g6 g7;rw[<-hul']at g7;generalize zXm m se pts k.jy=U at *;clear hul' hfl hfV hv ha c1 c2;generalize vK (zXD m se (zWG m pts)) k.jy=C at *;generalize zXD m se (zWG m pts)=F at *;generalize zXa m se=S at *;generalize zWG m pts=D at *;simp only[zf,zG,zX6]at g1 g2 g3 g4 g5;simp only[upE,z0p,upM,zf,zG,zX6,sl,own,zic,zgg,jA,jt,qx,jK]at g6 g7;rw[zUa zY0 rfl];simp (maxSteps:=1000000) [zXB,zf,zG,zX6,g1,g2,g3,g4,g5,g6,g7,zg,zH,zX]
def pnF(z:Int):Pnt:=⟨z % 1099511627776 % 60000,z % 1099511627776 / 60000 % 200-100,z % 1099511627776 / 12000000 % 2000⟩
abbrev tuM(m:zD)(a0 a1 a2:Int)(a b:zci)(w:Nat)(S P:Cl)(G:Mem):Mem:=bx 3 [I a0,I a1,I a2]::bxv 1 5 (zf m)::bxv 1 6 (zG a)::bxv 1 6 (zG b)::bxv w 3 [I a.tick,S,P]::G
abbrev tuE(seen:List Bit)(pts:List Int)(i:Nat):Env:=[(20,.w (W i)),(6,.w (.c (.jd (zu pts)))),(17,.w (Pt 2)),(18,.w (Pt 3)),(5,.w (.c (.jd (zDS seen)))),(15,.w (Pt 1)),(19,.w (Pt 4))]
inductive Sst:List Spn->Cl->Mem->Prop
 |nil:Sst [] .jc []
 |own (out:List Spn) (j:Nat) (G:Mem):out≠[]->G[j]?=some (some (own 3 (zWx out)))->Sst out (.slice (j+5) out.length 3 0 out.length none) G
theorem z0G{m:zD}(h:zcp m)(hne:0<m.je.length)(a0 a1 a2:Int)(a b:zci)(seen:List Bit)(pts:List Int)(i:Nat)(hi:i<seen.length)(hs:seen.length<=4)(hh:zk0 seen[i].hold)(out:List Spn)(ho:out.length<=i)(w:Nat)(S:Cl)(G:Mem)(hS:Sst out S G) :
  ∃w' S' G',Sst (out++[zXs (zDN m seen[i])]) S' G'/\Y L Cs zWq (some [20,6,17,18,5,15,19]) 5 (tuE seen pts i) (tuM m a0 a1 a2 a b w S .jc G)=Y L Cs zWq (some [20,6,17,18,5,15,19]) 5 (tuE seen pts (i+1)) (tuM m a0 a1 a2 a b w' S' .jc G'):=by
 have hw:=zB (i:=i) (by omega);have hb:=zEq h hne seen[i] hh;have jO:(out.length+1)*24<=140737488355328:=by omega
 generalize zDN m seen[i]=y at *;obtain⟨yl,ylo,yhi,yvl,yvh,yho⟩:=y;simp only[zf,zEx,ze]at hb;cases hS with
 |nil =>
  refine⟨w+1,.slice 7 1 3 0 1 none,[bxv 1 6 [I yl,I ylo,I yhi,I yvl,I yvh,I yho],some (own 3 [[I yl,I ylo,I yhi]]),some (own 3 [[I yl,I ylo,I yhi]])],Sst.own [⟨yl,ylo,yhi⟩] 2 _ (by simp) rfl,?_⟩;rw[zj zWq.eq_1];simp (maxSteps:=1000000) [tuE,tuM,zf,zG,zEx,hi,hb,hw,zg,zH]
 |own out j G hne' hG0 =>
  have hjG:j<G.length:=(jT.1 hG0).1;have hg1:∀N:Mem,(G++N)[j]?=some (some (own 3 (zWx out))):=fun N=>by rw[jg hjG,hG0]
  have yQ:∀(N:Mem) (x:Option Blk),(G++N).set j x=G.set j x++N:=fun N x=>kC _ _ hjG
  have hE:∀(x:Option Blk) (N:Mem),(G++x::N)[G.length]?=some x:=fun x N=>by simp
  have hE2:∀(x y:Option Blk) (N:Mem),(G++x::y::N)[G.length+1]?=some y:=fun x y N=>by rw[jC (by omega)];simp
  have hEs:∀(x y:Option Blk) (N:Mem),(G++x::N).set G.length y=G++y::N:=fun x y N=>by rw[jZ _ _ (jk _)];simp
  have hdr:∀(E:Env) (x0 x1 x2 x3:Option Blk) (w g len:Nat) (N:Mem),kx 5 E (x0::x1::x2::x3::bxv w 3 [I a.tick,.slice (j+5) g 3 0 len none,.jc]::N)=(x0::x1::x2::x3::bxv w 3 [I a.tick,.slice (j+5) g 3 0 len none,.jc]::N):=by
   intro E x0 x1 x2 x3 w g len N;unfold kx;split
   ·rfl
   ·rw[if_neg];simp[zH,Blk.below,Eng.below,vg]
  simp only[own,zXJ]at hg1;simp only[bxv]at hdr;refine⟨w+1,.slice (j+5) (out++[Spn.mk yl ylo yhi]).length 3 0 (out++[Spn.mk yl ylo yhi]).length none,G.set j (some (own 3 (zWx (out++[Spn.mk yl ylo yhi]))))++[bxv 1 6 [I yl,I ylo,I yhi,I yvl,I yvh,I yho],some (own 3 [[I yl,I ylo,I yhi]])],Sst.own _ j _ (by simp) (by rw[jg (by simpa using hjG),j7 hjG];rfl),?_⟩;rw[zj zWq.eq_1];simp (maxSteps:=1000000) [tuE,tuM,zf,zG,zEx,zWX,hi,hb,hw,zg,zH,hg1,yQ,hE,hE2,hEs,hdr,jO,-kx]
theorem z0I{m:zD}(h:zcp m)(hne:0<m.je.length)(a0 a1 a2:Int)(a b:zci)(seen:List Bit)(pts:List Int)(hs:seen.length<=4)(hh:∀x∈seen,zk0 x.hold):∀(r:List Bit) (i w:Nat) (out:List Spn) (S:Cl) (G:Mem),seen.drop i=r->i<=seen.length->out.length=i->Sst out S G ->
  ∃w' S' G',Sst (out++r.map fun x=>zXs (zDN m x)) S' G'/\Y L Cs zWq (some [20,6,17,18,5,15,19]) 5 (tuE seen pts i) (tuM m a0 a1 a2 a b w S .jc G)=some (.exit 0,(72,.w (Bo false))::tuE seen pts seen.length,tuM m a0 a1 a2 a b w' S' .jc G'):=by
 intro r;induction r with
 |nil =>
  intro i w out S G hd hi ho hS;obtain rfl:=zUb hd hi;refine⟨w,S,G,by simpa using hS,?_⟩;rw[zj zWq.eq_1];simp
 |cons x r ih =>
  intro i w out S G hd hi ho hS;obtain⟨hil,hx,hd'⟩:=zL hd;obtain⟨w1,S1,G1,h1,h2⟩:=z0G h hne a0 a1 a2 a b seen pts i hil hs (hh _ (jh hil)) out (by omega) w S G hS;rw[hx]at h1;obtain⟨w2,S2,G2,h3,h4⟩:=ih (i+1) w1 _ S1 G1 hd' hil (by simp;omega) h1;refine⟨w2,S2,G2,?_,by rw[h2,h4]⟩;simpa using h3
abbrev zZX(pts:List Int)(i:Nat):Env:=[(22,.w (W i)),(15,.w (Pt 1)),(18,.w (Pt 3)),(17,.w (Pt 2)),(6,.w (.c (.jd (zu pts)))),(19,.w (Pt 4))]
inductive Pst (G:Mem):List Pnt->Cl->Mem->Prop
 |nil:Pst G [] .jc []
 |own (out:List Pnt) (T:Mem):out≠[]->Pst G out (.slice (G.length+6) out.length 3 0 out.length none) (some (own 3 (zWs [out.headD ⟨0,0,0⟩]))::some (own 3 (zWs out))::T)
theorem z0F(m:zD)(a0 a1 a2:Int)(a b:zci)(pts:List Int)(i:Nat)(hi:i<pts.length)(hs:pts.length<=10)(out:List Pnt)(ho:out.length<=i)(w:Nat)(S P:Cl)(G N:Mem)(hS:S=.jc\/∃j n,S=.slice (j+5) n 3 0 n none/\j<G.length)(hP:Pst G out P N) :
  ∃w' P' N',Pst G (out++[pnF pts[i]]) P' N'/\Y L Cs zWp (some [22,15,18,17,6,19]) (5+G.length) (zZX pts i) (tuM m a0 a1 a2 a b w S P (G++N))=Y L Cs zWp (some [22,15,18,17,6,19]) (5+G.length) (zZX pts (i+1)) (tuM m a0 a1 a2 a b w' S P' (G++N')):=by
 have hw:=zB (i:=i) (by omega);have hg:=zD0 pts[i] 1099511627776 (by omega) (by omega);have hr:=zDJ pts[i] 1099511627776 (by omega);have jO:(out.length+1)*24<=140737488355328:=by omega
 unfold pnF;generalize pts[i] % 1099511627776=g at *;have q1:g.tmod 60000=g % 60000:=jH hr.1;have q2:g.tdiv 60000=g / 60000:=jS hr.1;have q3:g.tdiv 12000000=g / 12000000:=jS hr.1;have q4:(g / 60000).tmod 200=g / 60000 % 200:=jH (by omega);have q5:(g / 12000000).tmod 2000=g / 12000000 % 2000:=jH (by omega);have w1:=kH (g / 60000);have w2:=kH (g / 12000000);have w3:=kH (g / 60000 % 200-100);have w4:=kH (g % 60000);have w5:=kH (g / 60000 % 200);have w6:=kH (g / 12000000 % 2000);have hdr:∀(E:Env) (x0 x1 x2 x3:Option Blk) (w g len:Nat) (N:Mem),kx (5+G.length) E (x0::x1::x2::x3::bxv w 3 [I a.tick,S,.slice (G.length+6) g 3 0 len none]::N)=(x0::x1::x2::x3::bxv w 3 [I a.tick,S,.slice (G.length+6) g 3 0 len none]::N):=by
  intro E x0 x1 x2 x3 w g len N;unfold kx;split
  ·rfl
  ·rw[if_neg];obtain⟨n,hn⟩:∃n,5+G.length=n+5:=⟨G.length,by omega⟩;have:¬(G.length+7<=5+G.length):=by omega
   simp[zH,Blk.below,Eng.below,vg,hn]
   intros;omega
 have A5:(0+1)*24<=140737488355328:=by omega
 simp only[bxv]at hdr;cases hP with
 |nil =>
  refine⟨w+1,.slice (G.length+6) 1 3 0 1 none,[some (own 3 [[I (g % 60000),I (g / 60000 % 200-100),I (g / 12000000 % 2000)]]),some (own 3 [[I (g % 60000),I (g / 60000 % 200-100),I (g / 12000000 % 2000)]])],Pst.own [⟨(g % 60000),(g / 60000 % 200-100),(g / 12000000 % 2000)⟩] [] (by simp),?_⟩;have hE:∀(x:Option Blk) (N:Mem),(G++x::N)[G.length]?=some x:=fun x N=>by simp
  have hE2:∀(x y:Option Blk) (N:Mem),(G++x::y::N)[G.length+1]?=some y:=fun x y N=>by rw[jC (by omega)];simp
  have hEs:∀(x y:Option Blk) (N:Mem),(G++x::N).set G.length y=G++y::N:=fun x y N=>by rw[jZ _ _ (jk _)];simp
  rw[kP,zj zWp.eq_1];simp (maxSteps:=1000000) [zZX,tuM,zf,zG,hi,hg,hw,q1,q2,q3,q4,q5,w1,w2,w3,w4,w5,w6,zg,zH,hE,hE2,hEs,hdr,-kx]
 |own out T hne =>
  obtain⟨H,hH⟩:∃H,H=G++some (own 3 (zWs [out.headD ⟨0,0,0⟩]))::some (own 3 (zWs out))::T:=⟨_,rfl⟩;have hjH:G.length+1<H.length:=by rw[hH];simp
  have hG0:H[G.length+1]?=some (some (own 3 (zWs out))):=by rw[hH,jC (by omega)];simp
  have hg1:∀N:Mem,(H++N)[G.length+1]?=some (some (own 3 (zWs out))):=fun N=>by rw[jg hjH,hG0]
  have yQ:∀(N:Mem) (x:Option Blk),(H++N).set (G.length+1) x=H.set (G.length+1) x++N:=fun N x=>kC _ _ hjH
  have hE:∀(x:Option Blk) (N:Mem),(H++x::N)[H.length]?=some x:=fun x N=>by simp
  have hEs:∀(x y:Option Blk) (N:Mem),(H++x::N).set H.length y=H++y::N:=fun x y N=>by rw[jZ _ _ (jk _)];simp
  refine⟨w+1,.slice (G.length+6) (out++[Pnt.mk (g % 60000) (g / 60000 % 200-100) (g / 12000000 % 2000)]).length 3 0 (out++[Pnt.mk (g % 60000) (g / 60000 % 200-100) (g / 12000000 % 2000)]).length none,some (own 3 (zWs [(out++[Pnt.mk (g % 60000) (g / 60000 % 200-100) (g / 12000000 % 2000)]).headD ⟨0,0,0⟩]))::some (own 3 (zWs (out++[Pnt.mk (g % 60000) (g / 60000 % 200-100) (g / 12000000 % 2000)])))::(T++[some (own 3 [[I (g % 60000),I (g / 60000 % 200-100),I (g / 12000000 % 2000)]])]),Pst.own _ _ (by simp),?_⟩;have yr:G++some (own 3 (zWs [(out++[Pnt.mk (g % 60000) (g / 60000 % 200-100) (g / 12000000 % 2000)]).headD ⟨0,0,0⟩]))::some (own 3 (zWs (out++[Pnt.mk (g % 60000) (g / 60000 % 200-100) (g / 12000000 % 2000)])))::(T++[some (own 3 [[I (g % 60000),I (g / 60000 % 200-100),I (g / 12000000 % 2000)]])])=H.set (G.length+1) (some (own 3 (zWs (out++[Pnt.mk (g % 60000) (g / 60000 % 200-100) (g / 12000000 % 2000)]))))++[some (own 3 [[I (g % 60000),I (g / 60000 % 200-100),I (g / 12000000 % 2000)]])]:=by
   rw[hH,jZ _ _ (by omega)];cases out with
   |nil=>exact absurd rfl hne
   |cons o out=>simp
  rw[yr,<-hH];clear yr hH;simp only[own,zXQ]at hg1;rw[zj zWp.eq_1];simp (maxSteps:=1000000) [zZX,tuM,zf,zG,zYi,hi,hg,hw,q1,q2,q3,q4,q5,w1,w2,w3,w4,w5,w6,zg,zH,hg1,yQ,hE,hEs,hdr,jO,-kx]
theorem z0H(m:zD)(a0 a1 a2:Int)(a b:zci)(pts:List Int)(hs:pts.length<=10)(S:Cl)(G:Mem)(hS:S=.jc\/∃j n,S=.slice (j+5) n 3 0 n none/\j<G.length):∀(r:List Int) (i w:Nat) (out:List Pnt) (P:Cl) (N:Mem),pts.drop i=r->i<=pts.length->out.length=i->Pst G out P N ->
  ∃w' P' N',Pst G (out++r.map pnF) P' N'/\Y L Cs zWp (some [22,15,18,17,6,19]) (5+G.length) (zZX pts i) (tuM m a0 a1 a2 a b w S P (G++N))=some (.exit 2,(96,.w (Bo false))::zZX pts pts.length,tuM m a0 a1 a2 a b w' S P' (G++N')):=by
 intro r;induction r with
 |nil =>
  intro i w out P N hd hi ho hP;obtain rfl:=zUb hd hi;refine⟨w,P,N,by simpa using hP,?_⟩;rw[zj zWp.eq_1];simp
 |cons x r ih =>
  intro i w out P N hd hi ho hP;obtain⟨hil,hx,hd'⟩:=zL hd;obtain⟨w1,P1,N1,h1,h2⟩:=z0F m a0 a1 a2 a b pts i hil hs out (by omega) w S P G N hS hP;rw[hx]at h1;obtain⟨w2,P2,N2,h3,h4⟩:=ih (i+1) w1 _ P1 N1 hd' hil (by simp;omega) h1;refine⟨w2,P2,N2,?_,by rw[h2,h4]⟩;simpa using h3
theorem z1n{out:List Spn}{S:Cl}{G:Mem}(h:Sst out S G):S=.jc\/∃j n,S=.slice (j+5) n 3 0 n none/\j<G.length:=by
 cases h with
 |nil=>exact .inl rfl
 |own out j G _ h=>exact .inr ⟨j,_,rfl,(jT.1 h).1⟩
theorem zY6{m:zD}{zs:List Zon}{ss:List Sgn}(hf:zmq m zs ss)(hp:0<m.je.length)(n rt a0 a1 a2:Int)(l:List Bit)(c1:l.length<=8)(hl:∀x∈l,zk0 x.hold)(grow:List Int)(c2:grow.length<=8)(hg:∀x∈grow,zk0 x)(seen:List Bit)(c3:seen.length<=4)(hse:∀x∈seen,zk0 x.hold)(pts:List Int)(c4:pts.length<=10)(hM:R L Cs zY [W n] []=some (.w (.a (zf m)),[])) :
  R L Cs zWE [W n,W rt,.c (.jd (zDS l)),.a [I a0,I a1,I a2],.c (.jd (zu grow)),.c (.jd (zDS seen)),.c (.jd (zu pts))] []=some (.w (Bo true),[]):=by
 have hm:=hf.good;have hs:=hf.shal;obtain⟨k,hR⟩:=zES hm rt;have hK:=zFz hm hp (zDT m k) (zEm m k) l (by omega) hl a0 a1 a2 a0;have hon:=zEy hm k;have hrl:=zEm m k;obtain⟨v1,v2,v3⟩:=zEM hm hp (zDT m k) hrl hon l a0 a1 a2 a0;have hKl:(zD1 m (zDT m k) l a0 a1 a2 a0).jy.length<=8:=by
  have:=zkq (l.map (zDN m));rw[kO]at this;simp only[zD1];omega
 generalize hKK:zD1 m (zDT m k) l a0 a1 a2 a0=K at *;generalize zDT m k=rr at *;obtain⟨x1,x2,x3⟩:=z1a hm hp grow v1 v3;have hW:=z1o hm hp K (zxJ hm v1) (by omega) (zte v1).1 (by omega) grow (by omega) hg;obtain⟨w1,S,G,hS,g1⟩:=z0I hm hp a0 a1 a2 K (zWZ m K grow) seen pts c3 hse seen 0 1 [] .jc [] rfl (jz _) rfl .nil;have hSl:=z1n hS;obtain⟨w2,P,N,hP,g2⟩:=z0H m a0 a1 a2 K (zWZ m K grow) pts c4 S G hSl pts 0 w1 [] .jc [] rfl (jz _) rfl .nil;simp only[jK,kP]at hS hP g2;have hAl:(seen.map fun x=>zXs (zDN m x)).length<=4:=by simpa using c3
 have hBl:(pts.map pnF).length<=10:=by simpa using c4
 generalize (seen.map fun x=>zXs (zDN m x))=A at *;generalize pts.map pnF=B at *;have lan:zXl m:=⟨hf.one.one⟩;have u1:=zZR hm hs lan K v1 ⟨K.tick,A,B⟩ rfl (by simp only;omega) (by simp only;omega);have u2:=zZR hm hs lan (zWZ m K grow) x1 ⟨K.tick,A,B⟩ x2.tick (by simp only;omega) (by simp only;omega);have hva:=zxJ hm v1;have haa:=zFn hm v1;have hvb:=zxJ hm x1;have hab:=zFn hm x1;obtain⟨p1,p2⟩:=zZj (seen:=A) (pts:=B) hva haa;obtain⟨q1,q2⟩:=zZj (seen:=A) (pts:=B) hvb hab;have pl:=zYP hm hs A B hva haa;have ql:=zYP hm hs A B hvb hab;have ne:∀{k:zci},zdf m k=0->¬ziI k:=fun {k} hc=>by
  unfold zdf at hc;split at hc
  ·cases hc
  ·assumption
 have cp:zdf m ⟨K.tick,zXm m A B K.jy,K.ego⟩=0:=zFv (k:=⟨K.tick,zXm m A B K.jy,K.ego⟩) (by have:=ne v1;unfold ziI at this ⊢;exact this) p1 p2;have cq:zdf m ⟨(zWZ m K grow).tick,zXm m A B (zWZ m K grow).jy,(zWZ m K grow).ego⟩=0:=zFv (k:=⟨(zWZ m K grow).tick,zXm m A B (zWZ m K grow).jy,(zWZ m K grow).ego⟩) (by have:=ne x1;unfold ziI at this ⊢;exact this) q1 q2;have la:Le K.jy:=fun p hp=>(hva p hp).le
 have lb:Le (zWZ m K grow).jy:=fun p hp=>(hvb p hp).le
 have i1:=zYb ⟨K.tick,zXm m A B K.jy,K.ego⟩ ⟨(zWZ m K grow).tick,zXm m A B (zWZ m K grow).jy,(zWZ m K grow).ego⟩ (by simp only;omega) (by simp only;omega);have i2:=zYb ⟨K.tick,zXm m A B K.jy,K.ego⟩ K (by simp only;omega) (by have:=zYo hm hs hva haa;omega);have i3:=zYb ⟨(zWZ m K grow).tick,zXm m A B (zWZ m K grow).jy,(zWZ m K grow).ego⟩ (zWZ m K grow) (by simp only;omega) (by have:=zYo hm hs hvb hab;omega);have e1:zXR ⟨K.tick,zXm m A B K.jy,K.ego⟩ ⟨(zWZ m K grow).tick,zXm m A B (zWZ m K grow).jy,(zWZ m K grow).ego⟩=true:=(zX7 _ _).2 ⟨x2.tick,x2.ego,z0n x2.bl la⟩;rw[e1]at i1;have e2:zXR ⟨K.tick,zXm m A B K.jy,K.ego⟩ K=true:=(zX7 _ _).2 ⟨rfl,⟨jE _,jE _,jE _,jE _⟩,z0e la⟩;rw[e2]at i2;have e3:zXR ⟨(zWZ m K grow).tick,zXm m A B (zWZ m K grow).jy,(zWZ m K grow).ego⟩ (zWZ m K grow)=true:=(zX7 _ _).2 ⟨rfl,⟨jE _,jE _,jE _,jE _⟩,z0e lb⟩;rw[e3]at i3;have k1:=zxh hm ⟨K.tick,zXm m A B K.jy,K.ego⟩ (by simp only;omega) (fun b hb=>zFo hm (p1 b hb));have k2:=zxh hm ⟨(zWZ m K grow).tick,zXm m A B (zWZ m K grow).jy,(zWZ m K grow).ego⟩ (by simp only;omega) (fun b hb=>zFo hm (q1 b hb));rw[cp]at k1;rw[cq]at k2;clear cp cq ne e1 e2 e3 p1 p2 q1 q2 hva haa hvb hab la lb x2;generalize zXm m A B K.jy=U1 at *;generalize zXm m A B (zWZ m K grow).jy=U2 at *;generalize zWZ m K grow=WK at *;have d1:¬((8:Int)<l.length):=by omega
 have d2:¬((8:Int)<grow.length):=by omega
 have d3:¬((4:Int)<seen.length):=by omega
 have d4:¬((10:Int)<pts.length):=by omega
 have d1':¬(8<l.length):=by omega
 have d2':¬(8<grow.length):=by omega
 have d3':¬(4<seen.length):=by omega
 have d4':¬(10<pts.length):=by omega
 have ha:=zBZ;simp only[tuE,zZX,tuM,zf,zG,zX6,jt]at hM hR hK hW u1 u2 i1 i2 i3 k1 k2 g1 g2;cases hS with
 |nil =>
  cases hP with
  |nil =>
   simp only[jK,jA,zWx,zWs,uO,qk]at g1 g2 u1 u2;rw[zUa zWo rfl];simp (maxSteps:=1000000) [zWn,hM,hR,hK,hW,u1,u2,i1,i2,i3,k1,k2,g1,g2,d1,d2,d3,d4,d1',d2',d3',d4',zg,zH,zf,zG,ha,zX]
  |own _ T hne =>
   have hE:∀(x:Option Blk) (N:Mem),(T++x::N)[T.length]?=some x:=fun x N=>by simp
   have hE2:∀(x y:Option Blk) (N:Mem),(T++x::y::N)[T.length+1]?=some y:=fun x y N=>by rw[jC (by omega)];simp
   have hEs:∀(x y:Option Blk) (N:Mem),(T++x::N).set T.length y=T++y::N:=fun x y N=>by rw[jZ _ _ (jk _)];simp
   have hEs2:∀(x y z:Option Blk) (N:Mem),(T++x::y::N).set (T.length+1) z=T++x::z::N:=fun x y z N=>by rw[jZ _ _ (by omega)];simp
   simp only[jK,jA,zWx,uO,qk,kg,own,zXQ]at g1 g2 u1 u2;rw[zUa zWo rfl];simp (maxSteps:=1000000) [zWn,hM,hR,hK,hW,u1,u2,i1,i2,i3,k1,k2,g1,g2,d1,d2,d3,d4,d1',d2',d3',d4',zg,zH,zf,zG,ha,zX,hE,hE2,hEs,hEs2]
   done
 |own _ j _ hne hG0 =>
  have hjG:j<G.length:=(jT.1 hG0).1;rw[show 5+G.length=G.length+1+1+1+1+1 by omega]at g2;cases hP with
  |nil =>
   have hS1:∀N:Mem,(G++N)[j]?=some (some (own 3 (zWx A))):=fun N=>by rw[jg hjG,hG0]
   have hS2:∀(N:Mem) (x:Option Blk),(G++N).set j x=G.set j x++N:=fun N x=>kC _ _ hjG
   have hS3:∀(N:Mem) (x:Option Blk),(G.set j x++N)[j]?=some x:=fun N x=>by rw[jg (by simpa using hjG),j7 hjG]
   have hE:∀(b x:Option Blk) (N:Mem),(G.set j b++x::N)[G.length]?=some x:=fun b x N=>by rw[jC (by simp)];simp
   have hE2:∀(b x y:Option Blk) (N:Mem),(G.set j b++x::y::N)[G.length+1]?=some y:=fun b x y N=>by rw[jC (by simp)];simp
   have hEs:∀(b x y:Option Blk) (N:Mem),(G.set j b++x::N).set G.length y=G.set j b++y::N:=fun b x y N=>by rw[jZ _ _ (by simp)];simp
   have hEs2:∀(b x y z:Option Blk) (N:Mem),(G.set j b++x::y::N).set (G.length+1) z=G.set j b++x::z::N:=fun b x y z N=>by rw[jZ _ _ (by simp)];simp
   simp only[kP,zWs,uO,own,zXJ]at g1 g2 u1 u2 hS1;rw[zUa zWo rfl];simp (maxSteps:=1000000) [zWn,hM,hR,hK,hW,u1,u2,i1,i2,i3,k1,k2,g1,g2,d1,d2,d3,d4,d1',d2',d3',d4',zg,zH,zf,zG,ha,zX,hG0,hS1,hS2,hS3,hE,hE2,hEs,hEs2]
   done
  |own _ T hne2 =>
   obtain⟨H,hH⟩:∃H,H=G++some (own 3 (zWs [B.headD ⟨0,0,0⟩]))::some (own 3 (zWs B))::T:=⟨_,rfl⟩;obtain⟨q,hq⟩:∃q,q=G.length+1:=⟨_,rfl⟩;have hqH:q<H.length:=by rw[hH,hq];simp
   have hjH:j<H.length:=by omega
   have hne3:q≠j:=by omega
   have hP0:H[q]?=some (some (own 3 (zWs B))):=by rw[hH,hq,jC (by omega)];simp
   have hG1:H[j]?=some (some (own 3 (zWx A))):=by rw[hH,jg hjG,hG0]
   rw[<-hH,show G.length+6=q+5 by omega]at g2;clear hH hq hjG hG0;have hS1:∀N:Mem,(H++N)[j]?=some (some (own 3 (zWx A))):=fun N=>by rw[jg hjH,hG1]
   have hS2:∀(N:Mem) (x:Option Blk),(H++N).set j x=H.set j x++N:=fun N x=>kC _ _ hjH
   have hP4:∀N:Mem,(H++N)[q]?=some (some (own 3 (zWs B))):=fun N=>by rw[jg hqH,hP0]
   have hP1:∀(N:Mem) (x:Option Blk),(H.set j x++N)[q]?=some (some (own 3 (zWs B))):=fun N x=>by rw[jg (by simpa using hqH),js (k8 hne3),hP0]
   have hP2:∀(N:Mem) (x y:Option Blk),(H.set j x++N).set q y=(H.set j x).set q y++N:=fun N x y=>kC _ _ (by simpa using hqH)
   have hS3:∀(N:Mem) (x y:Option Blk),((H.set j x).set q y++N)[j]?=some x:=fun N x y=>by rw[jg (by simpa using hjH),js hne3,j7 hjH]
   have hP3:∀(N:Mem) (x y:Option Blk),((H.set j x).set q y++N)[q]?=some y:=fun N x y=>by rw[jg (by simpa using hqH),j7 (by simpa using hqH)]
   have hE:∀(a b x:Option Blk) (N:Mem),((H.set j a).set q b++x::N)[H.length]?=some x:=fun a b x N=>by rw[jC (by simp)];simp
   have hE2:∀(a b x y:Option Blk) (N:Mem),((H.set j a).set q b++x::y::N)[H.length+1]?=some y:=fun a b x y N=>by rw[jC (by simp)];simp
   have hEs:∀(a b x y:Option Blk) (N:Mem),((H.set j a).set q b++x::N).set H.length y=(H.set j a).set q b++y::N:=fun a b x y N=>by rw[jZ _ _ (by simp)];simp
   have hEs2:∀(a b x y z:Option Blk) (N:Mem),((H.set j a).set q b++x::y::N).set (H.length+1) z=(H.set j a).set q b++x::z::N:=fun a b x y z N=>by rw[jZ _ _ (by simp)];simp
   simp only[own,zXJ,zXQ]at hS1 hP1 hP4;rw[zUa zWo rfl];simp (maxSteps:=1000000) [zWn,hM,hR,hK,hW,u1,u2,i1,i2,i3,k1,k2,g1,g2,d1,d2,d3,d4,d1',d2',d3',d4',zg,zH,zf,zG,ha,zX,hS1,hS2,hP4,hP1,hP2,hS3,hP3,hE,hE2,hEs,hEs2]
theorem zYZ(n rt a0 a1 a2:Int)(l:List Bit)(hl:∀x∈l,zk0 x.hold)(grow:List Int)(hg:∀x∈grow,zk0 x)(seen:List Bit)(hse:∀x∈seen,zk0 x.hold)(pts:List Int) :
  R L Cs zWE [W n,W rt,.c (.jd (zDS l)),.a [I a0,I a1,I a2],.c (.jd (zu grow)),.c (.jd (zDS seen)),.c (.jd (zu pts))] []=some (.w (Bo true),[]):=by
 obtain⟨m,zs,ss,hf,hp,hM⟩:=zFb n;have ha:=zBZ;by_cases c1:(8:Int)<l.length
 ·have c1':8<l.length:=by omega
  rw[zUa zWo rfl];simp[zWn,c1,c1',ha,zg]
 have c1':¬8<l.length:=by omega
 by_cases c2:(8:Int)<grow.length
 ·have c2':8<grow.length:=by omega
  rw[zUa zWo rfl];simp[zWn,c1,c1',c2,c2',ha,zg]
 have c2':¬8<grow.length:=by omega
 by_cases c3:(4:Int)<seen.length
 ·have c3':4<seen.length:=by omega
  rw[zUa zWo rfl];simp[zWn,c1,c1',c2,c2',c3,c3',ha,zg]
 have c3':¬4<seen.length:=by omega
 by_cases c4:(10:Int)<pts.length
 ·have c4':10<pts.length:=by omega
  rw[zUa zWo rfl];simp[zWn,c1,c1',c2,c2',c3,c3',c4,c4',ha,zg]
 exact zY6 hf hp n rt a0 a1 a2 l (by omega) hl grow (by omega) hg seen (by omega) hse pts (by omega) hM
theorem zZk:∀xs,zot [zmN,zmN,.slice zFC,.st [zmN,zmN,zmN],.slice zmN,.slice zFC,.slice zmN] xs->∃M',R L Cs zWE xs []=some (.w (.c (.bool true)),M'):=by
 intro xs h;simp only[zot]at h;obtain⟨c1,_,rfl,h1,c2,_,rfl,h2,c3,_,rfl,h3,c4,_,rfl,h4,c5,_,rfl,h5,c6,_,rfl,h6,c7,_,rfl,h7,rfl⟩:=h;simp only[zfo,znD]at h1 h2 h3 h4 h5 h6 h7;obtain⟨n,rfl,_⟩:=h1;obtain⟨rt,rfl,_⟩:=h2;obtain⟨rows,rfl,_,yd⟩:=h3;obtain⟨l,rfl,hl⟩:=zE2 (rows:=rows) (fun r hr=>by simp only[zfo,znD];exact yd r hr);obtain⟨_,_,rfl,⟨a0,rfl,_⟩,_,_,rfl,⟨a1,rfl,_⟩,_,_,rfl,⟨a2,rfl,_⟩,rfl⟩:=h4;obtain⟨qN,rfl,_,vh⟩:=h5;obtain⟨grow,rfl,hgr⟩:=zxB (rows:=qN) (fun r hr=>by simp only[zfo];exact vh r hr);obtain⟨rows2,rfl,_,hrows2⟩:=h6;obtain⟨seen,rfl,hse⟩:=zE2 (rows:=rows2) (fun r hr=>by simp only[zfo,znD];exact hrows2 r hr);obtain⟨rows3,rfl,_,Ar⟩:=h7;obtain⟨pts,rfl,_⟩:=zxB (rows:=rows3) (fun r hr=>by simp only[zfo];exact Ar r hr);exact⟨[],zYZ n rt a0 a1 a2 l hl grow hgr seen hse pts⟩
end Go.TrRun
