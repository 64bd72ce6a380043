/- This text proves what functions of this seat's program answer, run by the evaluator; no condition. -/
import Derived.Test.YtammkplkmigccaaGreatTx2
import Derived.WalkSmall
set_option maxHeartbeats 8000000
set_option linter.unusedVariables false
set_option linter.unusedSimpArgs false
set_option linter.unusedSectionVars false
set_option maxRecDepth 10000
namespace Go.TrRun
open Go Go.Eng
theorem zvC (a:Nat):∀ (c:Nat) (P l:List zk),P.length=a->zrH a c (P++l)=P++bub l c
 |0,P,l,_=>rfl
 |c+1,P,l,h=>by
  have g:∀ i,(P++l).getD (a+i) z9=l.getD i z9:=fun i=>by
   rw [List.getD_eq_getElem?_getD,List.getD_eq_getElem?_getD,List.getElem?_append_right (by omega),show a+i-P.length=i by omega]
  have e1:=g (c+1)
  have e2:=g c
  rw [show a+(c+1)=a+c+1 by omega] at e1
  rw [zrH,bub,e1,e2]
  split
  ·rw [<-zvC a c P _ h]
   congr 1
   unfold swp
   rw [e1,e2,List.set_append_right _ _ (by omega),List.set_append_right _ _ (by omega),show a+c+1-P.length=c+1 by omega,show a+c-P.length=c by omega]
  ·rfl
theorem zs3 (a:Nat):∀ (m i:Nat) (P l:List zk),P.length=a->zjJ a i m (P++l)=P++zq4 l i m
 |0,i,P,l,_=>rfl
 |m+1,i,P,l,h=>by rw [zjJ,zq4,zvC a i P l h,zs3 a m (i+1) P _ h]
theorem zs2:∀ (r s Q:List zk),zq4 (s++(r++Q)) s.length r.length=r.foldl zfK s++Q
 |[],s,Q=>by simp [zq4]
 |x::r,s,Q=>by
  have e:bub (s++(x::r++Q)) s.length=zfK s x++(r++Q):=zup x s.length s (r++Q) rfl
  rw [List.length_cons,zq4,e,List.foldl_cons]
  have h:=zs2 r (zfK s x) Q
  rw [zn4] at h
  exact h
theorem zyQ (s:List zk) (x:zk):(zfK s x).Perm (x::s):=by
 unfold zfK
 have:=List.take_append_drop (zev x s s.length) s
 refine List.perm_middle.trans ?_
 rw [this]
theorem znu:∀ (r s:List zk),(r.foldl zfK s).Perm (s++r)
 |[],s=>by simp
 |x::r,s=>by
  refine (znu r (zfK s x)).trans ?_
  refine ((zyQ s x).append_right r).trans ?_
  simpa using (List.perm_middle (a:=x) (l₁:=s) (l₂:=r)).symm
theorem zq5 (P C Q:List zk):∃ S,zjJ P.length 1 (P.length+C.length-(P.length+1)) (P++(C++Q))=P++(S++Q)/\S.Perm C/\Srt S:=by
 rw [zs3 P.length _ 1 P _ rfl]
 cases C with
 |nil=>exact ⟨[],by simp [zq4],List.Perm.refl _,List.Pairwise.nil⟩
 |cons x r =>
  have h:=zs2 r [x] Q
  refine ⟨r.foldl zfK [x],?_,by simpa using znu r [x],ziR r [x] (by simp)⟩
  simp only [List.length_cons,List.length_nil,List.cons_append,List.nil_append] at h ⊢
  rw [show P.length+(r.length+1)-(P.length+1)=r.length by omega]
  rw [h]
inductive Chf (bs:Nat):List zk->Prop
 |nil:Chf bs []
 |cons {C R:List zk}:C.length=bs->Srt C->Chf bs R->Chf bs (C++R)
inductive Chs (bs:Nat):List zk->Prop
 |one {C:List zk}:C.length<=bs->Srt C->Chs bs C
 |cons {C R:List zk}:C.length=bs->Srt C->Chs bs R->Chs bs (C++R)
theorem Chf.snoc {bs:Nat} {R C:List zk} (h:Chf bs R) (hc:C.length<=bs) (hs:Srt C):Chs bs (R++C):=by
 induction h with
 |nil=>simpa using Chs.one hc hs
 |cons a b _ ih=>rw [List.append_assoc];exact Chs.cons a b ih
theorem Chs.short {bs:Nat} {R:List zk} (h:Chs bs R) (hl:R.length<=bs):Srt R:=by
 cases h with
 |one _ h=>exact h
 |cons a b c =>
  rename_i C R'
  have:R'=[]:=List.length_eq_zero_iff.1 (by simp at hl;omega)
  subst this;simpa using b
theorem Chs.long {bs:Nat} {R:List zk} (h:Chs bs R) (hl:bs<R.length):∃ C R',R=C++R'/\C.length=bs/\Srt C/\Chs bs R':=by
 cases h with
 |one h _=>omega
 |cons a b c=>exact ⟨_,_,rfl,a,b,c⟩
theorem Chs.two {bs:Nat} (h0:0<bs) {R:List zk} (h:Chs bs R) (hl:2*bs<=R.length):∃ A B R',R=A++(B++R')/\A.length=bs/\B.length=bs/\Srt A/\Srt B/\Chs bs R':=by
 obtain ⟨A,R1,rfl,a1,a2,a3⟩:=h.long (by omega)
 simp at hl
 by_cases c:bs<R1.length
 ·obtain ⟨B,R2,rfl,b1,b2,b3⟩:=a3.long c
  exact ⟨A,B,R2,rfl,a1,b1,a2,b2,b3⟩
 ·exact ⟨A,R1,[],by simp,a1,by omega,a2,a3.short (by omega),Chs.one (by simp) List.Pairwise.nil⟩
theorem zAG (bs k:Nat) (T:List zk):∀ (f:Nat) (P R:List zk),P.length+R.length=k->R.length<f*bs->∃ R1 R2,zok bs k f P.length (P++(R++T))=(P.length+R1.length,P++(R1++(R2++T)))/\(R1++R2).Perm R/\Chf bs R1/\R2.length<bs:=by
 intro f
 induction f with
 |zero=>intro P R h1 h2;omega
 |succ f ih =>
  intro P R h1 h2
  rw [zok]
  by_cases c:P.length+bs<=k
  ·rw [if_pos c]
   have hR:=List.take_append_drop bs R
   have l1:(R.take bs).length=bs:=by simp;omega
   have l2:(R.drop bs).length=R.length-bs:=by simp
   generalize R.take bs=C at *
   generalize R.drop bs=R' at *
   subst hR
   obtain ⟨S,e,p,s⟩:=zq5 P C (R'++T)
   have hs:=p.length_eq
   rw [l1] at e
   obtain ⟨R1,R2,g1,g2,g3,g4⟩:=ih (P++S) R' (by simp at h1 ⊢;omega) (by rw [Nat.succ_mul] at h2;omega)
   rw [List.append_assoc C,e]
   simp only [List.length_append,List.append_assoc] at g1
   rw [show P.length+S.length=P.length+bs by omega] at g1
   rw [g1]
   refine ⟨S++R1,R2,by simp;omega,?_,Chf.cons (by omega) s g3,g4⟩
   rw [List.append_assoc]
   exact p.append g2
  ·rw [if_neg c]
   exact ⟨[],R,by simp,by simp,Chf.nil,by omega⟩
theorem zzY (bs k:Nat) (h0:0<bs) (T:List zk):∀ (f:Nat) (P R:List zk),P.length+R.length=k->R.length<f*(2*bs)->Chs bs R->∃ R1 R2,zgP bs k f P.length (P++(R++T))=(P.length+R1.length,P++(R1++(R2++T)))/\(R1++R2).Perm R/\Chf (2*bs) R1/\R2.length<2*bs/\Chs bs R2:=by
 intro f
 induction f with
 |zero=>intro P R h1 h2;omega
 |succ f ih =>
  intro P R h1 h2 hc
  rw [zgP]
  by_cases c:P.length+2*bs<=k
  ·rw [if_pos c]
   obtain ⟨A,B,R',rfl,a1,b1,a2,b2,r3⟩:=hc.two h0 (by omega)
   obtain ⟨S,e,p,s⟩:=zuD (2*bs) P A B (R'++T) (by omega) (by omega) (by omega) a2 b2
   have hs:=p.length_eq
   simp only [List.length_append] at hs h1 h2
   obtain ⟨R1,R2,g1,g2,g3,g4,g5⟩:=ih (P++S) R' (by simp;omega) (by rw [Nat.succ_mul] at h2;omega) r3
   rw [a1,b1,show P.length+bs+bs=P.length+2*bs by omega] at e
   simp only [List.append_assoc]
   rw [e]
   simp only [List.length_append,List.append_assoc] at g1
   rw [show P.length+S.length=P.length+2*bs by omega] at g1
   rw [g1]
   refine ⟨S++R1,R2,by simp;omega,?_,Chf.cons (by omega) s g3,g4,g5⟩
   rw [List.append_assoc]
   refine (p.append g2).trans ?_
   simp
  ·rw [if_neg c]
   exact ⟨[],R,by simp,by simp,Chf.nil,by omega,hc⟩
theorem zyj (bs:Nat) (h0:0<bs) (R T:List zk) (h:Chs bs R):∃ R',zjE bs R.length (R++T)=R'++T/\R'.Perm R/\Chs (2*bs) R':=by
 obtain ⟨R1,R2,e,p,c1,l2,c2⟩:=zzY bs R.length h0 T (R.length+1) [] R (by simp) (by have:R.length+1<=(R.length+1)*(2*bs):=Nat.le_mul_of_pos_right _ (by omega);omega) h
 simp only [List.nil_append,List.length_nil,Nat.zero_add] at e
 have hl:=p.length_eq
 simp only [List.length_append] at hl
 unfold zjE
 rw [e]
 dsimp only
 by_cases c:R1.length+bs<R.length
 ·rw [if_pos c]
  obtain ⟨A,B,rfl,a1,a2,a3⟩:=c2.long (by omega)
  simp only [List.length_append] at hl l2
  obtain ⟨S,e2,p2,s2⟩:=zuD (R.length-R1.length) R1 A B T (by omega) (by omega) (by omega) a2 (a3.short (by omega))
  have hs:=p2.length_eq
  simp only [List.length_append] at hs
  rw [a1,show R1.length+bs+B.length=R.length by omega] at e2
  refine ⟨R1++S,?_,?_,c1.snoc (by omega) s2⟩
  ·simp only [List.append_assoc];exact e2
  ·exact (List.Perm.append_left _ p2).trans p
 ·rw [if_neg c]
  exact ⟨R1++R2,by simp,p,c1.snoc (by omega) (c2.short (by omega))⟩
theorem zpp (T:List zk):∀ (f bs:Nat) (R:List zk),0<bs->R.length<bs+f->Chs bs R->∃ S,passes R.length f bs (R++T)=S++T/\S.Perm R/\Srt S
 |0,bs,R,h0,hf,hc=>⟨R,rfl,List.Perm.refl _,hc.short (by omega)⟩
 |f+1,bs,R,h0,hf,hc=>by
  rw [passes]
  by_cases c:bs<R.length
  ·rw [if_pos c]
   obtain ⟨R',e,p,hc'⟩:=zyj bs h0 R T hc
   have hl:=p.length_eq
   obtain ⟨S,e2,p2,s2⟩:=zpp T f (2*bs) R' (by omega) (by omega) hc'
   rw [hl] at e2
   exact ⟨S,by rw [e,e2],p2.trans p,s2⟩
  ·rw [if_neg c]
   exact ⟨R,rfl,List.Perm.refl _,hc.short (by omega)⟩
theorem zuI (R T:List zk):∃ S,zmz R.length (R++T)=S++T/\S.Perm R/\Srt S:=by
 obtain ⟨R1,R2,e,p,c1,l2⟩:=zAG 20 R.length T (R.length+1) [] R (by simp) (by have:R.length+1<=(R.length+1)*20:=Nat.le_mul_of_pos_right _ (by omega);omega)
 simp only [List.nil_append,List.length_nil,Nat.zero_add] at e
 have hl:=p.length_eq
 simp only [List.length_append] at hl
 unfold zmz
 rw [e]
 dsimp only
 obtain ⟨S2,e2,p2,s2⟩:=zq5 R1 R2 T
 have h2:=p2.length_eq
 rw [show R1.length+R2.length=R.length by omega] at e2
 rw [e2]
 have hc:Chs 20 (R1++S2):=c1.snoc (by omega) s2
 obtain ⟨S,e3,p3,s3⟩:=zpp T R.length 20 (R1++S2) (by decide) (by simp;omega) hc
 have h3:(R1++S2).length=R.length:=by simp;omega
 rw [h3,List.append_assoc] at e3
 exact ⟨S,e3,p3.trans ((List.Perm.append_left _ p2).trans p),s3⟩
theorem zs4 {x y:zk} (h:x.lane=y.lane):zeM x y=zeM y x:=by
 unfold zeM
 rw [h]
 congr 1
 ·omega
 ·omega
 ·omega
 ·omega
 ·by_cases c:x.hold=0<;>by_cases d:y.hold=0<;>simp [c,d];omega
theorem zyR (a x y:zk):zeM (zeM a x) y=zeM (zeM a y) x:=by
 unfold zeM
 congr 1
 ·dsimp;omega
 ·dsimp;omega
 ·dsimp;omega
 ·dsimp;omega
 ·dsimp
  by_cases b:a.hold=0<;>by_cases c:x.hold=0<;>by_cases d:y.hold=0<;>simp [b,c,d]
  have h1:¬max a.hold x.hold=0:=by omega
  have h2:¬max a.hold y.hold=0:=by omega
  simp [h1,h2];omega
theorem zds (o:List zk) (a b:zk):zaQ (o++[a]) b=if meets a b=true then o++[zeM a b] else o++[a]++[b]:=by
 have e:(o++[a]).getD ((o++[a]).length-1) z9=a:=by simp [List.getD_eq_getElem?_getD]
 unfold zaQ
 rw [e]
 by_cases h:meets a b=true
 ·rw [if_pos ⟨by simp,h⟩,if_pos h]
  simp
 ·rw [if_neg (fun g=>h g.2),if_neg h]
theorem zse (out:List zk) {x y:zk} (h1:x.lane=y.lane) (h2:x.lo=y.lo) (hx:x.lo<=x.hi) (hy:y.lo<=y.hi):zaQ (zaQ out x) y=zaQ (zaQ out y) x:=by
 have hm:∀ a,meets a x=meets a y:=fun a=>by unfold meets;rw [h1,h2]
 have m1:meets x y=true:=by unfold meets;simp [h1];omega
 have m2:meets y x=true:=by unfold meets;simp [h1];omega
 rcases List.eq_nil_or_concat out with e |⟨o,a,e⟩
 ·subst e
  have e0:∀ b,zaQ [] b=[]++[b]:=fun b=>by simp [zaQ]
  rw [e0,e0,zds,zds,if_pos m1,if_pos m2,zs4 h1]
 ·rw [List.concat_eq_append] at e
  subst e
  rw [zds,zds,<-hm a]
  by_cases c:meets a x=true
  ·have c1:meets (zeM a x) y=true:=by
    unfold meets at c ⊢
    unfold zeM
    simp at c ⊢;omega
   have c2:meets (zeM a y) x=true:=by
    unfold meets at c ⊢
    unfold zeM
    simp at c ⊢;omega
   rw [if_pos c,if_pos c,zds,zds,if_pos c1,if_pos c2,zyR]
  ·rw [if_neg c,if_neg c,zds,zds,if_pos m1,if_pos m2,zs4 h1]
theorem zrb {x:zk} (hx:x.lo<=x.hi):∀ (u:List zk) (g:List zk),(∀ y∈u,y.lane=x.lane/\y.lo=x.lo/\y.lo<=y.hi)->u.foldl zaQ (zaQ g x)=zaQ (u.foldl zaQ g) x
 |[],g,h=>rfl
 |y::u,g,h=>by
  obtain ⟨h1,h2,h3⟩:=h y (List.mem_cons_self ..)
  simp only [List.foldl_cons]
  rw [zse g h1.symm h2.symm hx h3,zrb hx u (zaQ g y) fun z hz=>h z (List.mem_cons_of_mem _ hz)]
theorem zn8:∀ (s t:List zk) (g:List zk),s.Perm t->Srt s->Srt t->(∀ x∈s,x.lo<=x.hi)->s.foldl zaQ g=t.foldl zaQ g
 |[],t,g,hp,_,_,_=>by rw [hp.nil_eq]
 |x::s,t,g,hp,hs,ht,hn=>by
  have hx:x∈t:=hp.mem_iff.1 (List.mem_cons_self ..)
  obtain ⟨u,v,rfl⟩:=List.append_of_mem hx
  have hp':s.Perm (u++v):=(List.perm_cons x).1 (hp.trans List.perm_middle)
  have ht':Srt (u++v):=ht.sublist (List.Sublist.append_left (List.sublist_cons_self ..) u)
  obtain ⟨hs1,hs2⟩:=List.pairwise_cons.1 hs
  have ih:=zn8 s (u++v) (zaQ g x) hp' hs2 ht' fun y hy=>hn y (List.mem_cons_of_mem _ hy)
  have hu:∀ y∈u,y.lane=x.lane/\y.lo=x.lo/\y.lo<=y.hi:=by
   intro y hy
   have h1:leB y x:=(List.pairwise_append.1 ht).2.2 y hy x (List.mem_cons_self ..)
   have h2:y∈s:=hp'.mem_iff.2 (List.mem_append_left _ hy)
   have h3:=hs1 y h2
   unfold leB at h1 h3
   exact ⟨by omega,by omega,hn y (List.mem_cons_of_mem _ h2)⟩
  simp only [List.foldl_cons,List.foldl_append] at ih ⊢
  rw [ih,zrb (hn x (List.mem_cons_self ..)) u g hu]
theorem zq6 {l:List zk}:∀ x∈l.filter (fun b=>!bad b),x.lo<=x.hi:=by
 intro x hx
 have:=(List.mem_filter.1 hx).2
 simp at this;omega
theorem zAi {l S:List zk} (hp:S.Perm (l.filter fun b=>!bad b)) (hs:Srt S):S.foldl zaQ []=zcz l:=by
 rw [<-zAh]
 unfold zAj
 rw [zsN]
 refine zn8 S _ [] ?_ hs (ziR _ [] List.Pairwise.nil) (fun x hx=>zq6 x (hp.subset hx))
 exact hp.trans (by simpa using (znu (l.filter fun b=>!bad b) []).symm)
theorem zso (l:List zk) (hl:l.length<=100000000000) (hok:∀ x∈l,OKB x):R L Cs zsj [.c (.rslice (zI l))] []=some (.w (.c (.rslice (zI (zcz l)))),[]):=by
 have hc:=zvv l (by omega)
 obtain ⟨l',v1,d1,d2,d3,d4,d5,hD⟩:=zuw l l.length (by omega)
 obtain ⟨S,e,p,s⟩:=zuI (l.filter fun b=>!bad b) (l'.drop (l.filter fun b=>!bad b).length)
 have hsl:=p.length_eq
 have hdec:(l.filter fun b=>!bad b)++l'.drop (l.filter fun b=>!bad b).length=l':=by
  conv=>lhs;arg 1;rw [<-d5]
  exact List.take_append_drop _ _
 rw [hdec] at e
 obtain ⟨v2,s1,s2,hS⟩:=zsp l'.length (l.filter fun b=>!bad b).length (by omega) (by omega) l' rfl v1
 rw [e] at s2 hS
 have htk:(S++l'.drop (l.filter fun b=>!bad b).length).take (l.filter fun b=>!bad b).length=S:=by
  rw [<-hsl,List.take_left]
 have hSl0:(S++l'.drop (l.filter fun b=>!bad b).length).length=l.length:=by simp;omega
 obtain ⟨w',hJ⟩:=zyO (S++l'.drop (l.filter fun b=>!bad b).length) (l.filter fun b=>!bad b).length (by omega) (by omega) v2 (by
  rw [htk]
  intro x hx
  exact hok x (List.mem_filter.1 (p.subset hx)).1) _ 0 [] 0 rfl (Nat.zero_le _) (Nat.zero_le _) (by simp)
 rw [List.drop_zero,htk,zAi p s] at hJ
 generalize hk:(l.filter fun b=>!bad b).length=k at *
 generalize zcz l=Q at *
 generalize S++l'.drop k=S' at *
 simp only [blk,hSl0,d3,Int.natCast_zero,List.length_nil,zic,List.map_nil,List.nil_append] at hD hS hJ
 rw [z4 zsx rfl]
 by_cases q1:v1=l.length
 ·have e1:=d2 q1
  by_cases q2:v2=v1
  ·have e2:=s2 q2
   rw [e1,q1] at hD
   rw [e2,e1,q2,q1] at hS hJ
   simp [zeQ,hc,hD,hS,hJ]
  ·rw [e1,q1] at hD
   rw [e1,q1] at hS
   rw [q1] at q2
   simp [zeQ,hc,hD,hS,hJ,q2]
 ·by_cases q2:v2=v1
  ·have e2:=s2 q2
   rw [e2,q2] at hS hJ
   simp [zeQ,hc,hD,hS,hJ,q1]
  ·simp [zeQ,hc,hD,hS,hJ,q1,q2]
def zfx (len:Int) (e:Ego):Int:=e.shi-len-1
def zex (m:zD) (zs:List Zon) (ss:List Sgn) (r:List Int) (len:Int) (k:zci) (e:Ego) (signals:Bool):List zk :=
 zgt m zs ss r (zfx len e) e.slo len k signals (zkr m k.ego len r k.blobs)++(zbK m 0 m.lanes).flatMap (zfb m (r.getD 0 0) (zfx len e))
def zfV (m:zD) (zs:List Zon) (ss:List Sgn) (r:List Int) (len:Int) (k:zci) (e:Ego) (signals:Bool):List Swp :=
 zhM m zs ss r (zfx len e) e.slo len k signals (zkr m k.ego len r k.blobs)
def zpg (m:zD) (zs:List Zon) (ss:List Sgn) (r:List Int) (len:Int) (k:zci) (e:Ego) (signals:Bool):zci :=
 ⟨k.tick+1,zkr m e len r (zcz (zex m zs ss r len k e signals)),e⟩
theorem zsL (m:zD) (r0 bar:Int):∀ (t:List Int),(t.flatMap (zfb m r0 bar)).length<=t.length
 |[]=>by simp
 |x::t=>by
  have ih:=zsL m r0 bar t
  have:(zfb m r0 bar x).length<=1:=by unfold zfb;split<;>simp
  rw [List.flatMap_cons,List.length_append,List.length_cons]
  omega
theorem zne {m:zD} (hs:zmX m) (zs:List Zon) (ss:List Sgn) {r:List Int} (hr:r.length<=2) (len:Int) (k:zci) (e:Ego) (signals:Bool) (hk:k.blobs.length<=200000000):(zex m zs ss r len k e signals).length<=2400000100:=by
 have h1:=zxY hs zs ss r (zfx len e) e.slo len k signals (zkr m k.ego len r k.blobs)
 have h2:=zij m k.ego len hr k.blobs
 have h3:=zsL m (r.getD 0 0) (zfx len e) (zbK m 0 m.lanes)
 have h4:=zlK m m.lanes 0
 have h5:=hs.few
 unfold zex
 rw [List.length_append]
 omega
theorem zsI {m:zD} (h:zcp m) (zs:List Zon) (ss:List Sgn) (r:List Int) (len:Int) (k:zci) (e:Ego) (signals:Bool) (hvb:∀ b∈k.blobs,VB m b):∀ x∈zex m zs ss r len k e signals,OKB x:=by
 intro x hx
 unfold zex at hx
 rcases List.mem_append.1 hx with hx |hx
 ·unfold zgt at hx
  obtain ⟨b,hb,hx⟩:=List.mem_flatMap.1 hx
  obtain ⟨z,hz,rfl⟩:=List.mem_map.1 hx
  have hv:=ztK k.ego len r k.blobs hvb b hb
  have hbd:=zwE h zs ss k signals hv
  unfold zm8 at hz
  split at hz
  ·have ho:=zBF h r (zfx len e) e.slo (mvF m zs ss k signals b) (by rw [hbd.1];exact hv.lane) _ _ _ z hz
   have h1:=zcX h ho.on
   have h2:=ho.lo
   have h3:=ho.le
   have h4:=ho.hi
   exact ⟨by omega,by omega,by omega,by omega⟩
  ·cases hz
 ·obtain ⟨b,hb,hx⟩:=List.mem_flatMap.1 hx
  unfold zfb at hx
  split at hx
  ·simp only [List.mem_singleton] at hx
   subst hx
   exact ⟨by simp,by simp,by simp,by simp⟩
  ·cases hx
theorem zux {m:zD} {zs:List Zon} {ss:List Sgn} (hf:zmq m zs ss) {r:List Int} (hr:zdA m r=0) (len:Int) (hn:0<=len/\len<=20000) (k:zci) (hk:k.blobs.length<=200000000) (ht:0<=k.tick/\k.tick<=1099511628776) (he:znd k.ego) (hvb:∀ b∈k.blobs,VB m b) (act:Int) (ha:zk0 act) (signals:Bool) :
  R L Cs zl7 [.a (zh m r len),.a (zG k),W act,Bo signals] []=some (.t [.a (zG (zpg m zs ss r len k (zaN m r k.ego act) signals)),.c (.rslice (zbf (zhp (zlg (zfV m zs ss r len k (zaN m r k.ego act) signals)))))],[]):=by
 have h:=hf.good
 obtain ⟨hon,hne,hl8⟩:=zg1 h hr
 have hr2:=zlP hf.shal hr
 obtain ⟨x0,r',rfl⟩:∃ x r',r=x::r':=by cases r with |nil=>exact absurd rfl hne |cons x r'=>exact ⟨x,r',rfl⟩
 have hx0:=hon x0 (List.mem_cons_self ..)
 have hD:=zvQ h x0 r' len hx0 k.ego he act ha
 have s1:=zge h r' hx0 act k.ego.vlo
 have s2:=zge h r' hx0 act k.ego.vhi
 have hes:=he.s
 have hbl:=zne hf.shal zs ss hr2 len k (zaN m (x0::r') k.ego act) signals hk
 have hok:=zsI h zs ss (x0::r') len k (zaN m (x0::r') k.ego act) signals hvb
 have hb1:0<=(zaN m (x0::r') k.ego act).slo/\(zaN m (x0::r') k.ego act).slo<=1099511630000/\0<=(zaN m (x0::r') k.ego act).shi/\(zaN m (x0::r') k.ego act).shi<=1099511630000:=by
  simp only [zaN];omega
 have hsw:(zfV m zs ss (x0::r') len k (zaN m (x0::r') k.ego act) signals).length<=2400000100:=by
  have h1:=zoA hf.shal zs ss (x0::r') (zfx len (zaN m (x0::r') k.ego act)) (zaN m (x0::r') k.ego act).slo len k signals (zkr m k.ego len (x0::r') k.blobs)
  have h2:=zij m k.ego len hr2 k.blobs
  unfold zfV
  omega
 unfold zpg
 generalize zaN m (x0::r') k.ego act=e at *
 have hp:2 ^ (x0::r').length<=4:=Nat.pow_le_pow_right (by decide) hr2
 have hO1:=zor h (x0::r') hl8 hon len k.ego (by omega) hn k.blobs (by
  refine Nat.le_trans (Nat.mul_le_mul hk hp) (by decide))
 have hJl:=zkq (zex m zs ss (x0::r') len k e signals)
 have hO2:=zor h (x0::r') hl8 hon len e (by omega) hn (zcz (zex m zs ss (x0::r') len k e signals)) (by
  refine Nat.le_trans (Nat.mul_le_mul (Nat.le_trans hJl hbl) hp) (by decide))
 have hJ:=zso (zex m zs ss (x0::r') len k e signals) (by omega) hok
 have hbar:-4000000000000<=zfx len e/\zfx len e<=4000000000000:=by unfold zfx;omega
 have hly:ziO m (x0::r') (zfx len e):=⟨h,hl8,hon,hbar⟩
 have how:=zij m k.ego len hr2 k.blobs
 have hvo:=ztK k.ego len (x0::r') k.blobs hvb
 generalize zkr m e len (x0::r') (zcz (zex m zs ss (x0::r') len k e signals))=out at *
 generalize zcz (zex m zs ss (x0::r') len k e signals)=jn at *
 unfold zex at hJ hbl
 unfold zfV at hsw ⊢
 generalize zkr m k.ego len (x0::r') k.blobs=ow at *
 have h3:=zwe hf hly len hn e k he ow hvo (by omega) signals ow 0 [] [] rfl (Nat.zero_le _) (by simp) (by simp)
 have hTg:∀ (i:Nat) (hi:i<(srT m).length),(srT m)[i]=decide (zes (i:Int) 0 m.lanes=[]):=zBi m
 have h4:=zwd h x0 r' len (zfx len e) e k (zhM m zs ss (x0::r') (zfx len e) e.slo len k signals ow) (srT m) (zxq m) hTg m.lanes 0 (zgt m zs ss (x0::r') (zfx len e) e.slo len k signals ow) rfl (Nat.zero_le _) (by have:=h.small.lanes;rw [List.length_append] at hbl;omega)
 have e0:(x0::r').getD 0 0=x0:=rfl
 rw [e0] at hJ hbl
 generalize zgt m zs ss (x0::r') (zfx len e) e.slo len k signals ow++(zbK m 0 m.lanes).flatMap (zfb m x0 (zfx len e))=bl at *
 generalize hSA:zgt m zs ss (x0::r') (zfx len e) e.slo len k signals ow=sa at *
 generalize zhM m zs ss (x0::r') (zfx len e) e.slo len k signals ow=sw at *
 have w1:IntKind.i64.wrap (e.shi-len)=e.shi-len:=zl _ (by omega) (by omega)
 have w2:IntKind.i64.wrap (e.shi-len-1)=e.shi-len-1:=zl _ (by omega) (by omega)
 have w3:IntKind.i64.wrap (k.tick+1)=k.tick+1:=zl _ (by omega) (by omega)
 simp only [zfx,zh,zi,zch,zm,zG,List.cons_append,List.nil_append,zaP] at hD hO1 hO2 h3 h4
 simp only [s3E,s4E,stM,bsC,swW,zdQ,own,zfx,zaP,zox,List.nil_append,zh,zi,zch,zm,zG,List.cons_append,List.nil_append,Int.natCast_zero,zmB,zgg,List.length_nil,zic,zoB] at h3 h4
 by_cases c:sw=[]
 ·subst c
  have hS:=zvU 0
  have hC:R L Cs zeD [.c (.slice 0 0 4 0 0 none)] [swB 0 []]=some (.w (.c (.slice 0 0 4 0 0 none)),[swB 0 []]):=by
   rw [z4 zcq rfl]
   simp [zbk,zg]
  have e3:zlg []=[]:=List.length_eq_zero_iff.1 (by rw [zhh];rfl)
  have e2:zhp (zlg [])=[]:=by rw [e3];rfl
  simp only [swB,swS,List.length_nil,zoB] at hS hC h4
  rw [e2,z4 zhx rfl]
  simp (maxSteps:=3000000) [zcT,zh,zi,zch,zm,zG,hD,hO1,hO2,h3,h4,hJ,hS,hC,w1,w2,w3,zg,zX]
 ·have hS:=zB0 sw (by omega) c sw.length
  obtain ⟨C,v',c1,c2,c3,c4,c5,hC⟩:=zrS (zlg sw) (by rw [zhh];omega) (sw.length+1)
  rw [zhh] at c1 c5
  simp only [swB,swS,zhh,c1] at hS hC
  have c2':=congrArg zbf c2
  rw [<-zwp] at c2'
  generalize zhp (zlg sw)=q at *
  rw [z4 zhx rfl]
  have hql:q.length<=sw.length:=c5
  have hqC:q.length<=C.length:=by rw [c1];exact c5
  by_cases qv:v'=sw.length+1
  ·have eC:=c4 qv
   subst eC
   subst qv
   simp (maxSteps:=3000000) [zcT,zh,zi,zch,zm,zG,hD,hO1,hO2,h3,h4,hJ,hS,hC,w1,w2,w3,zg,zhh,hql,zX,c2',c5]
  ·simp (maxSteps:=3000000) [zcT,zh,zi,zch,zm,zG,hD,hO1,hO2,h3,h4,hJ,hS,hC,w1,w2,w3,zg,qv,hqC,zX,c2',c5]
def zm6 (m:zD) (r:List Int) (len:Int) (k:zci) (act:Int):Int :=
 if zdf m k=0 then (if zdA m r=0 then (if (300<=len/\len<=20000)/\k.tick≠1099511627776/\(zaN m r k.ego act).shi<=1099511627776 then 0 else 2) else 13) else zdf m k
def zsH (m:zD) (zs:List Zon) (ss:List Sgn) (r:List Int) (len:Int) (k:zci) (act:Int) (signals:Bool):AV :=
 if zm6 m r len k act=0 then .t [.a (zG (zpg m zs ss r len k (zaN m r k.ego act) signals)),.c (.rslice (zbf (zhp (zlg (zfV m zs ss r len k (zaN m r k.ego act) signals))))),W 0]
 else .t [.a (zG ⟨0,[],⟨0,0,0,0⟩⟩),.c (.rslice []),W (zm6 m r len k act)]
theorem zte {m:zD} {k:zci} (h:zdf m k=0):znd k.ego/\0<=k.tick/\k.tick<=1099511627776:=by
 unfold zdf at h
 split at h
 ·cases h
 ·rename_i ho
  unfold ziI zsa at ho
  exact ⟨⟨by omega,by omega⟩,by omega,by omega⟩
theorem zvN {m:zD} {zs:List Zon} {ss:List Sgn} (hf:zmq m zs ss) (r:List Int) (hl:r.length<=1000) (len:Int) (k:zci) (hk:k.blobs.length<=100000000000) (act:Int) (ha:zk0 act) (signals:Bool) :
  R L Cs zuc [.a (zf m),.c (.rslice (zu r)),W len,.a (zG k),W act,Bo signals] []=some (zsH m zs ss r len k act signals,[]):=by
 have h:=hf.good
 have h2:=zuu h k (by omega)
 have h3:=zos m h.small h.chk r hl
 have h4:=zCY len
 unfold zsH
 rw [z4 zuA rfl]
 by_cases c1:zdf m k=0
 ·by_cases c2:zdA m r=0
  ·obtain ⟨he,ht⟩:=zte c1
   have hA:=zB9 h c2 len
   obtain ⟨hon,hne,hl8⟩:=zg1 h c2
   have hD:R L Cs zgW [.a (zh m r len),.a (zch k.ego),W act] []=some (.w (.a (zch (zaN m r k.ego act))),[]):=by
    cases r with
    |nil=>exact absurd rfl hne
    |cons x r'=>exact zvQ h x r' len (hon x (List.mem_cons_self ..)) k.ego he act ha
   have hS:=fun hn=>zux hf c2 len hn k (zvx h hf.shal c1) ⟨ht.1,by omega⟩ he (zxJ h c1) act ha signals
   rw [c1] at h2
   rw [c2] at h3
   simp only [zm6,c1,c2,if_true]
   generalize zpg m zs ss r len k (zaN m r k.ego act) signals=out at *
   generalize zhp (zlg (zfV m zs ss r len k (zaN m r k.ego act) signals))=sw at *
   generalize zaN m r k.ego act=e at *
   simp only [zf,zG,zch,zh,zi] at h2 h3 hA hD hS
   by_cases c3:300<=len
   ·by_cases c4:len<=20000
    ·by_cases c5:k.tick=1099511627776
     ·have c5t:(k.tick==1099511627776)=true:=by simp [c5]
      have c5e:(k.tick=1099511627776)=True:=eq_true c5
      simp (maxSteps:=1000000) [zdi,zf,zG,zch,zh,zi,h2,h3,h4,hA,hD,c3,c4,c5t,c5e,zg,zX]
     ·have c5':(k.tick==1099511627776)=false:=by simp [c5]
      by_cases c6:e.shi<=1099511627776
      ·have hS':=hS ⟨by omega,c4⟩
       have c6':¬1099511627776<e.shi:=by omega
       simp (maxSteps:=1000000) [zdi,zf,zG,zch,zh,zi,h2,h3,h4,hA,hD,hS',c3,c4,c5,c5',c6,c6',zg,zX]
      ·have c6':1099511627776<e.shi:=by omega
       simp (maxSteps:=1000000) [zdi,zf,zG,zch,zh,zi,h2,h3,h4,hA,hD,c3,c4,c5,c5',c6,c6',zg,zX]
    ·simp (maxSteps:=1000000) [zdi,zf,zG,zch,zh,zi,h2,h3,h4,hA,c3,c4,zg,zX]
   ·simp (maxSteps:=1000000) [zdi,zf,zG,zch,zh,zi,h2,h3,h4,hA,c3,zg,zX]
  ·have b2:(zdA m r==0)=false:=by simp [c2]
   rw [c1] at h2
   simp only [zm6,c1,c2,if_true,if_false]
   simp only [zf,zG] at h2 h3
   simp [zdi,zf,zG,h2,h3,c2,b2,zg,zX]
 ·have b1:(zdf m k==0)=false:=by simp [c1]
  simp only [zm6,c1,if_false]
  simp only [zf,zG] at h2
  simp [zdi,zf,zG,h2,c1,b1,zg,zX]
def Apt (p b:zk):Prop:=p.lane<b.lane\/(p.lane=b.lane/\p.hi+1<b.lo)
theorem zFx {m:zD} {b:zk} (h:VB m b):¬out2 m b:=by
 have h1:=h.lo
 have h2:=h.le
 have h3:=h.hi
 have h4:=h.vlo
 have h5:=h.vle
 have h6:=h.vhi
 have h7:=h.hold
 unfold out2
 omega
theorem zFo {m:zD} (hg:zcp m) {b:zk} (h:VB m b):OKB b:=by
 have h0:=zcX hg h.lane
 have h1:=h.lo
 have h2:=h.le
 have h3:=h.hi
 exact ⟨by omega,by omega,by omega,by omega⟩
theorem zED {m:zD}:∀ (l:List zk) (p:zk),(∀ b∈l,VB m b)->l.Pairwise Apt->(∀ b∈l,¬zmM p b)->zls m p l=0
 |[],_,_,_,_=>rfl
 |x::l,p,hv,ha,hp=>by
  rw [List.pairwise_cons] at ha
  have hx:=hv x (List.mem_cons_self ..)
  have hl:=hx.lane
  have h0:zer m p x=0:=by
   unfold zer
   rw [if_neg (by omega),if_neg (zFx hx),if_neg (hp x (List.mem_cons_self ..))]
  unfold zls
  rw [if_neg (by simp [h0])]
  refine zED l x (fun b hb=>hv b (List.mem_cons_of_mem _ hb)) ha.2 fun b hb=>?_
  have:=ha.1 b hb
  unfold Apt at this
  unfold zmM
  omega
theorem zFt {m:zD} {a b:zk} (ha:VB m a) (hb:VB m b) (hl:a.lane=b.lane):VB m (glue a b):=by
 have a1:=ha.lo
 have a2:=ha.le
 have a3:=ha.hi
 have a4:=ha.vlo
 have a5:=ha.vle
 have a6:=ha.vhi
 have a7:=ha.hold
 rw [hl] at a3 a6 a7
 have b3:=hb.hi
 have b4:=hb.vlo
 have b5:=hb.vle
 have b6:=hb.vhi
 have b7:=hb.hold
 refine ⟨hb.lane,a1,?_,?_,?_,?_,?_,?_⟩
 ·show a.lo<=max a.hi b.hi;omega
 ·show max a.hi b.hi<=z8 m b.lane;omega
 ·show 0<=min a.vlo b.vlo;omega
 ·show min a.vlo b.vlo<=max a.vhi b.vhi;omega
 ·show max a.vhi b.vhi<=zeR (zaK m b.lane);omega
 ·show 0<=(if a.hold=0\/b.hold=0 then 0 else max a.hold b.hold)/\(if a.hold=0\/b.hold=0 then 0 else max a.hold b.hold)<=z8 m b.lane
  split<;>omega
theorem zEw (init:List zk) (a b:zk):zcP (init++[a]) b=if far a b=false then init++[glue a b] else init++[a]++[b]:=by
 have e:(init++[a]).getD ((init++[a]).length-1) z9=a:=by simp [List.getD_eq_getElem?_getD]
 unfold zcP
 rw [e]
 by_cases c:far a b=false
 ·rw [if_pos ⟨by simp,c⟩,if_pos c]
  simp
 ·rw [if_neg (fun h=>c h.2),if_neg c]
theorem zEu {m:zD}:∀ (l init:List zk) (a:zk),(a::l).Pairwise leB->(∀ b∈l,VB m b)->(∀ o∈init++[a],VB m o)->(init++[a]).Pairwise Apt ->
  (∀ o∈l.foldl zcP (init++[a]),VB m o)/\(l.foldl zcP (init++[a])).Pairwise Apt
 |[],init,a,_,_,h1,h2=>⟨h1,h2⟩
 |b::l,init,a,hs,hv,h1,h2=>by
  rw [List.pairwise_cons] at hs
  have hbl:=hs.2
  rw [List.pairwise_cons] at hbl
  have hab:=hs.1 b (List.mem_cons_self ..)
  have hb:=hv b (List.mem_cons_self ..)
  have ha:=h1 a (by simp)
  rw [List.foldl_cons,zEw]
  have hfar:far a b=false<->(a.lane=b.lane/\b.lo<=a.hi+1):=by
   unfold far
   by_cases c:a.lane=b.lane
   ·simp [c];omega
   ·simp [c]
  by_cases c:far a b=false
  ·rw [if_pos c]
   have hc:=hfar.1 c
   refine zEu l init (glue a b) ?_ (fun x hx=>hv x (List.mem_cons_of_mem _ hx)) ?_ ?_
   ·rw [List.pairwise_cons]
    refine ⟨fun x hx=>?_,hbl.2⟩
    have hbx:=hbl.1 x hx
    unfold leB at hab hbx ⊢
    simp only [glue]
    omega
   ·intro o ho
    rcases List.mem_append.1 ho with ho |ho
    ·exact h1 o (List.mem_append_left _ ho)
    ·rw [List.mem_singleton.1 ho]
     exact zFt ha hb hc.1
   ·rw [List.pairwise_append] at h2 ⊢
    refine ⟨h2.1,List.pairwise_singleton _ _,fun x hx y hy=>?_⟩
    rw [List.mem_singleton.1 hy]
    have:=h2.2.2 x hx a (by simp)
    unfold Apt at this ⊢
    simp only [glue]
    omega
  ·rw [if_neg c]
   have hc:¬(a.lane=b.lane/\b.lo<=a.hi+1):=fun h=>c (hfar.2 h)
   refine zEu l (init++[a]) b hs.2 (fun x hx=>hv x (List.mem_cons_of_mem _ hx)) ?_ ?_
   ·intro o ho
    rcases List.mem_append.1 ho with ho |ho
    ·exact h1 o ho
    ·rw [List.mem_singleton.1 ho];exact hb
   ·rw [List.pairwise_append]
    refine ⟨h2,List.pairwise_singleton _ _,fun x hx y hy=>?_⟩
    rw [List.mem_singleton.1 hy]
    have hA:Apt a b:=by
     unfold Apt
     unfold leB at hab
     omega
    rcases List.mem_append.1 hx with hx |hx
    ·have:=(List.pairwise_append.1 h2).2.2 x hx a (by simp)
     have a2:=ha.le
     unfold Apt at this hA ⊢
     omega
    ·rw [List.mem_singleton.1 hx];exact hA
theorem zEl {m:zD} (l:List zk) (h:∀ b∈l,VB m b):(∀ o∈zcz l,VB m o)/\(zcz l).Pairwise Apt:=by
 have hm:∀ x∈l.foldl zb5 [],x∈l:=fun x hx=>(zuL l [] x hx).resolve_right (by simp)
 have hs:(l.foldl zb5 []).Pairwise leB:=by
  rw [zpi];exact ziR _ [] List.Pairwise.nil
 unfold zcz
 generalize l.foldl zb5 []=S at *
 cases S with
 |nil=>exact ⟨by simp,List.Pairwise.nil⟩
 |cons a t =>
  have e:zcP [] a=[]++[a]:=by simp [zcP]
  rw [List.foldl_cons,e]
  refine zEu t [] a hs (fun b hb=>h b (hm b (List.mem_cons_of_mem _ hb))) ?_ ?_
  ·intro o ho
   simp at ho
   subst ho
   exact h _ (hm _ (List.mem_cons_self ..))
  ·simp
theorem zE1 {x fr to:Int} {b:zk}:∀ z∈zoX x fr to b,z.lane=b.lane/\b.lo<=z.lo/\z.hi<=b.hi:=by
 intro z hz
 unfold zoX at hz
 split at hz
 ·simp only [List.mem_singleton] at hz;subst hz;exact ⟨rfl,Int.le_refl _,Int.le_refl _⟩
 ·rename_i hc
  rcases List.mem_append.1 hz with hz |hz
  ·split at hz
   ·simp only [List.mem_singleton] at hz
    subst hz
    exact ⟨rfl,Int.le_refl _,by show fr-1<=b.hi;omega⟩
   ·cases hz
  ·split at hz
   ·simp only [List.mem_singleton] at hz
    subst hz
    exact ⟨rfl,by show b.lo<=to+1;omega,Int.le_refl _⟩
   ·cases hz
theorem zFm (x fr to:Int) (b:zk):(zoX x fr to b).Pairwise Apt:=by
 unfold zoX
 split
 ·exact List.pairwise_singleton _ _
 ·rename_i hc
  split
  ·split
   ·simp only [List.singleton_append,List.pairwise_cons,List.mem_singleton,forall_eq,List.not_mem_nil,false_imp_iff,implies_true,List.Pairwise.nil,and_true]
    exact .inr ⟨rfl,by show fr-1+1<to+1;omega⟩
   ·simp
  ·split<;>simp
theorem zE0 {x fr to:Int}:∀ (l:List zk),∀ z∈zhn x fr to l,∃ b∈l,z.lane=b.lane/\b.lo<=z.lo/\z.hi<=b.hi
 |[],z,hz=>by cases hz
 |b::l,z,hz=>by
  unfold zhn at hz
  rcases List.mem_append.1 hz with hz |hz
  ·exact ⟨b,List.mem_cons_self ..,zE1 z hz⟩
  ·obtain ⟨c,hc,h⟩:=zE0 l z hz
   exact ⟨c,List.mem_cons_of_mem _ hc,h⟩
theorem zEN (x fr to:Int):∀ (l:List zk),l.Pairwise Apt->(zhn x fr to l).Pairwise Apt
 |[],_=>List.Pairwise.nil
 |b::l,h=>by
  rw [List.pairwise_cons] at h
  unfold zhn
  rw [List.pairwise_append]
  refine ⟨zFm x fr to b,zEN x fr to l h.2,fun y hy z hz=>?_⟩
  obtain ⟨h1,h2,h3⟩:=zE1 y hy
  obtain ⟨c,hc,g1,g2,g3⟩:=zE0 l z hz
  have:=h.1 c hc
  unfold Apt at this ⊢
  omega
theorem zEK (m:zD) (e:Ego) (len:Int):∀ (r:List Int) (a:Int) (l:List zk),l.Pairwise Apt->(zpO m e len a r l).Pairwise Apt
 |[],_,l,h=>h
 |x::r,a,l,h=>zEK m e len r _ _ (zEN _ _ _ l h)
theorem zFg (m:zD) (e:Ego) (len:Int) (r:List Int) (l:List zk) (h:l.Pairwise Apt):(zkr m e len r l).Pairwise Apt:=by
 unfold zkr
 split
 ·exact zEK m e len r 0 l h
 ·exact h
theorem zEs {m:zD} {r:List Int} {bar:Int} {b:zk} {lo hi:Int} {cap:Bool}:∀ z∈zbA m r bar b lo hi cap,z.1.lane=b.lane:=by
 intro z hz
 unfold zbA at hz
 split at hz
 ·simp only [List.mem_singleton] at hz
  subst hz;rfl
 ·cases hz
theorem zE8 {m:zD} {r:List Int} {bar slo:Int} {b:zk} {lo hi:Int} {cap:Bool}:∀ z∈zlZ m r bar slo b lo hi cap,z.1.lane=b.lane\/z.1.lane∈zS m b.lane:=by
 intro z hz
 unfold zlZ at hz
 rcases List.mem_append.1 hz with hz |hz
 ·exact .inl (zEs z hz)
 ·split at hz
  ·cases hz
  ·obtain ⟨x,hx,hz⟩:=List.mem_flatMap.1 hz
   exact .inr (by rw [zEs z hz];exact hx)
theorem zFE {m:zD} {zs:List Zon} {ss:List Sgn} (hf:zmq m zs ss) {lane tick l:Int} (h:l∈zeA zs ss lane tick):0<=l/\l<=z8 m lane:=by
 unfold zeA at h
 obtain ⟨z,hz,hl⟩:=List.mem_flatMap.1 h
 rcases zlX ss lane tick z with e |⟨p,hp,e⟩
 ·rw [e] at hl;cases hl
 ·rw [e] at hl
  simp only [List.mem_singleton] at hl
  subst hl
  have h1:=List.find?_some hp
  have h2:=List.mem_of_find?_eq_some hp
  simp only [decide_eq_true_eq] at h1
  obtain ⟨_,a1,a2,a3,_⟩:=hf.pv z hz p h2
  rw [h1] at a3
  omega
theorem zFi {m:zD} {zs:List Zon} {ss:List Sgn} (hf:zmq m zs ss) (k:zci) (signals:Bool) {b:zk} (hb:VB m b):0<=(mvF m zs ss k signals b).hold/\(mvF m zs ss k signals b).hold<=z8 m b.lane:=by
 have a1:=hb.lo
 have a2:=hb.le
 have a3:=hb.hi
 show 0<=((if signals then (zeA zs ss b.lane k.tick).find? (zcY m b) else none)).getD 0/\((if signals then (zeA zs ss b.lane k.tick).find? (zcY m b) else none)).getD 0<=z8 m b.lane
 split
 ·cases h:(zeA zs ss b.lane k.tick).find? (zcY m b) with
  |none=>simp;omega
  |some l=>simpa using zFE hf (List.mem_of_find?_eq_some h)
 ·simp;omega
theorem zE4 {m:zD} {zs:List Zon} {ss:List Sgn} (hf:zmq m zs ss) (r:List Int) (len:Int) (k:zci) (e:Ego) (signals:Bool) (hvb:∀ b∈k.blobs,VB m b):∀ x∈zex m zs ss r len k e signals,VB m x:=by
 have h:=hf.good
 intro x hx
 unfold zex at hx
 rcases List.mem_append.1 hx with hx |hx
 ·unfold zgt at hx
  obtain ⟨b,hb,hx⟩:=List.mem_flatMap.1 hx
  obtain ⟨z,hz,rfl⟩:=List.mem_map.1 hx
  have hv:=ztK k.ego len r k.blobs hvb b hb
  have hbd:=zwE h zs ss k signals hv
  have hmo:=zqQ h hv
  have hho:=zFi hf k signals hv
  have hvl:(mvF m zs ss k signals b).vlo=zcW m b:=rfl
  have hvh:(mvF m zs ss k signals b).vhi=zde m b:=rfl
  unfold zm8 at hz
  split at hz
  ·have ho:=zBF h r (zfx len e) e.slo (mvF m zs ss k signals b) (by rw [hbd.1];exact hv.lane) _ _ _ z hz
   have hl:=zE8 z hz
   rw [hbd.1] at hl
   have hk:zaK m z.1.lane=zaK m b.lane:=by
    rcases hl with hl |hl
    ·rw [hl]
    ·exact hf.shal.kn _ _ hl
   have hf2:zde m b<=zeR (zaK m b.lane):=by unfold zde;omega
   refine ⟨ho.on,ho.lo,ho.le,ho.hi,?_,?_,?_,?_⟩
   ·rw [ho.vlo,hvl];exact hmo.s.1
   ·rw [ho.vlo,ho.vhi,hvl,hvh];exact hmo.sf
   ·rw [ho.vhi,hvh,hk];exact hf2
   ·rcases ho.hold with ⟨h1,h2⟩ |h2
    ·rw [h2,h1,hbd.1];exact hho
    ·rw [h2]
     have h3:=ho.lo
     have h4:=ho.le
     have h5:=ho.hi
     omega
  ·cases hz
 ·obtain ⟨b,hb,hx⟩:=List.mem_flatMap.1 hx
  obtain ⟨j,hj,hbj,_⟩:=(zqS m b m.lanes 0).1 hb
  unfold zfb at hx
  split at hx
  ·simp only [List.mem_singleton] at hx
   subst hx
   have hl:0<=b/\b<m.lanes.length:=by rw [hbj];omega
   have h1:=zcX h hl
   have ht:=tops (zu9 h hl)
   exact ⟨hl,Int.le_refl _,Int.le_refl _,by show 0<=z8 m b;omega,Int.le_refl _,by show 0<=zeR (zaK m b);omega,Int.le_refl _,by show (0:Int)<=0/\0<=z8 m b;omega⟩
  ·cases hx
theorem zEJ (m:zD) (r:List Int) (act:Int) {v w:Int} (h:v<=w):zcD m r act v<=zcD m r act w:=by
 unfold zcD;omega
theorem zEH {m:zD} {zs:List Zon} {ss:List Sgn} (hf:zmq m zs ss) {r:List Int} (hr:zdA m r=0) (len:Int) (k:zci) (act:Int) (signals:Bool) (hc:zdf m k=0) (ht:k.tick≠1099511627776) (hd:(zaN m r k.ego act).shi<=1099511627776) :
  zdf m (zpg m zs ss r len k (zaN m r k.ego act) signals)=0:=by
 have h:=hf.good
 obtain ⟨he,ht2⟩:=zte hc
 obtain ⟨hon,hne,hl8⟩:=zg1 h hr
 have hvb:=zxJ h hc
 obtain ⟨j1,j2⟩:=zEl _ (zE4 hf r len k (zaN m r k.ego act) signals hvb)
 have o1:=ztK (m:=m) (zaN m r k.ego act) len r _ j1
 have o2:=zFg m (zaN m r k.ego act) len r _ j2
 have hes:=he.s
 have hev:=he.v
 unfold zdf
 rw [if_neg]
 ·refine zED _ _ o1 o2 fun b hb=>?_
  have:=(o1 b hb).lane
  simp only [zmM,zqY]
  omega
 ·obtain ⟨x0,r',rfl⟩:∃ x r',r=x::r':=by cases r with |nil=>exact absurd rfl hne |cons x r'=>exact ⟨x,r',rfl⟩
  have hx0:=hon x0 (List.mem_cons_self ..)
  have s1:=zge h r' hx0 act k.ego.vlo
  have s2:=zge h r' hx0 act k.ego.vhi
  have s3:=zEJ m (x0::r') act hev.2.1
  simp only [ziI,zpg,zaN,zsa] at hd ⊢
  omega
theorem zFl (m:zD):∀ (f:Nat) (a:Int) (n:Nat),goF m a (goR m f a n)=true
 |0,_,_=>rfl
 |f+1,a,n=>by
  unfold goR
  split
  ·rfl
  ·rename_i h
   have hi:n % (zS m a).length<(zS m a).length:=Nat.mod_lt _ (by omega)
   have e:(zS m a).getD (n % (zS m a).length) 0=(zS m a)[n % (zS m a).length]:=by simp [List.getD_eq_getElem?_getD,hi]
   have hm:(zS m a).getD (n % (zS m a).length) 0∈zS m a:=by rw [e];exact List.getElem_mem hi
   unfold goF
   rw [zFl m f]
   rw [Bool.and_true]
   exact decide_eq_true hm
theorem zEY {m:zD} {x:Int}:∀ (l:List zfn) (i:Nat),(∀ (j:Nat) (h:j<l.length),x∉l[j].next)->zes x i l=[]
 |[],_,_=>rfl
 |z::l,i,h=>by
  unfold zes
  rw [if_neg (show ¬x∈z.next from h 0 (Nat.zero_lt_succ _))]
  exact zEY (m:=m) l (i+1) fun j hj=>h (j+1) (Nat.succ_lt_succ hj)
theorem zFr {m:zD} (hs:zmX m) (hp:0<m.lanes.length):zbK m 0 m.lanes≠[]:=by
 intro h
 have:(0:Int)∈zbK m 0 m.lanes:=by
  rw [zqS]
  refine ⟨0,hp,rfl,zEY (m:=m) _ 0 fun j hj hx=>?_⟩
  have hx':(0:Int)∈zS m (j:Int):=by simpa [zS,hj] using hx
  have:=hs.up _ _ hx'
  omega
 rw [h] at this
 cases this
theorem zE5 {m:zD} {zs:List Zon} {ss:List Sgn} (hf:zmq m zs ss) (hp:0<m.lanes.length) (k:Int):zdA m (zDT m k)=0:=by
 have hne:=zFr hf.shal hp
 have hl:=zEm m k
 have hmem:∀ i,i<(zbK m 0 m.lanes).length->(zbK m 0 m.lanes).getD i 0∈zbK m 0 m.lanes:=fun i hi=>by
  have e:(zbK m 0 m.lanes).getD i 0=(zbK m 0 m.lanes)[i]:=by simp [List.getD_eq_getElem?_getD,hi]
  rw [e];exact List.getElem_mem hi
 have hlen:0<(zbK m 0 m.lanes).length:=List.length_pos_iff.2 hne
 have h0:=hmem ((k % 1048576).toNat % (zbK m 0 m.lanes).length) (Nat.mod_lt _ hlen)
 unfold zDT at hl ⊢
 rw [if_neg hne] at hl ⊢
 generalize (zbK m 0 m.lanes).getD ((k % 1048576).toNat % (zbK m 0 m.lanes).length) 0=x at *
 have hg:=zFl m 7 x ((k % 1048576).toNat / (zbK m 0 m.lanes).length)
 generalize goR m 7 x ((k % 1048576).toNat / (zbK m 0 m.lanes).length)=t at *
 obtain ⟨j,hj,hxj,hb⟩:=(zqS m x m.lanes 0).1 h0
 simp only [List.length_cons] at hl
 simp only [zdA]
 rw [if_neg (by omega),if_neg (by omega),if_neg (by omega),if_neg (by simpa using hb),if_pos hg]
theorem zEE {m:zD} (h:zcp m) (hne:0<m.lanes.length) (x:Bit):VB m (zDN m x):=by
 have f:=zEA h hne x
 have h1:=f.lo
 have h2:=f.le
 have h3:=f.hi
 have h4:=f.hold
 exact ⟨f.lane,f.lo,f.le,f.hi,f.vlo,f.vle,f.vhi,by omega⟩
theorem zFv {m:zD} {k:zci} (ho:¬ziI k) (hv:∀ b∈k.blobs,VB m b) (ha:k.blobs.Pairwise Apt):zdf m k=0:=by
 unfold zdf
 rw [if_neg ho]
 refine zED _ _ hv ha fun b hb=>?_
 have:=(hv b hb).lane
 simp only [zmM,zqY]
 omega
theorem zFu {m:zD} (h:zcp m) (q:List Int) (hq:q.length<=8) (hon:zj2 m q):0<=zmd m 0 q/\zmd m 0 q<=8000000:=by
 have:=zEC h q 0 hon (Int.le_refl _)
 omega
theorem zEM {m:zD} (h:zcp m) (hne:0<m.lanes.length) (q:List Int) (hq:q.length<=8) (hon:zj2 m q) (l:List Bit) (t s v sp:Int):zdf m (zD1 m q l t s v sp)=0/\(zD1 m q l t s v sp).tick<=1000/\(zD1 m q l t s v sp).ego.shi<=8000000:=by
 have hv:∀ b∈l.map (zDN m),VB m b:=by
  intro b hb
  obtain ⟨x,_,rfl⟩:=List.mem_map.1 hb
  exact zEE h hne x
 obtain ⟨j1,j2⟩:=zEl _ hv
 have he:=zFu h q hq hon
 have hL:0<=(if zdA m q=0 then zmd m 0 q else 0)/\(if zdA m q=0 then zmd m 0 q else 0)<=8000000:=by split<;>omega
 generalize hLL:(if zdA m q=0 then zmd m 0 q else 0)=L at *
 have r1:=zDJ s (L+1) (by omega)
 have r2:=zDJ v 2001 (by omega)
 have r3:=zDJ sp 2000 (by omega)
 refine ⟨zFv ?_ j1 j2,?_,?_⟩
 ·simp only [ziI,zD1,zEo,zsa,hLL]
  omega
 ·simp only [zD1];omega
 ·simp only [zD1,zEo,hLL];omega
theorem zFw {a b:zk} (h:Apt a b) (hv:a.lo<=a.hi):leB a b:=by
 unfold Apt at h
 unfold leB
 omega
theorem zE7 {l k:List zk} (h:l.Perm k):zcz l=zcz k:=by
 have hs:((k.filter fun b=>!bad b).foldl zfK []).Pairwise leB:=ziR _ [] List.Pairwise.nil
 have hp:((k.filter fun b=>!bad b).foldl zfK []).Perm (k.filter fun b=>!bad b):=by
  simpa using znu (k.filter fun b=>!bad b) []
 rw [<-zAi (l:=k) hp hs,<-zAi (l:=l) (hp.trans ((h.filter _).symm)) hs]
theorem zEv (init:List zk) (a b:zk) (h:Apt a b):zaQ (init++[a]) b=init++[a]++[b]:=by
 have e:(init++[a]).getD ((init++[a]).length-1) z9=a:=by simp [List.getD_eq_getElem?_getD]
 unfold zaQ
 rw [e,if_neg]
 rintro ⟨_,h2⟩
 unfold meets at h2
 unfold Apt at h
 simp only [Bool.and_eq_true,Bool.or_eq_true,decide_eq_true_eq] at h2
 omega
theorem zEz:∀ (l init:List zk) (a:zk),(a::l).Pairwise Apt->l.foldl zaQ (init++[a])=init++[a]++l
 |[],init,a,_=>by simp
 |b::l,init,a,h=>by
  rw [List.pairwise_cons] at h
  rw [List.foldl_cons,zEv init a b (h.1 b (List.mem_cons_self ..)),zEz l (init++[a]) b h.2]
  simp
theorem zFj {m:zD} {l:List zk} (hv:∀ b∈l,VB m b) (ha:l.Pairwise Apt):zcz l=l:=by
 have hs:Srt l:=ha.imp_of_mem fun h1 h2 h=>zFw h (hv _ h1).le
 have hf:l.filter (fun b=>!bad b)=l:=by
  rw [List.filter_eq_self]
  intro b hb
  have:=(hv b hb).le
  simp [bad];omega
 rw [<-zAi (l:=l) (S:=l) (by rw [hf]) hs]
 cases l with
 |nil=>rfl
 |cons a t =>
  have e:zaQ [] a=[]++[a]:=by simp [zaQ]
  rw [List.foldl_cons,e,zEz t [] a ha]
  rfl
theorem zE9 (k:Nat) (hk:k<7) (lim r o1 o2 o3 v w b t:Int):0<(zq k lim r o1 o2 o3 v w b t).lanes.length:=by
 match k,hk with
 |0,_ |1,_ |2,_ |3,_ |4,_ |5,_ |6,_=>simp [zq,zy]
theorem zFb (n:Int):∃ m zs ss,zmq m zs ss/\0<m.lanes.length/\R L Cs zY [W n] []=some (.w (.a (zf m)),[]):=by
 obtain ⟨k,lim,r,o1,o2,o3,v,w,b,t,hk,nu,hR⟩:=zA5 n
 exact ⟨_,_,_,zCE k hk nu,zE9 k hk _ _ _ _ _ _ _ _ _,hR⟩
theorem zEI {m:zD} {r:List Int} {len:Int} {k:zci} {act:Int} (h:zm6 m r len k act=0):zdf m k=0/\zdA m r=0/\(300<=len/\len<=20000)/\k.tick≠1099511627776/\(zaN m r k.ego act).shi<=1099511627776:=by
 unfold zm6 at h
 split at h
 ·rename_i h1
  split at h
  ·rename_i h2
   split at h
   ·rename_i h3;exact ⟨h1,h2,h3⟩
   ·cases h
  ·cases h
 ·rename_i h1;exact absurd h h1
structure KOk (k:zci):Prop where
 len:k.blobs.length<=100000000000
 ok:∀ b∈k.blobs,OKB b
theorem zFp {m:zD} (h:zcp m) (hs:zmX m) {k:zci} (hc:zdf m k=0):KOk k :=
 ⟨Nat.le_trans (zvx h hs hc) (by decide),fun b hb=>zFo h (zxJ h hc b hb)⟩
abbrev zEt (m:zD) (zs:List Zon) (ss:List Sgn) (r:List Int) (len:Int) (signals:Bool) (k:zci) (a:Int):zci:=zpg m zs ss r len k (zaN m r k.ego a) signals
theorem zFh {m:zD} {zs:List Zon} {ss:List Sgn} (hf:zmq m zs ss) {r:List Int} {len:Int} {k:zci} {act:Int} (h:zm6 m r len k act=0) (signals:Bool):zdf m (zEt m zs ss r len signals k act)=0:=by
 obtain ⟨h1,h2,_,h4,h5⟩:=zEI h
 exact zEH hf h2 len k act signals h1 h4 h5
theorem zD8 (l:List zk) (hl:l.length<=100000000000) (hok:∀ x∈l,OKB x):R L Cs zEB [.c (.rslice (zI l))] []=some (.w (.c (.rslice (zI (zcz l)))),[]):=by
 have h:=zso l hl hok
 rw [z4 zEG rfl]
 simp [zuk,h]
theorem zFs {p b:zk} (h:¬zmM p b):Apt p b:=by
 unfold zmM at h
 unfold Apt
 omega
theorem zEO {m:zD} (h:zcp m):∀ (r:List zk) (p:zk),zls m p r=0->r.Pairwise Apt/\∀ b∈r,Apt p b
 |[],p,_=>⟨List.Pairwise.nil,by simp⟩
 |x::r,p,hc=>by
  unfold zls at hc
  split at hc
  ·rename_i h1;exact absurd hc h1
  ·rename_i h1
   have h1:zer m p x=0:=by simpa using h1
   obtain ⟨a1,a2,a3,a4,a5,a6,a7,a8,a9,a10,_,a12⟩:=zui h h1
   have hx:=zFs a12
   obtain ⟨i1,i2⟩:=zEO h r x hc
   refine ⟨List.pairwise_cons.2 ⟨i2,i1⟩,fun b hb=>?_⟩
   rcases List.mem_cons.1 hb with rfl |hb
   ·exact hx
   ·have:=i2 b hb
    unfold Apt at this hx ⊢
    omega
theorem zFn {m:zD} (h:zcp m) {k:zci} (hc:zdf m k=0):k.blobs.Pairwise Apt:=by
 unfold zdf at hc
 split at hc
 ·cases hc
 ·exact (zEO h _ _ hc).1
theorem zFa {m:zD} (h:zcp m) {k:zci} (hc:zdf m k=0):zcz k.blobs=k.blobs:=zFj (zxJ h hc) (zFn h hc)
abbrev tvM (m:zD) (a0 a1 a2:Int) (v:Nat) (k:zci):Mem:=[bx 3 [I a0,I a1,I a2],bxv 1 5 (zf m),bxv v 6 (zG k)]
abbrev tvE (l:List Bit) (r:List Int) (len:Int) (acts:List Int) (signals:Bool) (i:Nat):Env:=[(2,.w (.c (.rslice (zDS l)))),(14,.w (.c (.rslice (zu r)))),(16,.w (W len)),(4,.w (.c (.rslice (zu acts)))),(5,.w (Bo signals)),(13,.w (Pt 1)),(15,.w (Pt 2)),(17,.w (W i))]
theorem zFe {m:zD} {zs:List Zon} {ss:List Sgn} (hf:zmq m zs ss) (l:List Bit) (r:List Int) (hr:zdA m r=0) (len:Int) (hn:300<=len/\len<=20000) (acts:List Int) (hin:∀ a∈acts,zk0 a) (hal:acts.length<=6) (signals:Bool) (a0 a1 a2:Int):∀ (t:List Int) (i:Nat) (k:zci),acts.drop i=t->i<=acts.length->zdf m k=0->k.tick<=1000+i->k.ego.shi<=8000000+2000*i ->
  ∃ k',Y L Cs zDF (some [2,14,16,4,5,13,15,17]) 3 (tvE l r len acts signals i) (tvM m a0 a1 a2 (i+1) k) =
    some (.exit 0,[(57,.w (Bo false)),(15,.w (Pt 2)),(13,.w (Pt 1)),(5,.w (Bo signals)),(4,.w (.c (.rslice (zu acts)))),(16,.w (W len)),(14,.w (.c (.rslice (zu r)))),(2,.w (.c (.rslice (zDS l)))),(17,.w (W acts.length))],tvM m a0 a1 a2 (acts.length+1) k'):=by
 intro t
 induction t with
 |nil =>
  intro i k hd hi hc ht hs
  obtain rfl:=z5 hd hi
  refine ⟨k,?_⟩
  rw [zj zDF.eq_1]
  simp
 |cons a t ih =>
  intro i k hd hi hc ht hs
  obtain ⟨hil,ha,hd'⟩:=zL hd
  have hw:=zB (i:=i) (by omega)
  have hok:=zFp hf.good hf.shal hc
  have hin':=hin acts[i] (List.getElem_mem hil)
  obtain ⟨hon,hne,hl8⟩:=zg1 hf.good hr
  have hS:=zvN hf r (by omega) len k hok.len acts[i] hin' signals
  have hdr:(zaN m r k.ego acts[i]).shi<=k.ego.shi+2000:=by
   obtain ⟨x0,r',rfl⟩:∃ x r',r=x::r':=by cases r with |nil=>exact absurd rfl hne |cons x r'=>exact ⟨x,r',rfl⟩
   have:=zge hf.good r' (hon x0 (List.mem_cons_self ..)) acts[i] k.ego.vhi
   simp only [zaN];omega
  have hE:zm6 m r len k acts[i]=0:=by
   unfold zm6
   rw [if_pos hc,if_pos hr,if_pos ⟨hn,by omega,by omega⟩]
  have hK:=zFh hf (zs:=zs) (ss:=ss) hE signals
  unfold zsH at hS
  rw [if_pos hE] at hS
  have htk:(zEt m zs ss r len signals k acts[i]).tick=k.tick+1:=rfl
  have hsk:(zEt m zs ss r len signals k acts[i]).ego=zaN m r k.ego acts[i]:=rfl
  have htl:=zte hc
  obtain ⟨k',ih'⟩:=ih (i+1) (zEt m zs ss r len signals k acts[i]) hd' hil hK (by rw [htk];omega) (by rw [hsk];omega)
  refine ⟨k',?_⟩
  rw [<-ih']
  clear ih ih'
  have hKo:=zFp hf.good hf.shal hK
  have h2:=zuu hf.good (zEt m zs ss r len signals k acts[i]) hKo.len
  have h3:=zD8 _ hKo.len hKo.ok
  have h4:=zD6 _ hKo.len
  rw [hK] at h2
  rw [zFa hf.good hK] at h3
  have w1:IntKind.i64.wrap (k.tick+1)=k.tick+1:=zl _ (by omega) (by omega)
  generalize hkk:zEt m zs ss r len signals k acts[i]=K at *
  unfold zEt at hkk
  rw [hkk] at hS
  clear hkk hsk hdr hok hKo hK
  generalize zhp (zlg (zfV m zs ss r len k (zaN m r k.ego acts[i]) signals))=sw at hS
  simp only [zf,zG,htk] at hS h2
  rw [zj zDF.eq_1]
  simp (maxSteps:=1000000) [tvE,tvM,zf,zG,hil,hw,hS,h2,h3,h4,w1,htk,zg]
abbrev zFq (m:zD) (a0 a1 a2:Int) (v:Nat) (k:zci) (p q:List zk):Mem:=[bx 3 [I a0,I a1,I a2],bxv 1 5 (zf m),bxv v 6 (zG k),some (own 6 (zI p)),some (own 6 (zI q))]
abbrev zFD (l:List Bit) (i:Nat) (p q:List zk):Env:=[(21,.w (.c (sl 3 6 (zI p)))),(22,.w (.c (sl 4 6 (zI q)))),(23,.w (W i)),(2,.w (.c (.rslice (zDS l)))),(13,.w (Pt 1))]
theorem zFd {m:zD} (h:zcp m) (hne:0<m.lanes.length) (l:List Bit) (hl:l.length<=8) (hh:∀ x∈l,zk0 x.hold) (a0 a1 a2:Int) (v:Nat) (k:zci):∀ (t:List Bit) (i:Nat),l.drop i=t->i<=l.length ->
  Y L Cs zDE (some [21,22,23,2,13]) 5 (zFD l i ((l.take i).map (zDN m)) ((l.reverse.take i).map (zDN m))) (zFq m a0 a1 a2 v k ((l.take i).map (zDN m)) ((l.reverse.take i).map (zDN m))) =
    some (.exit 2,[(103,.w (Bo false)),(21,.w (.c (sl 3 6 (zI (l.map (zDN m)))))),(22,.w (.c (sl 4 6 (zI (l.reverse.map (zDN m)))))),(23,.w (W l.length)),(2,.w (.c (.rslice (zDS l)))),(13,.w (Pt 1))],zFq m a0 a1 a2 v k (l.map (zDN m)) (l.reverse.map (zDN m))):=by
 intro t
 induction t with
 |nil =>
  intro i hd hi
  obtain rfl:=z5 hd hi
  rw [List.take_length,show l.reverse.take l.length=l.reverse from List.take_of_length_le (by simp),zj zDE.eq_1]
  simp
 |cons x t ih =>
  intro i hd hi
  obtain ⟨hil,hx,hd'⟩:=zL hd
  have hw:=zB (i:=i) (by omega)
  have hir:i<l.reverse.length:=by simpa using hil
  have e1:l.take (i+1)=l.take i++[l[i]]:=by rw [List.take_add_one,List.getElem?_eq_getElem hil];rfl
  have e2:l.reverse.take (i+1)=l.reverse.take i++[l.reverse[i]]:=by rw [List.take_add_one,List.getElem?_eq_getElem hir];rfl
  have hj:l.length-1-i<l.length:=by omega
  have e3:l.reverse[i]=l[l.length-1-i]:=by simp
  have hb1:=zEq h hne l[i] (hh _ (List.getElem_mem hil))
  have hb2:=zEq h hne l[l.length-1-i] (hh _ (List.getElem_mem hj))
  rw [<-ih (i+1) hd' hil,e1,e2,e3]
  clear ih
  have lp:((l.take i).map (zDN m)).length=i:=by simp;omega
  have lq:((l.reverse.take i).map (zDN m)).length=i:=by simp;omega
  simp only [List.map_append,List.map_cons,List.map_nil]
  generalize (l.take i).map (zDN m)=p at *
  generalize (l.reverse.take i).map (zDN m)=q at *
  have hroom:(i+1)*48<=140737488355328:=by omega
  have tp:List.take i p=p:=List.take_of_length_le (by omega)
  have tq:List.take i q=q:=List.take_of_length_le (by omega)
  have w1:IntKind.i64.wrap ((l.length:Int)-1)=(l.length:Int)-1:=zl _ (by omega) (by omega)
  have w2:IntKind.i64.wrap ((l.length:Int)-1-i)=(l.length:Int)-1-i:=zl _ (by omega) (by omega)
  obtain ⟨j,hjj⟩:∃ j:Nat,(l.length:Int)-1-i=j/\j=l.length-1-i:=⟨l.length-1-i,by omega,rfl⟩
  have hjl:j<l.length:=by omega
  have e4:l[l.length-1-i]=l[j]:=by simp [hjj.2]
  rw [e4] at hb2
  rw [e4]
  rw [hjj.1] at w2
  generalize zDN m l[i]=b1 at *
  generalize zDN m l[j]=b2 at *
  clear e1 e2 e3 e4
  simp only [zf,zEx,ze] at hb1 hb2
  rw [zj zDE.eq_1]
  simp [zFD,zFq,sl,own,lp,lq,hil,hw,w1,hjj.1,w2,hjl,zEx,ze,zf,zG,tp,tq,hb1,hb2,hroom,zg,zH]
theorem zEP {m:zD} {zs:List Zon} {ss:List Sgn} (hf:zmq m zs ss) (hp:0<m.lanes.length) (n rt a0 a1 a2:Int) (l:List Bit) (c1:l.length<=8) (hl:∀ x∈l,zk0 x.hold) (acts:List Int) (c2:acts.length<=6) (hin:∀ a∈acts,zk0 a) (signals:Bool) (hM:R L Cs zY [W n] []=some (.w (.a (zf m)),[])) :
  R L Cs zDI [W n,W rt,.c (.rslice (zDS l)),.a [I a0,I a1,I a2],.c (.rslice (zu acts)),Bo signals] []=some (.w (Bo true),[]):=by
 have hm:=hf.good
 obtain ⟨k,hR⟩:=zES hm rt
 have hK:=zFz hm hp (zDT m k) (zEm m k) l (by omega) hl a0 a1 a2 a0
 have hr:=zE5 hf hp k
 have hon:=zEy hm k
 obtain ⟨v1,v2,v3⟩:=zEM hm hp (zDT m k) (zEm m k) hon l a0 a1 a2 a0
 have hmd:=zD0 a2 5000 (by omega) (by omega)
 have hmr:=zDJ a2 5000 (by omega)
 have wl:IntKind.i64.wrap (300+a2 % 5000)=300+a2 % 5000:=zl _ (by omega) (by omega)
 obtain ⟨k',g1⟩:=zFe (zs:=zs) (ss:=ss) hf l (zDT m k) hr (300+a2 % 5000) (by omega) acts hin c2 signals a0 a1 a2 acts 0 (zD1 m (zDT m k) l a0 a1 a2 a0) rfl (Nat.zero_le _) v1 (by omega) (by omega)
 have g2:=zFd hm hp l c1 hl a0 a1 a2 (acts.length+1) k' l 0 rfl (Nat.zero_le _)
 have ok1:∀ x∈l.map (zDN m),OKB x:=by
  intro x hx
  obtain ⟨y,_,rfl⟩:=List.mem_map.1 hx
  exact zFo hm (zEE hm hp y)
 have ok2:∀ x∈l.reverse.map (zDN m),OKB x:=by
  intro x hx
  obtain ⟨y,_,rfl⟩:=List.mem_map.1 hx
  exact zFo hm (zEE hm hp y)
 have j1:=zD8 (l.map (zDN m)) (by simp;omega) ok1
 have j2:=zD8 (l.reverse.map (zDN m)) (by simp;omega) ok2
 have hpm:zcz (l.reverse.map (zDN m))=zcz (l.map (zDN m)):=zE7 ((List.reverse_perm l).map _)
 rw [hpm] at j2
 have hjl:=zkq (l.map (zDN m))
 rw [List.length_map] at hjl
 have j3:=zD6 (zcz (l.map (zDN m))) (by omega)
 have lp:(l.map (zDN m)).length=l.length:=by simp
 have lq:(l.reverse.map (zDN m)).length=l.length:=by simp
 simp only [List.take_zero,List.reverse_nil,List.map_nil] at g2
 generalize zD1 m (zDT m k) l a0 a1 a2 a0=K at *
 generalize zDT m k=rr at *
 generalize zcz (l.map (zDN m))=Q at *
 generalize l.map (zDN m)=p at *
 generalize l.reverse.map (zDN m)=q at *
 have tp:List.take l.length (zI p)=zI p:=List.take_of_length_le (by simp;omega)
 have tq:List.take l.length (zI q)=zI q:=List.take_of_length_le (by simp;omega)
 have tp2:List.take l.length p=p:=List.take_of_length_le (by omega)
 have tq2:List.take l.length q=q:=List.take_of_length_le (by omega)
 have d1:¬((8:Int)<l.length):=by omega
 have d2:¬((6:Int)<acts.length):=by omega
 have d1':¬(8<l.length):=by omega
 have d2':¬(6<acts.length):=by omega
 have ha:=zBZ
 simp only [tvE,tvM,zFD,zFq,sl,own,zgg,lp,lq,zf,zG,zic,List.length_nil,Int.natCast_zero] at hM hR hK g1 g2
 rw [z4 zDM rfl]
 simp (maxSteps:=1000000) [zb,hM,hR,hK,hmd,wl,g1,g2,j1,j2,j3,d1,d2,d1',d2',zg,zf,zG,ha,zX,tp,tq,tp2,tq2,lp,lq]
theorem zEF (n rt a0 a1 a2:Int) (l:List Bit) (hl:∀ x∈l,zk0 x.hold) (acts:List Int) (hin:∀ a∈acts,zk0 a) (signals:Bool) :
  R L Cs zDI [W n,W rt,.c (.rslice (zDS l)),.a [I a0,I a1,I a2],.c (.rslice (zu acts)),Bo signals] []=some (.w (Bo true),[]):=by
 obtain ⟨m,zs,ss,hf,hp,hM⟩:=zFb n
 have ha:=zBZ
 by_cases c1:(8:Int)<l.length
 ·have c1':8<l.length:=by omega
  rw [z4 zDM rfl]
  simp [zb,c1,c1',ha]
 by_cases c2:(6:Int)<acts.length
 ·have c1':¬8<l.length:=by omega
  have c2':6<acts.length:=by omega
  rw [z4 zDM rfl]
  simp [zb,c1,c1',c2,c2',ha]
 exact zEP hf hp n rt a0 a1 a2 l (by omega) hl acts (by omega) hin signals hM
abbrev zFC:Sh:=.st [zmN,zmN,zmN,zmN,zmN,zmN]
theorem zE2:∀ {rows:List (List Cl)},(∀ r∈rows,zfo zFC r)->∃ l,rows=zDS l/\∀ b∈l,zk0 b.hold
 |[],_=>⟨[],rfl,by simp⟩
 |r::rows,h=>by
  have h1:=h r (List.mem_cons_self ..)
  simp only [zfo,znD] at h1
  obtain ⟨_,_,rfl,⟨a1,rfl,q1⟩,_,_,rfl,⟨a2,rfl,q2⟩,_,_,rfl,⟨a3,rfl,q3⟩,_,_,rfl,⟨a4,rfl,q4⟩,_,_,rfl,⟨a5,rfl,q5⟩,_,_,rfl,⟨a6,rfl,q6⟩,rfl⟩:=h1
  obtain ⟨l,rfl,hl⟩:=zE2 fun x hx=>h x (List.mem_cons_of_mem _ hx)
  refine ⟨⟨a1,a2,a3,a4,a5,a6⟩::l,rfl,fun x hx=>?_⟩
  rcases List.mem_cons.1 hx with rfl |hx
  ·exact q6
  ·exact hl x hx
theorem zET:∀ xs,zot [zmN,zmN,.slice zFC,.st [zmN,zmN,zmN],.slice zmN,.bool] xs->∃ M',R L Cs zDI xs []=some (.w (.c (.bool true)),M'):=by
 intro xs h
 simp only [zot] at h
 obtain ⟨c1,_,rfl,h1,c2,_,rfl,h2,c3,_,rfl,h3,c4,_,rfl,h4,c5,_,rfl,h5,c6,_,rfl,h6,rfl⟩:=h
 simp only [zfo,znD] at h1 h2 h3 h4 h5 h6
 obtain ⟨n,rfl,_⟩:=h1
 obtain ⟨rt,rfl,_⟩:=h2
 obtain ⟨rows,rfl,_,hrows⟩:=h3
 obtain ⟨l,rfl,hl⟩:=zE2 (rows:=rows) (fun r hr=>by simp only [zfo,znD];exact hrows r hr)
 obtain ⟨_,_,rfl,⟨a0,rfl,_⟩,_,_,rfl,⟨a1,rfl,_⟩,_,_,rfl,⟨a2,rfl,_⟩,rfl⟩:=h4
 obtain ⟨rows',rfl,_,hrows'⟩:=h5
 obtain ⟨acts,rfl,hacts⟩:=zxB (rows:=rows') (fun r hr=>by simp only [zfo];exact hrows' r hr)
 obtain ⟨b,rfl⟩:=h6
 exact ⟨[],zEF n rt a0 a1 a2 l hl acts hacts b⟩
theorem zq2 (a:Int):R L [] zlc [W a] []=some (.w (Bo false),[]):=by
 rw [z4 zle rfl]
 simp [zfU]
theorem zn3 (a:Int):R L [] zi5 [W a] []=some (.w (Bo false),[]):=by
 rw [z4 zi9 rfl]
 simp [ze6]
theorem zuB (a b:Int):R L [] zi6 [W a,W b] []=some (.w (W (zgQ a b)),[]):=by
 have h1:=zq2 a
 have h2:=zq2 b
 rw [z4 zja rfl]
 unfold zgQ
 by_cases h:a<b
 ·simp [zb3,h1,h2,h]
 ·by_cases h':b<a
  ·simp [zb3,h1,h2,h,h']
  ·simp [zb3,h1,h2,h,h']
theorem zmv (a b:Int):R L [] zhQ [W a,W b] []=some (.w (W (zgQ a b)),[]):=by
 have h1:=zn3 a
 have h2:=zn3 b
 rw [z4 zhS rfl]
 unfold zgQ
 by_cases h:a<b
 ·simp [zbq,h1,h2,h]
 ·by_cases h':b<a
  ·simp [zbq,h1,h2,h,h']
  ·simp [zbq,h1,h2,h,h']
theorem zxz (b:Bool):R L [] zhB [Bo b] []=some (.w (W (if b then 1 else 0)),[]):=by
 rw [z4 zp4 rfl]
 cases b<;>simp [zhF]
def orI (a b c d:Int):Int:=if a=0 then (if b=0 then (if c=0 then d else c) else b) else a
abbrev orE (a b c d:Int) (i:Int):Env:=[(7,.w (W 4)),(6,.w (.c (.rslice [[I a],[I b],[I c],[I d]]))),(3,.w (W 0)),(8,.w (W i))]
theorem or0 (a b c d:Int):R L [] zob [.c (.rslice [[I a],[I b],[I c],[I d]])] []=some (.w (W (orI a b c d)),[]):=by
 have w1:IntKind.i64.wrap 1=1:=rfl
 have w2:IntKind.i64.wrap 2=2:=rfl
 have w3:IntKind.i64.wrap 3=3:=rfl
 have w4:IntKind.i64.wrap 4=4:=rfl
 have h4:Y L [] zab (some [7,6,3,8]) 0 (orE a b c d 4) []=some (.exit 0,[(9,.w (Bo false)),(3,.w (W 0)),(6,.w (.c (.rslice [[I a],[I b],[I c],[I d]]))),(7,.w (W 4)),(8,.w (W 4))],[]):=by
  rw [zj zab.eq_1]
  simp
 have h3:Y L [] zab (some [7,6,3,8]) 0 (orE a b c d 3) []=if d=0 then Y L [] zab (some [7,6,3,8]) 0 (orE a b c d 4) [] else some (.ret,[(2,.w (W d))],[]):=by
  rw [zj zab.eq_1]
  by_cases h:d=0
  ·simp [h,w4]
  ·have h':(d !=0)=true:=by simp [h]
   simp [h,h']
 have h2:Y L [] zab (some [7,6,3,8]) 0 (orE a b c d 2) []=if c=0 then Y L [] zab (some [7,6,3,8]) 0 (orE a b c d 3) [] else some (.ret,[(2,.w (W c))],[]):=by
  rw [zj zab.eq_1]
  by_cases h:c=0
  ·simp [h,w3]
  ·have h':(c !=0)=true:=by simp [h]
   simp [h,h']
 have h1:Y L [] zab (some [7,6,3,8]) 0 (orE a b c d 1) []=if b=0 then Y L [] zab (some [7,6,3,8]) 0 (orE a b c d 2) [] else some (.ret,[(2,.w (W b))],[]):=by
  rw [zj zab.eq_1]
  by_cases h:b=0
  ·simp [h,w2]
  ·have h':(b !=0)=true:=by simp [h]
   simp [h,h']
 have h0:Y L [] zab (some [7,6,3,8]) 0 (orE a b c d 0) []=if a=0 then Y L [] zab (some [7,6,3,8]) 0 (orE a b c d 1) [] else some (.ret,[(2,.w (W a))],[]):=by
  rw [zj zab.eq_1]
  by_cases h:a=0
  ·simp [h,w1]
  ·have h':(a !=0)=true:=by simp [h]
   simp [h,h']
 rw [h4] at h3
 rw [h3] at h2
 rw [h2] at h1
 rw [h1] at h0
 rw [z4 zow rfl]
 unfold orI
 by_cases c1:a=0<;>by_cases c2:b=0<;>by_cases c3:c=0<;>by_cases c4:d=0<;>simp only [c1,c2,c3,c4,if_true,if_false] at h0 ⊢<;>simp [zfw,h0]
def zoG (b:Bool):Int:=if b then 1 else 0
def zu6 (a b:Swp):Int:=orI (zgQ a.lane b.lane) (zgQ a.lo b.lo) (zgQ a.hi b.hi) (zoG a.cap-zoG b.cap)
theorem less0 (a b:Swp):R L [] zar [.a (swC a),.a (swC b)] []=some (.w (W (zu6 a b)),[]):=by
 have h1:=zuB a.lane b.lane
 have h2:=zmv a.lo b.lo
 have h3:=zmv a.hi b.hi
 have h4:R L [] zhB [Bo a.cap] []=some (.w (W (zoG a.cap)),[]):=zxz a.cap
 have h5:R L [] zhB [Bo b.cap] []=some (.w (W (zoG b.cap)),[]):=zxz b.cap
 have h6:=or0 (zgQ a.lane b.lane) (zgQ a.lo b.lo) (zgQ a.hi b.hi) (zoG a.cap-zoG b.cap)
 have w:IntKind.i64.wrap (zoG a.cap-zoG b.cap)=zoG a.cap-zoG b.cap:=by
  cases a.cap<;>cases b.cap<;>rfl
 unfold zu6
 generalize zgQ a.lane b.lane=x1 at *
 generalize zgQ a.lo b.lo=x2 at *
 generalize zgQ a.hi b.hi=x3 at *
 generalize zoG a.cap=o1 at *
 generalize zoG b.cap=o2 at *
 rw [z4 zsv rfl]
 simp [zjq,swC,h1,h2,h3,h4,h5,h6,w,zg,zX]
theorem zz5 (a b:Swp):(zu6 a b<0)<->ltS a b=true:=by
 rw [zz2]
 unfold zu6 orI zgQ zoG
 by_cases h1:a.lane<b.lane
 ·simp [h1]
 ·by_cases h2:b.lane<a.lane
  ·have:¬a.lane=b.lane:=by omega
   simp [h1,h2,this]
  ·have e1:a.lane=b.lane:=by omega
   by_cases h3:a.lo<b.lo
   ·simp [e1,h3]
   ·by_cases h4:b.lo<a.lo
    ·have:¬a.lo=b.lo:=by omega
     simp [e1,h3,h4,this]
    ·have e2:a.lo=b.lo:=by omega
     by_cases h5:a.hi<b.hi
     ·simp [e1,e2,h5]
     ·by_cases h6:b.hi<a.hi
      ·have:¬a.hi=b.hi:=by omega
       simp [e1,e2,h5,h6,this]
      ·have e3:a.hi=b.hi:=by omega
       cases a.cap<;>cases b.cap<;>simp [e1,e2,e3]
end Go.TrRun
namespace Go.Eng
open Go
theorem zsf [zb0] {P:Program} {cf:za4} (hcf:FnS P cf) {f:FuncId} (hf:f<zb0.base) {args:List WV} {vs:Array Value} {w:World} {σ:zP} {j:Inj} {M':Mem} {c:Int} (h:cf f args []=some (.w (.c (.int .i64 c)),M'))
  (hag:zM σ w) (hvs:zac σ j args vs.toList) (hm:MR (fun b=>w.heap.size<=b) σ j [] w) :
  Calls P f vs w fun e w'=>e=.returned (.int .i64 c)/\∃ q os',w'=Go.Sort.grow (w.drewN q) os':=by
 obtain ⟨_,_,_,_,hc⟩:=(hcf f args [] _ _ h (fun id hid=>by simp at hid)).1 hf
 refine Calls.mono' (hc (fun b=>w.heap.size<=b) σ j w vs (fun _ h=>h) hag hm hvs) ?_
 rintro e w' ⟨v,σ',j',rfl,hr,_,_,hst⟩
 have hr:VC σ' j' (.int .i64 c) v:=hr
 cases hr
 refine ⟨rfl,w'.drawn-w.drawn,w'.heap.extract w.heap.size w'.heap.size,?_⟩
 have h1:=hst.side.os
 have h2:=hst.side.output
 have h3:=hst.side.tape
 have h4:=hst.side.drawn
 have h5:=hst.frame
 have h6:=hst.size
 cases w' with |mk heap tape drawn os output =>
 simp only at h1 h2 h3 h4 h5 h6
 subst h1;subst h2;subst h3
 unfold Go.Sort.grow World.drewN
 simp only [World.mk.injEq,and_true,true_and]
 refine ⟨?_,by omega⟩
 apply Array.ext_getElem?
 intro i
 by_cases hi:i<w.heap.size
 ·rw [Array.getElem?_append_left hi]
  exact h5 i hi (by omega)
 ·rw [Array.getElem?_append_right (by omega),Array.getElem?_extract]
  by_cases hi2:i<heap.size
  ·rw [if_pos (by omega)]
   congr 1;omega
  ·rw [if_neg (by omega)]
   exact Array.getElem?_eq_none (by omega)
end Go.Eng
namespace Go.TrRun
open Go Go.Eng
theorem zxp (σ:zP) (j:Inj) (x:List Int):WVR σ j (.a (swC (zik x))) (.agg (ziq 4 7 x).toArray):=by
 refine ⟨_,rfl,?_⟩
 have e:(ziq 4 7 x).toArray.toList=[.int .i64 (x.getD 0 0),.int .i64 (x.getD 1 0),.int .i64 (x.getD 2 0),.bool (x.getD 3 0 !=0)]:=rfl
 rw [e]
 refine ⟨rfl,fun n c v hc hv=>?_⟩
 match n with
 |0=>cases hc;cases hv;exact .int _ _ _
 |1=>cases hc;cases hv;exact .int _ _ _
 |2=>cases hc;cases hv;exact .int _ _ _
 |3=>cases hc;cases hv;exact .bool _ _
 |n+4=>cases hc
def zAw (x y:List Int):Int:=zu6 (zik x) (zik y)
theorem zBC:(fun x y=>decide (zAw x y<0))=ltZ 4 7:=by
 funext x y
 have h:=zz5 (zik x) (zik y)
 have e:ltS (zik x) (zik y)=ltZ 4 7 x y:=by
  have k1:∀ z:List Int,zji (zik z)=zsY 4 7 z:=fun z=>by
   simp [zji,zik,zsY,List.range,List.range.loop,zgk]
  simp only [ltS,ltZ,k1,if_true]
 rw [e] at h
 unfold zAw
 cases hz:ltZ 4 7 x y with
 |true=>exact decide_eq_true (h.2 hz)
 |false =>
  refine decide_eq_false fun h'=>?_
  rw [h.1 h'] at hz;cases hz
theorem zwK {P:Program} (hmix:P.follows .mixedOrders=true) (hL:(L.map fun p=>zcF P an true p.1)=L.map fun p=>some p.2) (hV:zql P L=true) (hf:zar<P.funcs.size) (x y:List Int) (W:World) :
  Calls P zar #[.agg (ziq 4 7 x).toArray,.agg (ziq 4 7 y).toArray] W fun e w'=>e=.returned (.int .i64 (zAw x y))/\∃ q os',w'=Go.Sort.grow (W.drewN q) os':=by
 letI:=zww P fun f=>L.lookup f
 obtain ⟨n,hn⟩:=zah.1 (less0 (zik x) (zik y))
 exact zsf (zsT hmix hL hV (Cs:=[]) rfl (fun c hc=>by cases hc) n) (f:=zar) hf hn (zml (W:=W) fun g row hr=>by cases hr) (.cons (zxp _ _ x) (.cons (zxp _ _ y) .nil)) MR.nil
end Go.TrRun
