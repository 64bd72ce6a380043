/- This text proves what functions of this seat's program answer, run by the evaluator; no condition. -/
import Derived.Test.YtdndkdliiojpiaaGreatOTx4
import Derived.WalkSmall
set_option linter.defProp false
set_option maxHeartbeats 8000000
set_option linter.unusedVariables false
set_option linter.unusedSimpArgs false
set_option linter.unusedSectionVars false
set_option maxRecDepth 10000
namespace Go.TrRun
open Go Go.Eng
def stF(t:Int)(r:List Cl):List Cl:=I t::r.drop 1
def stR(t:Int):Nat->Nat->List (List Cl)->List (List Cl)
 |_,0,rows=>rows
 |i,n+1,rows=>stR t (i+1) n (rows.modify i (stF t))
def ZtL(t:Int):∀(n i:Nat) (rows:List (List Cl)) (k:Nat),(stR t i n rows)[k]?=if i<=k/\k<i+n then rows[k]?.map (stF t) else rows[k]?
 |0,i,rows,k=>by rw[if_neg wA];rfl
 |n+1,i,rows,k=>by
  unfold stR;rw[ZtL t n (i+1) _ k,List.getElem?_modify]
  grind
def Ztj(t:Int)(n:Nat)(rows:List (List Cl)):(stR t 0 n rows).take n=(rows.take n).map (stF t):=by
 apply qw;intro k;by_cases h:k<n
 ·simp_all [kd,ZtL,if_pos,jr,kO]
 grind
def Ztk(t:Int):∀(n i:Nat) (rows:List (List Cl)),(stR t i n rows).length=rows.length
 |0,_,_=>rfl
 |n+1,i,rows=>by
  unfold stR;rw[Ztk t n,List.length_modify]
def Ztq{M:Mem}{j:Nat}{b:Option Blk}(h:M[j]?=some b):M.set j b=M:=by
 grind [List.getElem?_eq_some_iff,List.set_getElem_self]
def R3(R:List (List Cl)):Prop:=∀r∈R,∃p q s:Cl,r=[p,q,s]
def ZuM{α:Type}(t:Int){b j g len n1:Nat}(hbj:b≠j){B:Option Blk}(F:Nat->Mem->α)(res:Mem->α)
  (yR:∀i v rows M x y z,i<len->rows[i]?=some [x,y,z]->M.length=n1->M[b]?=some B->M[j]?=some (gbk g v rows)->F i M=F (i+1) (M.set j (gbk g (v+1) (rows.set i [I t,y,z])))) (A0:∀M,M[b]?=some B->F len M=res M) :
  ∀(n i v:Nat) (rows:List (List Cl)) (M:Mem),i+n=len->(∀k,k<len->∃p q s:Cl,rows[k]?=some [p,q,s])->M.length=n1->M[b]?=some B->M[j]?=some (gbk g v rows)->∃v',F i M=res (M.set j (gbk g v' (stR t i n rows)))
 |0,i,v,rows,M,hin,h3,hM,h1,h2=>by
  obtain rfl:i=len:=wA
  exact⟨v,by rw[A0 M h1,show stR t i 0 rows=rows from rfl,Ztq h2]⟩
 |n+1,i,v,rows,M,hin,h3,hM,h1,h2=>by
  have hi:i<len:=wA
  obtain⟨x,y,z,hr⟩:=h3 i hi;have hm:rows.set i [I t,y,z]=rows.modify i (stF t):=by rw[List.modify_eq_set,hr];rfl
  have hjl:=(jy.1 h2).1;obtain⟨v',ih⟩:=ZuM t hbj F res yR A0 n (i+1) (v+1) (rows.set i [I t,y,z]) (M.set j (gbk g (v+1) (rows.set i [I t,y,z]))) wA
   (fun k hk=>by
    by_cases e:i=k
    ·subst e;exact⟨_,_,_,jS (jy.1 hr).1⟩
    ·rw[jz e];exact h3 k hk) (by simpa using hM) (by rw[jz (ko hbj)];exact h1) (jS hjl)
  refine⟨v',?_⟩;rw[List.set_set]at ih;unfold stR;rw[<-hm,<-ih];exact yR i v rows M x y z hi hr hM h1 h2
def ZuI{α:Type}(f:Nat->α)(i:Nat):up f i (f i)=f:=funext fun k=>by
 unfold up;split
 ·rename_i h;rw[h]
 ·rfl
variable{n b:Nat}{t':Int}{M0 M:Mem}{f:Nat->List (List Cl)}
def Bk.set(H:Bk n b t' M0 f M)(hb:b<n){v:Nat}{F:Nat->Cl}{o:Nat->Option Nat}(hx:M[b]?=some (bxv v 4 [I t',F 0,F 1,F 2]))(l:∀i,i<3->Lh n M (o i) (f i) (F i))(d:∀i j,i<3->j<3->i≠j->∀k,o i=some k->o j≠some k)
  {i j:Nat} (hi:i<3) {X:Option Blk} {A:List (List Cl)} (hj:o i=some j) (h':Lh n (M.set j X) (o i) A (F i)):Bk n b t' M0 (up f i A) (M.set j X):=by
 have hlt:=(l i hi).lt hj;have:=Bk.put (t:=t') H.len H.ue hb l d h' (.inl rfl) wD (fun k hk hne=>jz (fun e=>hne (by rw[hj,e]))) hi v;rw[ZuI F i,Ztq]at this
 ·exact this
 ·rw[jz wA];exact hx
def ZuL{α:Type}(t:Int)(H:Bk n b t' M0 f M)(hb:b<n){i:Nat}(hi:i<3)(h3:R3 (f i))(h9:(f i).length<=100)(Y:Nat->Mem->α)(res:Nat->Mem->α)
  (Aw:∀v (F:Nat->Cl),M[b]?=some (bxv v 4 [I t',F 0,F 1,F 2])->F i=.jc->Y 0 M=res 0 M)
  (hown:∀v (F:Nat->Cl) j g len,F i=.slice j g 3 0 len none->b≠j->len<=100->∀X,X[b]?=some (bxv v 4 [I t',F 0,F 1,F 2])->Y len X=res len X/\∀k u rows x y z,k<len->rows[k]?=some [x,y,z]->X.length=M.length->X[j]?=some (gbk g u rows)->Y k X=Y (k+1) (X.set j (gbk g (u+1) (rows.set k [I t,y,z])))) :
  ∃M',Y 0 M=res (f i).length M'/\Bk n b t' M0 (up f i ((f i).map (stF t))) M'/\M'.length=M.length:=by
 obtain⟨v,F,o,hx,l,d⟩:=H.bx;obtain⟨S,hS⟩:∃S,S=F i:=⟨_,rfl⟩;obtain⟨q,hq⟩:∃q,q=o i:=⟨_,rfl⟩;obtain⟨A,hA⟩:∃A,A=f i:=⟨_,rfl⟩;have li:=l i hi;rw[<-hS,<-hq,<-hA]at li;rw[<-hA]at h3 h9 ⊢;cases li with
 |nil =>
  refine⟨M,Aw v F hx hS.symm,?_,rfl⟩;rw[show([]:List (List Cl)).map (stF t)=f i from hA,ZuI];exact H
 |own j g w len rows hj hl h =>
  have hln:(rows.take len).length=len:=by simp[hl]
  rw[hln]at h9 ⊢;have hjl:=(jy.1 h).1;have ho:=hown v F j g len hS.symm wA h9;obtain⟨v',y⟩:=ZuM t (b:=b) (j:=j) (g:=g) (len:=len) (n1:=M.length) wA Y (res len) (fun i u rows X x y z hi hr hX h1 h2=>(ho X h1).2 i u rows x y z hi hr hX h2) (fun X h1=>(ho X h1).1) len 0 w rows M wA (fun k hk=>by
    have e:=kd (l:=rows) hk;have hk2:k<(rows.take len).length:=wA
    rw[jq hk2]at e;obtain⟨p,q,s,e2⟩:=h3 _ (jf hk2);exact⟨p,q,s,by rw[<-e,e2]⟩) rfl hx h
  refine⟨_,y,H.set hb hx l d hi (by rw[<-hq]) ?_,wD⟩;rw[<-hq,<-hS,<-Ztj];exact .own j g v' len _ hj (by rw[Ztk];exact hl) (jS hjl)
abbrev ZtX(i:Nat)(b:Nat)(t:Int):Env:=[(6,.w (W i)),(4,.w (Pt 1)),(5,.w (Pt b)),(1,.w (W t))]
def Zun(t:Int)(H:Bk n b t' M0 f M)(hb:b<n)(h3:R3 (f 0))(h9:(f 0).length<=100) :
  ∃M',Y L Cs Zs6 (some [6,4,5,1]) M.length (ZtX 0 b t) M=some (.exit 0,(25,.w (Bo false))::ZtX (f 0).length b t,M')/\Bk n b t' M0 (up f 0 ((f 0).map (stF t))) M'/\M'.length=M.length :=
 ZuL t H hb wC h3 h9 (fun i X=>Y L Cs Zs6 (some [6,4,5,1]) M.length (ZtX i b t) X) (fun n X=>some (.exit 0,(25,.w (Bo false))::ZtX n b t,X))
  (fun v F hx hS=>by
   rw[ZfM Zs6.eq_1];simp[hx,hS])
  (fun v F j g len hS hbj h9 X h1=>⟨by
   rw[ZfM Zs6.eq_1];simp[h1,hS],fun k u rows x y z hi hr hX h2=>by
   have hw:=zB (i:=k) wA;have hci:(k:Int)<len:=wA
   rw[ZfM Zs6.eq_1];simp[hi,hci,hw,h1,h2,hr,hX,hS];rfl⟩)
abbrev ZtW(i:Nat)(b:Nat)(t:Int):Env:=[(7,.w (W i)),(4,.w (Pt 1)),(5,.w (Pt b)),(1,.w (W t))]
def ZtN(t:Int)(H:Bk n b t' M0 f M)(hb:b<n)(h3:R3 (f 1))(h9:(f 1).length<=100) :
  ∃M',Y L Cs Zs5 (some [7,4,5,1]) M.length (ZtW 0 b t) M=some (.exit 2,(38,.w (Bo false))::ZtW (f 1).length b t,M')/\Bk n b t' M0 (up f 1 ((f 1).map (stF t))) M'/\M'.length=M.length :=
 ZuL t H hb wC h3 h9 (fun i X=>Y L Cs Zs5 (some [7,4,5,1]) M.length (ZtW i b t) X) (fun n X=>some (.exit 2,(38,.w (Bo false))::ZtW n b t,X))
  (fun v F hx hS=>by
   rw[ZfM Zs5.eq_1];simp[hx,hS])
  (fun v F j g len hS hbj h9 X h1=>⟨by
   rw[ZfM Zs5.eq_1];simp[h1,hS],fun k u rows x y z hi hr hX h2=>by
   have hw:=zB (i:=k) wA;have hci:(k:Int)<len:=wA
   rw[ZfM Zs5.eq_1];simp[hi,hci,hw,h1,h2,hr,hX,hS];rfl⟩)
abbrev ZtV(i:Nat)(b:Nat)(t:Int):Env:=[(8,.w (W i)),(4,.w (Pt 1)),(5,.w (Pt b)),(1,.w (W t))]
def ZtM(t:Int)(H:Bk n b t' M0 f M)(hb:b<n)(h3:R3 (f 2))(h9:(f 2).length<=100) :
  ∃M',Y L Cs Zs4 (some [8,4,5,1]) M.length (ZtV 0 b t) M=some (.exit 4,(51,.w (Bo false))::ZtV (f 2).length b t,M')/\Bk n b t' M0 (up f 2 ((f 2).map (stF t))) M'/\M'.length=M.length :=
 ZuL t H hb wC h3 h9 (fun i X=>Y L Cs Zs4 (some [8,4,5,1]) M.length (ZtV i b t) X) (fun n X=>some (.exit 4,(51,.w (Bo false))::ZtV n b t,X))
  (fun v F hx hS=>by
   rw[ZfM Zs4.eq_1];simp[hx,hS])
  (fun v F j g len hS hbj h9 X h1=>⟨by
   rw[ZfM Zs4.eq_1];simp[h1,hS],fun k u rows x y z hi hr hX h2=>by
   have hw:=zB (i:=k) wA;have hci:(k:Int)<len:=wA
   rw[ZfM Zs4.eq_1];simp[hi,hci,hw,h1,h2,hr,hX,hS];rfl⟩)
end Go.TrRun
namespace Go.TrRun
open Go Go.Eng
def Sl3.shift{n:Nat}{rows:List (List Cl)}{S:Cl}{B:Mem}(h:Sl3 n rows S B)(ρ:Nat->Option Nat)(m:Nat)(hρ:ρ n=some (m+n)):∃U,zeS ρ S=some U/\Sl3 (m+n) rows U B:=by
 cases h with
 |nil=>exact⟨_,rfl,.nil⟩
 |own _ h0=>simp_all [own]
def Sl3.ren{n:Nat}{rows:List (List Cl)}{S:Cl}{B:Mem}(h:Sl3 n rows S B)(ρ:Nat->Option Nat)(X Y:Mem)(hX:zgx ρ X=some Y):zgx ρ (B++X)=some (B++Y):=by
 cases h with
 |nil=>grind
 |own _ h0=>simp_all
def Sl3.lh{m:Nat}{rows:List (List Cl)}{S:Cl}{B:Mem}(h:Sl3 m rows S B)(hn:3<=m)(P Q:Mem)(hP:P.length=m):∃o,Lh 3 (P++(B++Q)) o rows S/\∀j,o=some j->j=m/\B.length=1:=by
 cases h with
 |nil=>exact⟨none,.nil,fun j h=>by grind⟩
 |own _ h0 =>
  have:=Lh.own (n:=3) (M:=P++([some (Eng.own 3 rows)]++Q)) m rows.length rows.length rows.length rows hn (jm _) (by grind)
  grind
def Sl3.sl{m:Nat}{rows:List (List Cl)}{S:Cl}{B:Mem}(h:Sl3 m rows S B):S=.jc\/∃j,S=.slice j rows.length 3 0 rows.length none:=by
 cases h with
 |nil=>grind
 |own _ h=>grind
def stI(t:Int)(x:Zjo):Zjo:=⟨t,(x.jP.take 1).map (fun s=>⟨t,s.seen,s.pts⟩),x.jD.map (fun m=>⟨t,m.lo,m.hi⟩),x.jO.map (fun m=>⟨t,m.lo,m.hi⟩)⟩
theorem Lh.cut{n:Nat}{M:Mem}{o:Option Nat}{A:List (List Cl)}{S:Cl}(h:Lh n M o A S)(hA:1<A.length):∃j g,S=.slice j g 3 0 A.length none/\Lh n M o (A.take 1) (.slice j g 3 0 1 none):=by
 cases h with
 |nil=>grind
 |own j g v len rows hj hl h =>
  have e:(rows.take len).length=len:=by grind
  refine⟨j,g,by rw[e],?_⟩
  grind [min,own]
def Zuu(l:List Mrk):R3 (zb l):=fun r hr=>by
 simp only[zb,jW]at hr;obtain⟨x,_,rfl⟩:=hr;exact⟨_,_,_,rfl⟩
def ZuR(l:List zZP):R3 (ZlG l):=fun r hr=>by
 simp only[ZlG,jW]at hr;obtain⟨x,_,rfl⟩:=hr;exact⟨_,_,_,rfl⟩
def Zt2(x:Zjo)(t:Int)(hx:Zlc x):R L Cs Zs8 [.a (inC x),W t] []=some (.w (.a (inC (stI t x))),[]):=by
 obtain⟨S1,S2,S3,B1,B2,B3,s1,s2,s3,hR⟩:=ZtJ x 0 hx;obtain⟨N,hN⟩:∃N:Mem,N=[bx 4 (inC x),bx 4 z4,none]:=⟨_,rfl⟩;have hN3:N.length=3:=by rw[hN];rfl
 obtain⟨ρ,hρ⟩:∃ρ:Nat->Option Nat,ρ=fun j=>match ([]:List Nat)[j]? with|some id=>some id|none=>some (N.length+(j-([]:List Nat).length)):=⟨_,rfl⟩
 have hj:∀j,ρ j=some (3+j):=fun j=>by rw[hρ,hN3];simp
 obtain⟨U1,u1,s1⟩:=s1.shift ρ 3 (hj _);have hn:=s1.ren ρ _ _ ((s2.ren ρ _ _ (s3.ren ρ [] [] rfl)));obtain⟨U2,u2,s2⟩:=s2.shift ρ 3 (hj _);obtain⟨U3,u3,s3⟩:=s3.shift ρ 3 (hj _);have hC:zx (R L Cs) ⟨true⟩ (.c (.fn ZoG [] [])) [.a (inC x),W 0] N=some (.w (.a [I (w64 (x.tick+0)),U1,U2,U3]),N++(B1++(B2++B3)),.no):=by
  have e3:znn ρ (.w (.a [I (w64 (x.tick+0)),S1,S2,S3]))=some (.w (.a [I (w64 (x.tick+0)),U1,U2,U3])):=by
   show((zfe ρ [I (w64 (x.tick+0)),S1,S2,S3]).map WV.a).map AV.w=_;simp only[zfe,u1,u2,u3];rfl
  have e0:collect N zfj (([WV.a (inC x),W 0]).flatMap WV.ids) []=[]:=by simp[collect,zfj,WV.ids]
  have e2:ziU (zd3 []) [WV.a (inC x),W 0]=some [WV.a (inC x),W 0]:=wD
  have qE:zcG (R L Cs) ZoG [.a (inC x),W 0] N=some (.w (.a [I (w64 (x.tick+0)),U1,U2,U3]),N++(B1++(B2++B3)),.no):=by
   unfold zcG;simp only[e0,e2,zck,hR,zku,if_true];have e4:uC [] N (.w (.a [I (w64 (x.tick+0)),S1,S2,S3])) (B1++(B2++B3))=(match Eng.back ρ [] (B1++(B2++B3)) N,zgx ρ ((B1++(B2++B3)).drop 0),znn ρ (.w (.a [I (w64 (x.tick+0)),S1,S2,S3]))with
    |some (M',ch),some new,some r=>some (r,M'++new,if ch.isEmpty then FP.no else FP.wr (ch.map fun id=>(id,0,whole)))
    |_,_,_=>none):=by rw[hρ];rfl
   rw[ku]at hn;rw[e4,e3,u7,hn];rfl
  have hfz:zla N [WV.a (inC x),W 0]=some [WV.a (inC x),W 0]:=wD
  have hsl:([WV.a (inC x),W 0]).flatMap WV.sls=[]:=wD
  unfold zx;simp only[callee,qs,je,ku,if_true,hfz,hsl,Ai];rw[qE];rfl
 generalize w64 (x.tick+0)=m at hC;rw[hN]at hC;obtain⟨f,hf⟩:∃f,f=inF ⟨0,x.jP.map (Zo8 0),x.jD.map (ZoR 0),x.jO.map (ZoR 0)⟩:=⟨_,rfl⟩;obtain⟨o1,l1,d1⟩:=s1.lh wA [bx 4 (inC x),bx 4 z4,bxv 2 4 [I t,U1,U2,U3]] (B2++B3) wD;obtain⟨o2,l2,d2⟩:=s2.lh wA ([bx 4 (inC x),bx 4 z4,bxv 2 4 [I t,U1,U2,U3]]++B1) B3 (by simp;omega);obtain⟨o3,l3,d3⟩:=s3.lh wA ([bx 4 (inC x),bx 4 z4,bxv 2 4 [I t,U1,U2,U3]]++(B1++B2)) [] (by simp;omega);simp only[jM,ku,jh,je]at l1 l2 l3;obtain⟨MA,hMA⟩:∃MA,MA=bx 4 (inC x)::bx 4 z4::bxv 2 4 [I t,U1,U2,U3]::(B1++(B2++B3)):=⟨_,rfl⟩;rw[<-hMA]at l1 l2 l3;have hU:(U1=.jc)\/∃j,U1=.slice j (f 0).length 3 0 (f 0).length none:=by
  rw[hf];exact s1.sl
 obtain⟨F,hF⟩:∃F:Nat->Cl,F=fun|0=>U1|1=>U2|_=>U3:=⟨_,rfl⟩
 obtain⟨o,ho⟩:∃o:Nat->Option Nat,o=fun|0=>o1|1=>o2|_=>o3:=⟨_,rfl⟩
 have hl:∀i,i<3->Lh 3 MA (o i) (f i) (F i):=fun i hi=>by
  subst hf hF ho
  match i,hi with
  |0,_=>exact l1
  |1,_=>exact l2
  |2,_=>exact l3
 have hd:∀i j,i<3->j<3->i≠j->∀k,o i=some k->o j≠some k:=fun i j hi hj hij k a b=>by
  subst ho
  match i,j,hi,hj with
  |0,0,_,_ |1,1,_,_ |2,2,_,_=>exact hij rfl
  |0,1,_,_=>have:=d1 k a;have:=d2 k b;omega
  |0,2,_,_=>have:=d1 k a;have:=d3 k b;omega
  |1,0,_,_=>have:=d2 k a;have:=d1 k b;omega
  |1,2,_,_=>have:=d2 k a;have:=d3 k b;omega
  |2,0,_,_=>have:=d3 k a;have:=d1 k b;omega
  |2,1,_,_=>have:=d3 k a;have:=d2 k b;omega
 have hB:Bk 3 2 t MA f MA:=⟨by rw[hMA];simp,fun _ _ _=>rfl,2,F,o,by rw[hMA,hF];rfl,hl,hd⟩;have h9:∀i,(f i).length<=100:=fun i=>by
  rw[hf]
  match i with
  |0=>simpa [inF,ZlG]using hx.n1
  |1=>simpa [inF,zb]using hx.n2
  |2=>simpa [inF,zb]using hx.n3
  |i+3=>exact jr _
 have h3:∀i,R3 (f i):=fun i=>by
  rw[hf]
  match i with
  |0=>exact ZuR _
  |1=>exact Zuu _
  |2=>exact Zuu _
  |i+3=>exact fun r hr=>by cases hr
 have key:∀(n:Nat) M0,Bk 3 2 t MA (up f 0 ((f 0).take 1)) M0->M0.length=MA.length->((f 0).take 1).length=n->∃M1 M2 M3 v a b c,Y L Cs Zs6 (some [6,4,5,1]) MA.length (ZtX 0 2 t) M0=some (.exit 0,(25,.w (Bo false))::ZtX n 2 t,M1) /\
   Y L Cs Zs5 (some [7,4,5,1]) M1.length (ZtW 0 2 t) M1=some (.exit 2,(38,.w (Bo false))::ZtW (f 1).length 2 t,M2)/\Y L Cs Zs4 (some [8,4,5,1]) M2.length (ZtV 0 2 t) M2=some (.exit 4,(51,.w (Bo false))::ZtV (f 2).length 2 t,M3) /\
   M3≠[]/\M3[2]?=some (bxv v 4 [I t,a,b,c])/\M3[1]?=some (bx 4 z4)/\(∀X:Option Blk,(M3.set 1 X)[1]?=some X)/\∀X,zdR (M3.set 1 X) a=some (.jb (ZlG ((x.jP.take 1).map fun s=>⟨t,s.seen,s.pts⟩)))/\zdR (M3.set 1 X) b=some (.jb (zb (x.jD.map fun m=>⟨t,m.lo,m.hi⟩)))/\zdR (M3.set 1 X) c=some (.jb (zb (x.jO.map fun m=>⟨t,m.lo,m.hi⟩))):=by
  intro n M0 H hM0 hn;obtain⟨M1,y1,H1,e1⟩:=Zun t H wC (fun r hr=>h3 0 r (qo hr)) (by show((f 0).take 1).length<=100;simp;omega);obtain⟨M2,y2,H2,e2⟩:=ZtN t H1 wC (h3 1) (h9 1);obtain⟨M3,y3,H3,e3⟩:=ZtM t H2 wC (h3 2) (h9 2);obtain⟨v,G,q,hg,lg,-⟩:=H3.bx;have h1:M3[1]?=some (bx 4 z4):=(H3.ue 1 wC wC).trans (by rw[hMA];rfl);rw[hM0]at y1;rw[show(up f 0 ((f 0).take 1) 0).length=n from hn]at y1;have fz:∀i,i<3->∀X,zdR (M3.set 1 X) (G i)=some (.jb (up (up (up (up f 0 ((f 0).take 1)) 0 (((f 0).take 1).map (stF t))) 1 ((f 1).map (stF t))) 2 ((f 2).map (stF t)) i)):=fun i hi X=>((lg i hi).ue fun j _ hj _=>jz wA).frz
  refine⟨M1,M2,M3,v,G 0,G 1,G 2,y1,y2,y3,(fun e=>by rw[e]at h1;cases h1),hg,h1,fun X=>jS (jy.1 h1).1,fun X=>⟨?_,?_,?_⟩⟩
  ·rw[fz 0 wC,hf];simp[up,inF,ZlG,zX6,stF,Zo8,ym];rfl
  ·rw[fz 1 wC,hf];simp[up,inF,zb,ZjO,stF,ZoR]
  ·rw[fz 2 wC,hf];simp[up,inF,zb,ZjO,stF,ZoR]
 have hlen:MA.length=(B1++(B2++B3)).length+3:=by rw[hMA];rfl
 rw[hlen]at key;generalize (f 1).length=n1 at key;generalize (f 2).length=n2 at key;rw[zUa Zte rfl];show _=some (AV.w (WV.a [I t,.jb (ZlG ((x.jP.take 1).map fun s=>⟨t,s.seen,s.pts⟩)),.jb (zb (x.jD.map fun m=>⟨t,m.lo,m.hi⟩)),.jb (zb (x.jO.map fun m=>⟨t,m.lo,m.hi⟩))]),([]:Mem));by_cases hs:(f 0).length<=1
 ·have ht:up f 0 ((f 0).take 1)=f:=by rw[jx hs,ZuI]
  rw[ht]at key;obtain⟨M1,M2,M3,v,a,b,c,y1,y2,y3,k1,k2,k3,k4,k5⟩:=key _ MA hB hlen rfl;have c5:¬(1:Int)<(f 0).length:=wA
  rw[hMA]at y1;generalize B1++(B2++B3)=Q at *;have k6:=fun X=>(k5 X).1
  have k7:=fun X=>(k5 X).2.1
  have k8:=fun X=>(k5 X).2.2
  simp only[ZtX,ZtW,ZtV,jg,inC,jh,je]at y1 y2 y3 hC;simp only[inC];rcases hU with rfl |⟨j,rfl⟩<;>simp[-zx,-zdR,Zs7,hC,y1,y2,y3,k1,k2,k3,k4,k6,k7,k8,c5,Zqm,Zqx]
 ·obtain⟨j,g,e,l'⟩:=(hl 0 wC).cut wA;have hB':=Bk.put (t:=t) hB.len hB.ue wC hl hd l' (.inl rfl) (jm _) (fun _ _ _=>rfl) wC 3;have e2:MA.set 2 (bxv 3 4 [I t,up F 0 (.slice j g 3 0 1 none) 0,up F 0 (.slice j g 3 0 1 none) 1,up F 0 (.slice j g 3 0 1 none) 2])=bx 4 (inC x)::bx 4 z4::bxv 3 4 [I t,.slice j g 3 0 1 none,U2,U3]::(B1++(B2++B3)):=by
   rw[hMA,hF];rfl
  have e:U1=.slice j g 3 0 (f 0).length none:=by rw[hF]at e;exact e
  rw[e2]at hB';obtain⟨M1,M2,M3,v,a,b,c,y1,y2,y3,k1,k2,k3,k4,k5⟩:=key 1 _ hB' rfl (by simp;omega);have c5:(1:Int)<(f 0).length:=wA
  have c6:(1:Int)<=(f 0).length:=wA
  have k6:=fun X=>(k5 X).1
  have k7:=fun X=>(k5 X).2.1
  have k8:=fun X=>(k5 X).2.2
  generalize B1++(B2++B3)=Q at *;simp only[ZtX,ZtW,ZtV,jg,inC,jh,je]at y1 y2 y3 hC;simp only[inC];subst e;simp[-zx,-zdR,Zs7,hC,y1,y2,y3,k1,k2,k3,k4,k6,k7,k8,c5,c6,Zqm,Zqx]
def Ztc(l:List Zjo)(s:Nat):Zjo:=if h:s<l.length then stI s l[s] else⟨s,[],[],[]⟩
def ZtU(l:List Zjo)(s:Nat):(Ztc l s).tick=s:=by
 unfold Ztc;split<;>rfl
def Zt3(l:List Zjo):Tld (Ztc l):=by
 refine⟨fun s m hm=>?_,fun s m hm=>?_,fun s m hm=>?_⟩<;>unfold Ztc at hm<;>split at hm
 ·grind [stI]
 ·grind
 ·grind [stI]
 ·grind
 ·grind [stI]
 grind
def Zt5(l:List Zjo){s:Nat}(h:l.length<=s):inH (Ztc l s)=noH:=by
 unfold Ztc;rw[dif_neg wA];rfl
variable{T:Nat->Zjo}{dd:Nat->Nat}{t:Nat}
def ZtH:∀(q:Nat) (y:Zjo),(bkS T dd t q y).tick=y.tick
 |0,y=>rfl
 |q+1,y=>by
  unfold bkS;split
  ·rw[ZtH q];split<;>rfl
  simp
def ZuO(h4:∀s,dd s<=4){pr:Zjo->List Mrk}(hp:∀y x:Zjo,pr ⟨y.tick,y.jP++x.jP,y.jD++x.jD.reverse,y.jO++x.jO.reverse⟩=pr y++(pr x).reverse)(m:Mrk):∀(q:Nat) (y:Zjo),m∈pr (bkS T dd t q y)<->m∈pr y\/∃s,s<q/\s+dd s=t/\m∈pr (T s)
 |0,y=>by simp[bkS]
 |q+1,y=>by
  unfold bkS;by_cases c:t<=q+4
  ·rw[if_pos c,ZuO h4 hp m q]
   grind
  grind
def Zuj(h4:∀s,dd s<=4)(hT:Tld T)(s:Nat):∀(q:Nat) (y:Zjo),(bkS T dd t q y).jP.filter (fun m=>decide (m.qd=(s:Int)))=y.jP.filter (fun m=>decide (m.qd=(s:Int)))++if s<q/\s+dd s=t then(T s).jP else []
 |0,y=>by simp[bkS]
 |q+1,y=>by
  unfold bkS;by_cases c:t<=q+4
  ·rw[if_pos c,Zuj h4 hT s q];by_cases e:q+dd q=t
   ·rw[if_pos e];simp only[List.filter_append];by_cases hs:s=q
    ·subst hs;rw[if_neg wA,if_pos ⟨wA,e⟩,ku,Ztl (l:=(T s).jP) (fun x hx=>by simp[hT.sc s x hx])]
    ·rw[Zti (l:=(T q).jP) (fun x hx=>by have:=hT.sc q x hx;grind),ku]
     grind
   grind
  grind
def Zuo(h4:∀s,dd s<=4)(hT:Tld T):Bck T dd t (bkS T dd t (t+1) ⟨t,[],[],[]⟩):=by
 have key:∀{pr:Zjo->List Mrk},(∀y x:Zjo,pr ⟨y.tick,y.jP++x.jP,y.jD++x.jD.reverse,y.jO++x.jO.reverse⟩=pr y++(pr x).reverse)->pr ⟨t,[],[],[]⟩=[]->∀m,m∈pr (bkS T dd t (t+1) ⟨t,[],[],[]⟩)<->∃s,s+dd s=t/\m∈pr (T s):=fun {pr} hp h0 m=>by
  rw[ZuO h4 hp,h0]
  grind
 refine⟨key (pr:=Zjo.jD) (fun _ _=>rfl) rfl,key (pr:=Zjo.jO) (fun _ _=>rfl) rfl,fun s=>?_⟩;rw[Zuj h4 hT]
 grind
def ZtQ(h1:∀s,(T s).jP.length<=1):∀(q:Nat) (y:Zjo),(bkS T dd t q y).jP.length<=y.jP.length+(q+4-t)
 |0,y=>by simp[bkS]
 |q+1,y=>by
  unfold bkS;by_cases c:t<=q+4
  ·rw[if_pos c];refine jT (ZtQ h1 q _) ?_
   grind
  grind
def Zuk(a:zZP):∀(q:Nat) (y:Zjo),a∈(bkS T dd t q y).jP->a∈y.jP\/∃s,a∈(T s).jP
 |0,y,h=>.inl h
 |q+1,y,h=>by
  unfold bkS at h;split at h
  ·rcases Zuk a q _ h with h|h
   ·grind
   grind
  grind
end Go.TrRun
namespace Go.TrRun
open Go Go.Eng
variable{k:Nat}{S:StV}{zs:List Zon}{ss:List Sgn}{d:NdV}{g:RgV}{c:Int}{es:List Zou}{v w u p q:Nat}{M:Mem}
theorem LM.same(h:LM k S d g c es v w u p q M){f:Nat}{r:AV}(hr:(∃n,r=.w (W n))\/(∃k,r=.w (.a (zG k)))\/(∃y,r=.w (.a (zJ4 y)))\/(∃l,r=.w (.a [.jb (zu l)])))
  (hR:R L Cs f [Pt 0] (ndM S d g c es v w u)=some (r,ndM S d g c es v w u)) :
  zx (R L Cs) ⟨true⟩ (.c (.fn f [] [])) [Pt k] M=some (r,M,.no):=by
 refine(h.on (.inl rfl) hR).trans ?_;obtain⟨h1,h2,h3,n1,n2,n3⟩:=h;obtain⟨ρ,hρ⟩:∃ρ:Nat->Option Nat,∀j,ρ j=match ([k,p,q]:List Nat)[j]? with|some id=>some id|none=>some (M.length+(j-3)):=⟨_,fun _=>rfl⟩
 have hrA:znn ρ r=some r:=by
  rcases hr with⟨n,rfl⟩ |⟨y,rfl⟩ |⟨⟨y1,y2,y3⟩,rfl⟩ |⟨l,rfl⟩<;>simp[zG,zJ4,zJY]
 have hb:Eng.back ρ [k,p,q] (ndM S d g c es v w u) M=some (M,[]):=by simp[Eng.back,h1,h2,h3]
 have hl:=Zo2 hρ hb (new:=[]) rfl hrA
 rwa [ku]at hl
def Zrr(hS:z6u S zs ss){n:Nat}(H:Zrc S d g c es n)(hn:n+300<=1000)(hd:d.now<=1000){x:Zjo}(hx:Zlc x)(h:LM k S d g c es v w u p q M)(ht:x.tick=d.now)(h8:x.jP.length<=8/\x.jD.length<=8/\x.jO.length<=8) :
  ∃d' g' c' es' v' w' u' p' q' M' fp,Zrc S d' g' c' es' (n+24)/\LM k S d' g' c' es' v' w' u' p' q' M'/\M.length<=M'.length/\zx (R L Cs) ⟨true⟩ (.c (.fn Zh5 [] [])) [Pt k,.a (inC x)] M=some (.t [W (Zlu S d'),W 0],M',fp) /\
   d'.now=d.now+1/\PlN S d d'/\TkD S zs ss d g c es x d' g' c' es'/\Fr k p q p' q' M M':=by
 obtain⟨d',g',c',es',H',hnow',hP,hD,hT⟩:=H.tick (zs:=zs) (ss:=ss) hS hn hd hx h8 ht v w u;rcases hT with⟨v',w',u',hvw,hR⟩ |⟨rfl,rfl,hi,g1,c1,es1,v',w1,u1,⟨hv,hw,hu⟩,hR⟩
 ·obtain⟨M',fp,hC,hM,hl,hF⟩:=h.call (v':=v') (w':=w') (u':=u') (f:=Zh5) (xs:=inC x) (.inr ⟨x,rfl⟩) (.inl ⟨_,_,rfl⟩) (fun e=>absurd e wA) (fun e=>absurd e wA) hvw.2.2.2 (by simpa using hR);exact⟨d',g',c',es',v',w',u',p,q,M',fp,H',hM,wA,by simpa using hC,hnow',hP,hD,hF⟩
 ·obtain⟨M',fp,hC,hM,hl,hF⟩:=h.lose hv hw.2 hu.2 hi hR;exact⟨d',g',0,[],_,_,_,_,_,M',fp,H',hM,hl,hC,hnow',hP,hD,hF⟩
end Go.TrRun
namespace Go.TrRun
open Go Go.Eng Go.PlanLaw
def Zk9(n:Nat):EsN n []:=fun e he=>by cases he
def Zoc(S:StV)(zs:List Zon)(ss:List Sgn)(y:zZP):NdV:=ZjL (goN S zs ss { nd0 S with last:=0 } (znE S (some ⟨[],[],[y]⟩) (rg0 S).jY).1)
def Zre{S:StV}{zs:List Zon}{ss:List Sgn}(hL:ZkT S zs ss)(ht:S.t0=0)(y:zZP)(hst:y.qd=0)(hp:y.pts=[])(hse:y.seen.length<=5000) :
  ∃v' w' u',(4<v'/\0<w'/\u'≠0)/\(ZhJ (rg0 S) (Pl.vh (goN S zs ss { nd0 S with last:=0 } (znE S (some ⟨[],[],[y]⟩) (rg0 S).jY).1).kW 0)).ini=false/\R L Cs Zh5 [Pt 0,.a (inC ⟨0,[y],[],[]⟩)] (ndM S (nd0 S) (rg0 S) 0 [] 4 0 0)=some (.t [W (Zlu S (Zoc S zs ss y)),W 0],ndM S (Zoc S zs ss y) (ZhJ (rg0 S) (Pl.vh (goN S zs ss { nd0 S with last:=0 } (znE S (some ⟨[],[],[y]⟩) (rg0 S).jY).1).kW 0)) 1 (Zju ⟨[],[],[y]⟩) v' w' u'):=by
 unfold Zoc;have hk:=KB.zero hL.ok hL.be;have hr0:ZjQ (rg0 S):=⟨jr _,fun _=>rfl⟩;have hnd:Zk7 S (nd0 S) (rg0 S) [] 1:=by
  refine⟨hr0,fun a ha=>?_,hk,?_,?_,Zk9 1,?_,?_⟩
  ·cases ha
  ·show S.t0=S.t0+0;omega
  ·show S.t0<=90000;omega
  ·show 0<=S.t0/\S.t0<=1099511627776;omega
  ·show 1<=900;decide
 have hq:Zlb ⟨[],[],[y]⟩:=⟨rfl,rfl,fun s hs=>by rw[jB.1 hs];exact hp⟩;have e2:hrN S zs ss (nd0 S) (rg0 S) 0 [] [] ⟨0,[y],[],[]⟩=({ nd0 S with last:=0 },(1,Zju ⟨[],[],[y]⟩)):=by
  show(heD (nd0 S) y,he3 (nd0 S) (0,[]) y)=_;have hc:Zjv (nd0 S) y.qd=true:=by
   unfold Zjv nd0;simp only[hst,ht];decide
  unfold heD he3;rw[if_pos hc,if_pos hc,hst];have e:max (nd0 S).last 0=0:=by show max S.t0 0=0;omega
  rw[e];rfl
 have eK:Zkz S zs ss (Zhl S zs ss [] (rg0 S)) (Zju ⟨[],[],[y]⟩)=((znE S (some ⟨[],[],[y]⟩) (rg0 S).jY).1,true):=by
  have e:Zkz S zs ss (Zhl S zs ss [] (rg0 S)) (Zju ⟨[],[],[y]⟩)=znE S (znB S.t0 (Zju ⟨[],[],[y]⟩)) (rg0 S).jY:=rfl;rw[e,ht];show znE S (some ⟨[],[],[y]⟩) (rg0 S).jY=_;rw[<-Zkg (S:=S) hq (rg0 S).jY]
 obtain⟨v',w',u',hvw,hes2,hR⟩:=Zlp hL.ok hnd wC 0 4 0 0 [] (ZkF 0) wC (x:=⟨0,[y],[],[]⟩) ⟨wD,wD,wD,fun z hz=>by rw[jB.1 hz,hp];exact⟨hse,wD⟩⟩ ⟨wD,wD,wD⟩ ht.symm e2 eK;have r0:Zhl S zs ss [] (rg0 S)=rg0 S:=rfl;rw[r0]at hR;exact⟨v',w',u',⟨hvw.1,hvw.2.1,fun q=>by cases (hvw.2.2.2 q).1⟩,(ZjF (g:=rg0 S) (jr _) _).2.2.2.2,hR⟩
abbrev lit5(x0 q:Int):Option Blk:=some { box:=false,esz:=3,rows:=[[I x0,I 0,I q]],gen:=1,fz:=true,ver:=2 }
abbrev lit6(x0 q:Int)(z:Bool)(v:Nat):Option Blk:=some { box:=false,esz:=3,rows:=[[I 0,.jb [[I x0,I 0,I q]],.jb []]],gen:=1,fz:=z,ver:=v }
variable{S:StV}{zs:List Zon}{ss:List Sgn}
def Zrc.zero(hL:ZkT S zs ss)(ht:S.t0=0):Zrc S (nd0 S) (rg0 S) 0 [] 0:=by
 have hk:=KB.zero hL.ok hL.be;refine⟨⟨⟨jr _,fun _=>rfl⟩,(fun a ha=>by cases ha),hk,?_,?_,EsN.nil _,?_,by show 1<=900;decide⟩,Zoz.nil 0,hk,⟨fun a ha=>?_,by show 1<=125;decide⟩,⟨fun a ha=>?_,by show 1<=125;decide⟩⟩
 ·show S.t0=S.t0+0;omega
 ·show S.t0<=90000;omega
 ·show 0<=S.t0/\S.t0<=1099511627776;omega
 ·obtain rfl:a=0:=jB.1 ha;unfold zk0;omega
 ·obtain rfl:a=0:=jB.1 ha;unfold zk0;omega
def Zp1{l:List Zjo}(h:smB l=true):l.length<=8/\∀x∈l,∀t,Zlc (shI t x):=by
 unfold smB at h;simp only[jk,decide_eq_true_eq,jw]at h;refine⟨h.1,fun x hx t=>?_⟩;have h2:=h.2 x hx;unfold ZpQ at h2;simp only[jk,decide_eq_true_eq,jw]at h2;obtain⟨a,b,c,d⟩:=h2;refine⟨by simp[shI];omega,by simp[shI];omega,by simp[shI];omega,fun y hy=>?_⟩;simp only[shI,jW]at hy;obtain⟨z,hz,rfl⟩:=hy;have:=d z hz;unfold Zpi at this;simp only[jk,decide_eq_true_eq]at this;simp only[Zo8];omega
def Zqy{l:List Zjo}(h:smB l=true){x:Zjo}(hx:x∈l):Zlc x:=by
 have h2:=(Zp1 h).2 x hx 0;refine⟨by simpa [shI]using h2.n1,by simpa [shI]using h2.n2,by simpa [shI]using h2.n3,fun y hy=>?_⟩;exact h2.sc (Zo8 0 y) (by simp only[shI];exact qI hy)
abbrev stA(n r dl bu si s sp ln ac br ra:Int)(sg:Bool):List Cl:=[I n,I r,I dl,I bu,I si,I s,I sp,I ln,I ac,I br,I ra,.bool sg]
end Go.TrRun
namespace Go.TrRun
open Go Go.Eng Go.PlanLaw
def Zrq(S:StV):StV:={ S with kH:=0,uk:=1000 }
def Zrz{S:StV}{zs:List Zon}{ss:List Sgn}(h:ZkT S zs ss):ZkT (Zrq S) zs ss :=
 ⟨⟨h.ok.full,h.ok.vS,h.ok.car,by show(0:Int)<=0/\(0:Int)<=8;decide,by show(0:Int)<=1000/\(1000:Int)<=1000;decide⟩,by
   obtain⟨h1,h2,h3,h4⟩:=h;cases h2;constructor<;>assumption,h.con,h.wl⟩
def ZrG{S:StV}(n r dl bu si s sp ln ac br ra:Int)(sg:Bool)
  (hSet:R L Cs ZlI [.a (stA n r dl bu si s sp ln ac br ra sg)] []=some (.w (.a (ZlR S)),[])):R L Cs Zrn [.a (stA n r dl bu si s sp ln ac br ra sg)] []=some (.w (.a (ZlR (Zrq S))),[]):=by
 have c1:∀M,zx (R L Cs) ⟨true⟩ (.c (.fn ZlI [] [])) [.a (stA n r dl bu si s sp ln ac br ra sg)] M=some (.w (.a (ZlR S)),M,.no):=fun M=>by simp[hSet]
 rw[zUa Zrp rfl];simp[-zx,Zrm,c1,Zrq]
variable{k:Nat}{S:StV}{zs:List Zon}{ss:List Sgn}{d e:NdV}{g f:RgV}{c c2:Int}{es fs:List Zou}{v w u p q v2 w2 u2 p2 q2:Nat}{M M':Mem}
def LM.fr{k1 p1 q1 p1' q1':Nat}(h:LM k S d g c es v w u p q M)(F:Fr k1 p1 q1 p1' q1' M M')(n1:k≠k1/\k≠p1/\k≠q1)(n2:p≠k1/\p≠p1/\p≠q1)(n3:q≠k1/\q≠p1/\q≠q1):LM k S d g c es v w u p q M':=by
 obtain⟨l1,l2,l3⟩:=h.len;exact⟨by rw[(F k l1 n1.1 n1.2.1 n1.2.2).1];exact h.nd,by rw[(F p l2 n2.1 n2.2.1 n2.2.2).1];exact h.rg,by rw[(F q l3 n3.1 n3.2.1 n3.2.2).1];exact h.mp,h.kp,h.kq,h.pq⟩
structure TM(S:StV)(d e:NdV)(g f:RgV)(c c2:Int)(es fs:List Zou)(v w u p q v2 w2 u2 p2 q2:Nat)(M:Mem):Prop where
 a:LM 1 S d g c es v w u p q M
 b:LM 4 S e f c2 fs v2 w2 u2 p2 q2 M
 n1:p≠4/\q≠4
 n2:p2≠1/\q2≠1
 n3:p2≠p/\p2≠q
 n4:q2≠p/\q2≠q
def TM.drop(h:TM S d e g f c c2 es fs v w u p q v2 w2 u2 p2 q2 M){n:Nat}(hn:4<n)(E:Env):TM S d e g f c c2 es fs v w u p q v2 w2 u2 p2 q2 (km n E M):=⟨h.a.drop wA E,h.b.drop hn E,h.n1,h.n2,h.n3,h.n4⟩
def TM.fst{d':NdV}{g':RgV}{c':Int}{es':List Zou}{v' w' u' p' q':Nat}(h:TM S d e g f c c2 es fs v w u p q v2 w2 u2 p2 q2 M)(a:LM 1 S d' g' c' es' v' w' u' p' q' M')(F:Fr 1 p q p' q' M M'):TM S d' e g' f c' c2 es' fs v' w' u' p' q' v2 w2 u2 p2 q2 M':=by
 obtain⟨l1,l2,l3⟩:=h.b.len;have k1:=h.b.kp;have k2:=h.b.kq;obtain⟨x1,x2,x3⟩:=F 4 l1 wC (ko h.n1.1) (ko h.n1.2);obtain⟨y1,y2,y3⟩:=F p2 l2 h.n2.1 h.n3.1 h.n3.2;obtain⟨z1,z2,z3⟩:=F q2 l3 h.n2.2 h.n4.1 h.n4.2;exact⟨a,h.b.fr F ⟨wC,ko h.n1.1,ko h.n1.2⟩ ⟨h.n2.1,h.n3.1,h.n3.2⟩ ⟨h.n2.2,h.n4.1,h.n4.2⟩,⟨ko x2,ko x3⟩,h.n2,⟨y2,y3⟩,⟨z2,z3⟩⟩
def TM.snd{e':NdV}{f':RgV}{c':Int}{fs':List Zou}{v' w' u' p' q':Nat}(h:TM S d e g f c c2 es fs v w u p q v2 w2 u2 p2 q2 M)(b:LM 4 S e' f' c' fs' v' w' u' p' q' M')(F:Fr 4 p2 q2 p' q' M M'):TM S d e' g f' c c' es fs' v w u p q v' w' u' p' q' M':=by
 obtain⟨l1,l2,l3⟩:=h.a.len;obtain⟨x1,x2,x3⟩:=F 1 l1 wC (ko h.n2.1) (ko h.n2.2);obtain⟨y1,y2,y3⟩:=F p l2 h.n1.1 (ko h.n3.1) (ko h.n4.1);obtain⟨z1,z2,z3⟩:=F q l3 h.n1.2 (ko h.n3.2) (ko h.n4.2);exact⟨h.a.fr F ⟨wC,ko h.n2.1,ko h.n2.2⟩ ⟨h.n1.1,ko h.n3.1,ko h.n4.1⟩ ⟨h.n1.2,ko h.n3.2,ko h.n4.2⟩,b,h.n1,⟨ko x2,ko x3⟩,⟨ko y2,ko z2⟩,⟨ko y3,ko z3⟩⟩
end Go.TrRun
namespace Go.TrRun
open Go Go.Eng
def zeu(M:Mem)(j k:Nat)(h:j≠k):(zX M j)[k]?=M[k]?:=by
 unfold zX;split
 ·split
  ·rfl
  ·exact jz h
 ·rfl
def zu3:∀(l:List Nat) (M:Mem) (k:Nat),k∉l->(zbg M l)[k]?=M[k]?
 |[],M,k,h=>rfl
 |j::l,M,k,h=>by
  show(zbg (zX M j) l)[k]?=_;rw[zu3 l _ k (fun q=>h (jE _ q)),zeu _ _ _ (fun e=>h (by rw[e];exact js ..))]
theorem zgi(l:List Nat)(M:Mem):(zbg M l).length=M.length:=Zp9 l M
def ZtR(ρ:Nat->Option Nat):∀(ids:List Nat) (Ms M M':Mem),Eng.back ρ ids Ms M=some (M',[])->M'=M
 |[],Ms,M,M',h=>by
  unfold Eng.back at h;cases h;rfl
 |id::ids,[],M,M',h=>by
  unfold Eng.back at h;cases h
 |id::ids,none::Ms,M,M',h=>by
  unfold Eng.back at h;cases h
 |id::ids,some b::Ms,M,M',h=>by
  unfold Eng.back at h;split at h
  ·split at h
   ·exact ZtR ρ ids Ms M M' h
   ·split at h
    ·cases h
    ·cases h
  ·cases h
def Zt1{cf:za4}{f:Nat}{args:List WV}{M M2:Mem}{r:AV}(h:zcG cf f args M=some (r,M2,.no))(hl:M2.length=M.length):M2=M:=by
 unfold zcG at h;simp only at h;split at h
 ·split at h
  ·split at h
   ·cases h
   ·unfold uC at h;simp only at h;split at h
    ·rename_i M' ch new r' hb hn hr;split at h
     ·rename_i hc;have hc:ch=[]:=by simpa using hc
      subst hc;have:=ZtR _ _ _ _ _ hb;subst this;simp only[ji,ju]at h;obtain⟨-,h,-⟩:=h;rw[<-h]at hl ⊢;have:new=[]:=by
       have:new.length=0:=by simp at hl;exact kc.2 (by simpa using hl)
       exact kc.1 this
      rw[this,ku]
     ·simp at h
    ·cases h
  ·cases h
 ·cases h
def ZtG{cf:za4}{f:Nat}{args qa:List WV}{M M2:Mem}{r:AV}{fp:FP}(hfz:zla M args=some qa)(hh:zl2 f qa=true)(hs:qa.flatMap WV.sls=[])(hfz2:zla (zbg M (args.flatMap WV.sls)) qa=some qa)
  (h:zx cf ⟨true⟩ (.c (.fn f [] [])) qa (zbg M (args.flatMap WV.sls))=some (r,M2,fp)) :
  ∃M3 fp',zx cf ⟨true⟩ (.c (.fn f [] [])) args M=some (r,M3,fp')/\M3.length=M2.length/\∀k,k∉args.flatMap WV.sls->M3[k]?=M2[k]?:=by
 unfold zx at h ⊢;simp only[callee,qs,je,ku,if_true,hfz2,hs,hh,Bool.or_true,Ai]at h;simp only[callee,qs,je,ku,if_true,hfz,hh,Bool.or_true];by_cases he:(args.flatMap WV.sls).isEmpty=true
 ·have he':args.flatMap WV.sls=[]:=by simpa using he
  rw[if_pos he];rw[he']at h;exact⟨M2,fp,h,rfl,fun _ _=>rfl⟩
 ·rw[if_neg he,h];simp only;by_cases hc:(fp.C8&&M2.length==M.length&&r.plain)=true
  ·rw[if_pos hc];simp only[jk,beq_iff_eq]at hc;have hfp:fp=.no:=by
    cases fp<;>simp[FP.C8]at hc ⊢
   rw[hfp]at h;have:=Zt1 h (by rw[zgi];exact hc.1.2);exact⟨M,_,rfl,hc.1.2.symm,fun k hk=>by rw[this,zu3 _ _ _ hk]⟩
  ·rw[if_neg hc];exact⟨M2,_,rfl,rfl,fun _ _=>rfl⟩
open Go Go.Eng Go.PlanLaw
abbrev o4E(l:List Zjo)(late:List Int)(t:Nat):Env:=[(11,.w (.c (.slice 7 t 4 0 t none))),(1,.w (.c (.jb (ZoM l)))),(9,.w (Pt 4)),(7,.w (Pt 1)),(2,.w (.c (.jb (zu late)))),(12,.w (W t))]
def Ztb(l:List Zjo)(t:Nat):List (List Cl):=(List.range t).map fun s=>inC (Ztc l s)
def ZtI(l:List Zjo)(t:Nat):Ztb l (t+1)=Ztb l t++[inC (Ztc l t)]:=by
 simp[Ztb,List.range_succ]
def Ztf(l:List Zjo)(t:Nat):(Ztb l t).length=t:=by simp[Ztb]
def ZtT(l:List Zjo){t i:Nat}(h:i<t):(Ztb l t)[i]?=some (inC (Ztc l i)):=by
 simp[Ztb,h]
abbrev Zuz(l:List Zjo)(X:Zjo)(t vb:Nat)(C1 C2 C3:Cl)(M:Mem):Mem:=M.set 7 (tbk (Ztb l t++[inC X]) (t+1))++[bxv vb 4 [I t,C1,C2,C3],bxv 1 4 [I t,.jc,.jc,.jc],some { box:=false,esz:=4,rows:=[inC X],gen:=1,fz:=false,ver:=1 }]
inductive Now (l:List Zjo) (t:Nat):Zjo->Nat->Cl->Cl->Cl->Prop
 |x (X:Zjo) (h:t<l.length) (hs:∀M,zx (R L Cs) ⟨true⟩ (.c (.fn Zs8 [] [])) [.a (inC l[t]),W t] M=some (.w (.a (inC X)),M,.no)):Now l t X 2 (.jb (ZlG X.jP)) (.jb (zb X.jD)) (.jb (zb X.jO))
 |e (h:¬t<l.length):Now l t ⟨t,[],[],[]⟩ 1 .jc .jc .jc
noncomputable abbrev l4Y(l:List Zjo)(late:List Int)(t:Nat)(M:Mem):=Y L Cs ZsZ (some [11,1,9,7,2,12]) 8 (o4E l late t) M
noncomputable abbrev tkO(k:Nat)(x:List Cl)(M:Mem):=zx (R L Cs) ⟨true⟩ (.c (.fn Zh5 [] [])) [Pt k,.a x] M
def ZuP(l:List Zjo)(h6:l.length<=6)(late:List Int)(t:Nat)(h4:t<l.length+4)(M M3:Mem)(k:Int)(v vb n2 n3:Nat)(C1 C2 C3 S1 S2 S3:Cl)(X:Zjo)(hX:X.tick=t)(hNw:Now l t X vb C1 C2 C3)(h7:M[7]?=some (tbk (Ztb l t) t))(hAw:R L Cs ZlH [] []=some (.w (Bo true),[]))
  (y3:Y L Cs Zs0 (some [15,13,1,9,7,2,12,14,11]) (M.length+3) (b3E (.c (.jb (ZoM l))) late t M.length (M.length+1) t (t+1)) (Zuz l X t vb C1 C2 C3 M)=some (.exit 2,(92,.w (Bo false))::b3E (.c (.jb (ZoM l))) late k M.length (M.length+1) t (t+1),M3))
  (hi:M3[M.length]?=some (bxv vb 4 [I t,C1,C2,C3])) (hb:M3[M.length+1]?=some (bxv v 4 [I t,S1,S2,S3])) (hS2:Ztu S2 n2) (hS3:Ztu S3 n3) :
  ((8<n2\/8<n3\/8<X.jD.length\/8<X.jO.length)->l4Y l late t M=some (.ret,[(6,.w (Bo true))],M3)) /\
  (n2<=8->n3<=8->X.jD.length<=8->X.jO.length<=8->∀(M4 M5:Mem) (r1 r2 md:Int) (fp1 fp2:FP),tkO 1 [I t,C1,C2,C3] M3=some (.t [W r1,W 0],M4,fp1)->M4[M.length+1]?=some (bxv v 4 [I t,S1,S2,S3]) ->
   tkO 4 [I t,S1,S2,S3] M4=some (.t [W r2,W 0],M5,fp2)->zx (R L Cs) ⟨true⟩ (.c (.fn ZlS [] [])) [Pt 1] M5=some (.w (W md),M5,.no) ->
   (md≠1->l4Y l late t M=some (.ret,[(6,.w (Bo true))],M5))/\(md=1->l4Y l late t M=l4Y l late (t+1) (km 8 (o4E l late (t+1)) M5))):=by
 have c4:∀M,zx (R L Cs) ⟨true⟩ (.c (.fn ZlH [] [])) [] M=some (.w (Bo true),M,.no):=fun M=>by simp[hAw]
 have w1:IntKind.i64.wrap ((l.length:Int)+4)=(l.length:Int)+4:=zTd _ wA wA;have w2:IntKind.i64.wrap ((t:Int)+1)=(t:Int)+1:=zTd _ wA wA;have c1:(t:Int)<(l.length:Int)+4:=wA
 have hml:=(jy.1 h7).1;have g7:∀X,(M++X)[7]?=some (tbk (Ztb l t) t):=fun X=>by rw[jo hml];exact h7
 have g8:∀X b,(M++X).set 7 b=M.set 7 b++X:=fun X b=>by rw[ur _ _ hml]
 have hro:(t+1)*80<=140737488355328:=wA
 have htl:=Ztf l t;have ht2:(Ztb l t).take t=Ztb l t:=by rw[jx wA]
 have d0:∀E,km (M.length+3) E (Zuz l X t vb C1 C2 C3 M)=Zuz l X t vb C1 C2 C3 M:=fun E=>by unfold km;rw[if_pos wD]
 have mkl:∀z,(zb z).length=z.length:=ZuH;simp only[b3E,Zuz]at y3 d0;unfold l4Y tkO;rw[ZfM ZsZ.eq_1];cases hNw with
 |x _ ht hst =>
  have c2:(t:Int)<l.length:=wA
  obtain⟨t',x1,x2,x3⟩:=X;obtain rfl:t'=t:=hX;simp only[inC]at y3 d0 hst;refine⟨fun Bf=>?_,fun b2 b3 b4 b5 M4 M5 r1 r2 md fp1 fp2 hTa hb' hTb hMo=>?_⟩
  ·dsimp only at Bf;have h:(8:Int)<n2\/¬(8:Int)<n2/\(8:Int)<n3\/¬(8:Int)<n2/\¬(8:Int)<n3/\(8:Int)<x2.length\/¬(8:Int)<n2/\¬(8:Int)<n3/\¬(8:Int)<x2.length/\(8:Int)<x3.length:=wA
   rcases h with q1 |⟨q1,q2⟩ |⟨q1,q2,q3⟩ |⟨q1,q2,q3,q4⟩
   ·rcases hS2 with⟨rfl,rfl⟩ |⟨j2,g2,rfl⟩<;>first|omega|simp[-zx,-km,w1,c1,c2,ht,hst,h7,g7,g8,zg,htl,ht2,hro,d0,y3,hi,hb,c4,mkl,q1]
   ·rcases hS2 with⟨rfl,rfl⟩ |⟨j2,g2,rfl⟩<;>rcases hS3 with⟨rfl,rfl⟩ |⟨j3,g3,rfl⟩<;>first|omega|simp[-zx,-km,w1,c1,c2,ht,hst,h7,g7,g8,zg,htl,ht2,hro,d0,y3,hi,hb,c4,mkl,q1,q2]
   ·rcases hS2 with⟨rfl,rfl⟩ |⟨j2,g2,rfl⟩<;>rcases hS3 with⟨rfl,rfl⟩ |⟨j3,g3,rfl⟩<;>simp[-zx,-km,w1,c1,c2,ht,hst,h7,g7,g8,zg,htl,ht2,hro,d0,y3,hi,hb,c4,mkl,q1,q2,q3]
   ·rcases hS2 with⟨rfl,rfl⟩ |⟨j2,g2,rfl⟩<;>rcases hS3 with⟨rfl,rfl⟩ |⟨j3,g3,rfl⟩<;>simp[-zx,-km,w1,c1,c2,ht,hst,h7,g7,g8,zg,htl,ht2,hro,d0,y3,hi,hb,c4,mkl,q1,q2,q3,q4]
  ·dsimp only at b4 b5;have q1:¬(8:Int)<n2:=wA
   have q2:¬(8:Int)<n3:=wA
   have q3:¬(8:Int)<x2.length:=wA
   have q4:¬(8:Int)<x3.length:=wA
   refine⟨fun hm=>?_,fun hm=>?_⟩
   ·have hm2:(md==1)=false:=by simpa using hm
    rcases hS2 with⟨rfl,rfl⟩ |⟨j2,g2,rfl⟩<;>rcases hS3 with⟨rfl,rfl⟩ |⟨j3,g3,rfl⟩<;>simp[-zx,-km,w1,c1,c2,ht,hst,h7,g7,g8,zg,htl,ht2,hro,d0,y3,hi,hb,c4,mkl,q1,q2,q3,q4,hTa,hb',hTb,hMo,hm,hm2]
   ·subst hm;rcases hS2 with⟨rfl,rfl⟩ |⟨j2,g2,rfl⟩<;>rcases hS3 with⟨rfl,rfl⟩ |⟨j3,g3,rfl⟩<;>simp[-zx,-km,w1,w2,c1,c2,ht,hst,h7,g7,g8,zg,htl,ht2,hro,d0,y3,hi,hb,mkl,q1,q2,q3,q4,hTa,hb',hTb,hMo]<;>rfl
 |e ht =>
  have c2:¬(t:Int)<l.length:=wA
  simp only[inC,show ZlG []=[] from rfl,show zb []=[] from rfl]at y3 d0;refine⟨fun Bf=>?_,fun b2 b3 b4 b5 M4 M5 r1 r2 md fp1 fp2 hTa hb' hTb hMo=>?_⟩
  ·have h:(8:Int)<n2\/¬(8:Int)<n2/\(8:Int)<n3:=by
    simp only[jp]at Bf;omega
   rcases h with q1 |⟨q1,q2⟩
   ·rcases hS2 with⟨rfl,rfl⟩ |⟨j2,g2,rfl⟩<;>first|omega|simp[-zx,-km,w1,c1,c2,ht,h7,g7,g8,zg,htl,ht2,hro,d0,y3,hi,hb,c4,q1]
   ·rcases hS2 with⟨rfl,rfl⟩ |⟨j2,g2,rfl⟩<;>rcases hS3 with⟨rfl,rfl⟩ |⟨j3,g3,rfl⟩<;>first|omega|simp[-zx,-km,w1,c1,c2,ht,h7,g7,g8,zg,htl,ht2,hro,d0,y3,hi,hb,c4,q1,q2]
  ·have q1:¬(8:Int)<n2:=wA
   have q2:¬(8:Int)<n3:=wA
   refine⟨fun hm=>?_,fun hm=>?_⟩
   ·have hm2:(md==1)=false:=by simpa using hm
    rcases hS2 with⟨rfl,rfl⟩ |⟨j2,g2,rfl⟩<;>rcases hS3 with⟨rfl,rfl⟩ |⟨j3,g3,rfl⟩<;>simp[-zx,-km,w1,c1,c2,ht,h7,g7,g8,zg,htl,ht2,hro,d0,y3,hi,hb,c4,q1,q2,hTa,hb',hTb,hMo,hm,hm2]
   ·subst hm;rcases hS2 with⟨rfl,rfl⟩ |⟨j2,g2,rfl⟩<;>rcases hS3 with⟨rfl,rfl⟩ |⟨j3,g3,rfl⟩<;>simp[-zx,-km,w1,w2,c1,c2,ht,h7,g7,g8,zg,htl,ht2,hro,d0,y3,hi,hb,q1,q2,hTa,hb',hTb,hMo]<;>rfl
variable{S:StV}{zs:List Zon}{ss:List Sgn}{k:Nat}{d e:NdV}{g f:RgV}{c c2:Int}{es fs:List Zou}{v w u p q v2 w2 u2 p2 q2:Nat}{M M':Mem}
def TM.cp(h:TM S d e g f c c2 es fs v w u p q v2 w2 u2 p2 q2 M)(hk:∀i,(i=1\/i=p\/i=q\/i=4\/i=p2\/i=q2)->M'[i]?=M[i]?):TM S d e g f c c2 es fs v w u p q v2 w2 u2 p2 q2 M' :=
 ⟨⟨(hk _ wD).trans h.a.nd,(hk _ wD).trans h.a.rg,(hk _ wD).trans h.a.mp,h.a.kp,h.a.kq,h.a.pq⟩,⟨(hk _ wD).trans h.b.nd,(hk _ wD).trans h.b.rg,(hk _ wD).trans h.b.mp,h.b.kp,h.b.kq,h.b.pq⟩,h.n1,h.n2,h.n3,h.n4⟩
def ZtK{l:List Zjo}(hl:smB l=true)(s:Nat):Zlc (Ztc l s)/\(Ztc l s).jP.length<=1/\(Ztc l s).jD.length<=10/\(Ztc l s).jO.length<=10:=by
 unfold Ztc;split
 ·rename_i h;have h0:=Zqy hl (jf h);simp only[smB,jk,jw]at hl;have hx:=hl.2 _ (jf h);simp only[ZpQ,jk,decide_eq_true_eq]at hx;have h1:(stI s l[s]).jP.length<=1:=by grind [stI]
  refine⟨⟨wA,by grind [stI],by grind [stI],fun y hy=>?_⟩,h1,by grind [stI],by grind [stI]⟩;simp only[stI,jW]at hy;obtain⟨z,hz,rfl⟩:=hy;exact h0.sc z (qo hz)
 ·exact⟨⟨wD,wD,wD,fun y hy=>by grind⟩,wD,wD,wD⟩
structure OrN(S:StV)(zs:List Zon)(ss:List Sgn)(l:List Zjo)(late:List Int)(t:Nat)(d' e':NdV)(g':RgV)(c' c2':Int)(es' fs':List Zou)(v' w' u' p' q' v2' w2' u2' p2' q2':Nat)(M5:Mem):Prop where
 oro:Oro S zs ss d' e' g' es' fs' (Ztc l) (dl late) t
 h1:Zrc S d' g' c' es' (24*t)
 h2:Zrc S e' g' c2' fs' (24*t)
 tm:TM S d' e' g' g' c' c2' es' fs' v' w' u' p' q' v2' w2' u2' p2' q2' M5
 n7:p'≠7/\q'≠7/\p2'≠7/\q2'≠7
 h7:M5[7]?=some (tbk (Ztb l t) t)
 kn:t=l.length+4->d'.qy=e'.qy
def Zt9(hL:ZkT S zs ss)(hb:S.kH=0)(hsi:S.uk=1000)(l:List Zjo)(hl:smB l=true)(h6:l.length<=6)(late:List Int)(hAw:R L Cs ZlH [] []=some (.w (Bo true),[]))(t:Nat)(ht:t<l.length+4)
  (H:OrN S zs ss l late t d e g c c2 es fs v w u p q v2 w2 u2 p2 q2 M) :
  (∃M',l4Y l late t M=some (.ret,[(6,.w (Bo true))],M')) \/
  ∃d' e' g' c' c2' es' fs' v' w' u' p' q' v2' w2' u2' p2' q2' M',OrN S zs ss l late (t+1) d' e' g' c' c2' es' fs' v' w' u' p' q' v2' w2' u2' p2' q2' M'/\l4Y l late t M=l4Y l late (t+1) (km 8 (o4E l late (t+1)) M'):=by
 obtain⟨H,h1,h2,hM,⟨s1,s2,s3,s4⟩,h7,-⟩:=H;have hS:=hL.ok;have hmd:∀k:Int,R L Cs zny [W k,W 5] []=some (.w (W (k % 5)),[]):=fun k=>zEW k 5 wC wC
 obtain⟨la1,la2,la3⟩:=hM.a.len;obtain⟨lb1,lb2,lb3⟩:=hM.b.len;have hml:=(jy.1 h7).1;obtain⟨m1,m2⟩:=hM.n1;obtain⟨m3,m4⟩:=hM.n2;have hdd:=ZuG late;have hTl:=Zt3 l;have hTo:=ZtK hl;obtain⟨y,hy⟩:∃y,y=bkS (Ztc l) (dl late) t (t+1) ⟨t,[],[],[]⟩:=⟨_,rfl⟩;have hyB:Bck (Ztc l) (dl late) t y:=by rw[hy];exact Zuo hdd hTl
 have hyt:y.tick=t:=by rw[hy,ZtH]
 have hys:y.jP.length<=8:=by
  have:=ZtQ (dd:=dl late) (t:=t) (fun s=>(hTo s).2.1) (t+1) ⟨t,[],[],[]⟩;rw[<-hy]at this;simp at this;omega
 obtain⟨vb,C1,C2,C3,hNw⟩:∃vb C1 C2 C3,Now l t (Ztc l t) vb C1 C2 C3:=by
  by_cases hlt:t<l.length
  ·refine⟨_,_,_,_,.x _ hlt fun M=>?_⟩;have h:=Zt2 l[t] t (Zqy hl (jf hlt));rw[show Ztc l t=stI t l[t] from dif_pos hlt];simp only[inC]at h ⊢;simp[h]
  ·exact⟨_,_,_,_,by rw[show Ztc l t=⟨t,[],[],[]⟩ from dif_neg hlt];exact .e hlt⟩
 have hK1:∀N,zla N [Pt 1,.a [I t,C1,C2,C3]]=some [Pt 1,.a (inC (Ztc l t))]:=fun N=>by
  have:=ZtU l t;generalize Ztc l t=X at *;cases hNw with
  |x=>simp[this]
  |e=>rfl
 have hK2:([Pt 1,WV.a [I t,C1,C2,C3]]:List WV).flatMap WV.sls=[]:=by
  generalize Ztc l t=X at hNw;cases hNw<;>simp[WV.sls]
 obtain⟨MC,hMC⟩:∃MC,MC=Zuz l (Ztc l t) t vb C1 C2 C3 M:=⟨_,rfl⟩;have hMCl:MC.length=M.length+3:=by rw[hMC];simp
 have hMCg:∀i,i<M.length->i≠7->MC[i]?=M[i]?:=fun i hi h=>by
  rw[hMC,jo (by simpa using hi),jz (ko h)]
 have hMC7:MC[7]?=some (tbk (Ztb l (t+1)) (t+1)):=by
  rw[hMC,jo (by simpa using hml),jS hml,<-ZtI]
 have hMCi:MC[M.length]?=some (bxv vb 4 [I t,C1,C2,C3]):=by
  rw[hMC,kJ wD];simp
 have hMCb:MC[M.length+1]?=some (bxv 1 4 [I t,.jc,.jc,.jc]):=by
  rw[hMC,kJ wD];simp
 have hBk:Bk (M.length+3) (M.length+1) t MC (inF ⟨t,[],[],[]⟩) MC :=
  ⟨wA,fun _ _ _=>rfl,1,fun _=>.jc,fun _=>none,hMCb,fun i hi=>(by match i,hi with |0,_ |1,_ |2,_=>exact .nil),fun _ _ _ _ _ _ h=>(by cases h)⟩
 obtain⟨k,M3,y3,B3⟩:=Ztr (.c (.jb (ZoM l))) late M.length (M.length+1) t wA (t+1) (M.length+3) (M.length+3) wA (jm _) wA wA (Ztb l (t+1)) (Ztc l) MC (fun i=>by have:=hTo i;omega) hmd hMC7 wA (fun i hi=>ZtT l wA) (t+1) ⟨t,[],[],[]⟩ MC (jm _) (by simp;omega) (by simp;omega) (by simp;omega) hBk;rw[<-hy]at B3;rw[show(((t+1:Nat):Int)-1)=(t:Int) by omega,hMC]at y3;have e3:=B3.ue;have hlen3:=B3.len;obtain⟨vx,F,o,hx,Lx,-⟩:=B3.bx;have hL2:=(Lx 1 wC).lenS;have hL3:=(Lx 2 wC).lenS;rw[show(inF y 1).length=y.jD.length from ZuH _]at hL2;rw[show(inF y 2).length=y.jO.length from ZuH _]at hL3;obtain⟨big,go⟩:=ZuP l h6 late t ht M M3 k vx vb _ _ C1 C2 C3 (F 0) (F 1) (F 2) (Ztc l t) (ZtU l t) hNw h7 hAw y3 ((e3 M.length wA wA).trans hMCi) hx hL2 hL3;by_cases Bf:8<y.jD.length\/8<y.jO.length\/8<(Ztc l t).jD.length\/8<(Ztc l t).jO.length
 ·exact .inl ⟨_,big Bf⟩
 obtain⟨hX,hX1,-⟩:=hTo t;have hyo:Zlc y:=⟨wA,wA,wA,fun a ha=>by
  rw[hy]at ha;rcases Zuk a (t+1) _ ha with h |⟨s,h⟩
  ·cases h
  ·exact(hTo s).1.sc a h⟩
 have hM3:TM S d e g g c c2 es fs v w u p q v2 w2 u2 p2 q2 M3:=hM.cp fun i hi=>by
  have hi':i<M.length/\i≠7:=by rcases hi with rfl |rfl |rfl |rfl |rfl |rfl<;>exact⟨wA,wA⟩
  rw[e3 i wA wA,hMCg i hi'.1 hi'.2]
 obtain⟨d',g',c',es',v',w',u',p',q',M4,fp1,H1,hM4,hlen4,hT1,hn1,hP1,hD1,hF1⟩:=Zrr (zs:=zs) (ss:=ss) hS h1 wA (by rw[H.now];omega) hX hM3.a (by rw[ZtU,H.now]) ⟨wA,wA,wA⟩;obtain⟨M4',fp1',hTa,hl4',hg4'⟩:=ZtG (cf:=R L Cs) (f:=Zh5) (hK1 M3) rfl (by simp[WV.sls]) wD (by rw[hK2];exact hT1);obtain rfl:M4'=M4:=qw fun i=>hg4' i (by rw[hK2];simp)
 have hTM4:=hM3.fst hM4 hF1;have hx4:M4'[M.length+1]?=some (bxv vx 4 [I t,F 0,F 1,F 2]):=((hF1 (M.length+1) wA wA wA wA).1).trans hx;have fz:∀i,i<3->zdR M4' (F i)=some (.jb (inF y i)):=fun i hi=>((Lx i hi).ue fun j hj hn hjl=>(hF1 j hjl wA wA wA).1).frz
 obtain⟨J,hJ⟩:∃J,J=(o 0).toList++((o 1).toList++(o 2).toList):=⟨_,rfl⟩;have hsl:([Pt 4,WV.a [I t,F 0,F 1,F 2]]:List WV).flatMap WV.sls=J:=by
  rw[hJ,<-(Lx 0 wC).sl,<-(Lx 1 wC).sl,<-(Lx 2 wC).sl];simp[WV.sls]
 have hsm:∀j,j∈J->M.length+3<=j/\j<M3.length:=fun j hj=>by
  rw[hJ]at hj;simp only[jL,Option.mem_toList,Option.mem_def]at hj;rcases hj with h|h|h
  ·exact(Lx 0 wC).lt h
  ·exact(Lx 1 wC).lt h
  ·exact(Lx 2 wC).lt h
 have hfz:zla M4' [Pt 4,.a [I t,F 0,F 1,F 2]]=some [Pt 4,.a (inC y)]:=by
  have f4:zdR M4' (.ptr 4 0 0 0)=some (.ptr 4 0 0 0):=rfl;simp[-zdR,fz,f4,Zqm,hyt,inF]
 obtain⟨N,hN⟩:∃N,N=zbg M4' (([Pt 4,WV.a [I t,F 0,F 1,F 2]]:List WV).flatMap WV.sls):=⟨_,rfl⟩;have hNg:∀i,i∉J->N[i]?=M4'[i]?:=fun i hi=>by rw[hN,hsl];exact zu3 _ _ _ hi
 have hNl:N.length=M4'.length:=by rw[hN,zgi]
 have pA:∀j,j∈J->j≠p'/\j≠q':=fun j hj=>by
  have:=hsm j hj;exact(hF1 j this.2 wA wA wA).2
 have hTN:TM S d' e g' g c' c2 es' fs v' w' u' p' q' v2 w2 u2 p2 q2 N:=hTM4.cp fun i hi=>hNg i fun hj=>by
  have a1:=pA i hj;have a2:=hsm i hj;omega
 obtain⟨e',f',c2',fs',v2',w2',u2',p2',q2',M5',fp2,H2,hM5,hlen5,hT2,hn2,hP2,hD2,hF2⟩:=Zrr (zs:=zs) (ss:=ss) hS h2 wA (by rw[H.now2];omega) hyo hTN.b (by rw[hyt,H.now2]) ⟨hys,wA,wA⟩;have hTM5':=hTN.snd hM5 hF2;rw[hN]at hT2;obtain⟨M5,fp2',hTb,hl5,hg5⟩:=ZtG (cf:=R L Cs) (f:=Zh5) hfz rfl (by simp[WV.sls]) wD hT2;rw[hsl]at hg5;have hTM5:TM S d' e' g' f' c' c2' es' fs' v' w' u' p' q' v2' w2' u2' p2' q2' M5:=hTM5'.cp fun i hi=>hg5 i fun hj=>by
  have a1:=pA i hj;have a2:=hsm i hj;have a3:=(hF2 i wA wA wA wA).2;omega
 have hMo:=hTM5.a.same (.inl ⟨_,rfl⟩) (Zmn S d' g' c' es' v' w' u');have h74:=hF1 7 wA wA wA wA;have n7s:7∉J:=fun hj=>by have:=hsm 7 hj;omega
 have h75:=hF2 7 wA wA wA wA;obtain⟨g1,g2⟩:=go wA wA wA wA M4' M5 _ _ _ _ _ hTa hx4 hTb hMo;by_cases hm:d'.mode=1
 ·obtain⟨rfl,O',hk⟩:=H.tick hS hb hsi hTl hdd wA h1 h2 rfl hyB hm hD1 hD2;refine .inr ⟨d',e',f',c',c2',es',fs',v',w',u',p',q',v2',w2',u2',p2',q2',M5,⟨O',by rw[Nat.mul_succ];exact H1,by rw[Nat.mul_succ];exact H2,hTM5,⟨ko h74.2.1,ko h74.2.2,ko h75.2.1,ko h75.2.2⟩,?_,fun he=>hk fun s hs hs2=>Zt5 l (by have:=hdd s;omega)⟩,g2 hm⟩;rw[hg5 7 n7s,h75.1,hNg 7 n7s,h74.1,e3 7 wA wA];exact hMC7
 ·exact .inl ⟨_,g1 hm⟩
end Go.TrRun
set_option maxRecDepth 100000
namespace Go.TrRun
open Go Go.Eng Go.PlanLaw
def mpA:zD:=⟨0,[⟨1,[(0,0),(100000,0)],1500,1500,[],100000⟩],[],[],[]⟩
def Zn8:StV:=⟨mpA,[0],⟨4000,20,60,30,0⟩,⟨10000,10000,0,0⟩,0,8,5,true⟩
def Zod{l:zfn}(h:l∈mpA.jd):l=⟨1,[(0,0),(100000,0)],1500,1500,[],100000⟩:=jB.1 h
def Zoh(a:Int):zS mpA a=[]:=by
 by_cases h:mpA.jd.length<=a.toNat
 ·exact zyt h
 ·have e:a.toNat=0:=by
   have:mpA.jd.length=1:=rfl;omega
  unfold zS;rw[e];rfl
def Zor:zcp mpA where
 small:=⟨wC,fun l h=>by rw[Zod h];decide,fun l h=>by rw[Zod h];intro x hx;cases hx⟩
 chk:=zah.2 ⟨200,by kernel_rfl⟩
 rchk:=zah.2 ⟨200,by kernel_rfl⟩
 len:=fun l h=>by rw[Zod h];exact zah.2 ⟨200,by kernel_rfl⟩
 rlen:=fun l h=>by rw[Zod h];exact zah.2 ⟨200,by kernel_rfl⟩
 Cf:=fun l h=>by rw[Zod h];decide
 kind:=fun l h=>by rw[Zod h];exact .inl rfl
 vY:=fun l h=>by rw[Zod h];decide
def Zos:zmq mpA [] [] where
 qO:=Zor
 one:=⟨fun l h=>by rw[Zod h];exact⟨0,0,100000,0,rfl,⟨wC,wC,zah.2 ⟨400,by kernel_rfl⟩,zah.2 ⟨400,by kernel_rfl⟩,zah.2 ⟨400,by kernel_rfl⟩,zah.2 ⟨400,by kernel_rfl⟩⟩⟩,wC⟩
 yn:=⟨wC,fun a=>by rw[Zoh];decide,fun a x h=>(by rw[Zoh]at h;cases h),fun a x h=>(by rw[Zoh]at h;cases h),fun a x h=>(by rw[Zoh]at h;cases h)⟩
 zd:=⟨rfl,rfl,wC,wC,fun z h=>(by cases h),fun z h=>(by cases h),fun z h=>(by cases h)⟩
 asc:=fun _ _=>wD
 nd:=fun z h=>by cases h
 pv:=fun z h=>by cases h
def Zok:∀l:List Int,∀a,zKh mpA [] a l=[]
 |[],_=>rfl
 |x::l,a=>by
  unfold zKh;rw[Zok l];rfl
def Zol:zKj mpA [] []:=⟨Zos,wC,wC,wC,⟨by kernel_rfl,by kernel_rfl⟩,fun l _=>by rw[Zok];simp[zN1],fun l _=>by rw[Zok];decide⟩
def Zoq:ZkT Zn8 [] [] where
 ok:=⟨Zol,by kernel_rfl,by unfold Car.ok Zn8;simp only;omega,wC,wC⟩
 be:=⟨⟨rfl,rfl⟩,wC,wC,wC,fun p h=>(by rw[show zKh Zn8.m [] 0 Zn8.r=[] from Zok _ _]at h;cases h),by kernel_rfl,wC⟩
 con:=fun z h=>by cases h
 wl:=fun w h=>by cases h
abbrev scA:zZP:=⟨0,[⟨0,0,60000⟩],[]⟩
def Zoi:R L Cs Zn7 [] []=some (.w (.a (ZlR Zn8)),[]):=zah.2 ⟨200,by kernel_rfl⟩
def Zot:Zlu Zn8 (Zoc Zn8 [] [] scA)=20/\(Zoc Zn8 [] [] scA).looked=1/\(Zoc Zn8 [] [] scA).mode=1/\(Zoc Zn8 [] [] scA).now=1:=by
 have h1:decide (Zlu Zn8 (Zoc Zn8 [] [] scA)=20/\(Zoc Zn8 [] [] scA).looked=1/\(Zoc Zn8 [] [] scA).mode=1/\(Zoc Zn8 [] [] scA).now=1)=true:=by kernel_rfl
 exact of_decide_eq_true h1
def Zog(S:StV)(d:NdV)(g:RgV)(c:Int)(es:List Zou)(v w u:Nat):R L Cs Zoa [Pt 0] (ndM S d g c es v w u)=some (.w (W d.looked),ndM S d g c es v w u):=by
 have h:=ZkQ S d g c es v w u;obtain⟨s0,s1,s2,s3,s4,n,ini,p⟩:=g;rw[zUa Zob rfl];cases ini<;>simp[ndM,ndC,rgC,mpB,bxv]at h<;>simp[ZiM,h]
abbrev Zom(S:StV)(d:NdV)(g:RgV)(es:List Zou)(v w u:Nat)(x0 q:Int):Mem:=[bxv v 46 (ndX S d 1 2),bxv w 12 (rgC 1 g),mpB 1 es u,lit5 x0 q,lit6 x0 q true 2]
def Zoe{S:StV}{d:NdV}{g:RgV}{es:List Zou}{v w u:Nat}{x0 q:Int}(hi:g.ini=false){f:Nat}{n:Int}
  (hR:R L Cs f [Pt 0] (ndM S d g 1 es v w u)=some (.w (W n),ndM S d g 1 es v w u)) :
  zx (R L Cs) ⟨true⟩ (.c (.fn f [] [])) [Pt 0] (Zom S d g es v w u x0 q)=some (.w (W n),Zom S d g es v w u x0 q,.no):=by
 obtain⟨s0,s1,s2,s3,s4,na,ini,p⟩:=g;simp only at hi;subst hi;simp[ndM,ndC,rgC,mpB,bxv]at hR;simp[Zom,ndX,hR,Zly]
def Zop{S:StV}{zs:List Zon}{ss:List Sgn}(hL:ZkT S zs ss) :
  ∃fp,zx (R L Cs) ⟨true⟩ (.c (.fn ZlW [] [])) [.a (ZlR S)] []=some (.t [Pt 0,W 0],[bxv 4 46 (ndX S (nd0 S) 1 2),bxv 0 12 (rgC 1 (rg0 S)),mpB 0 [] 0],fp):=by
 have CM:=Znz hL.ok hL.be;refine⟨.no,?_⟩;simp[ndM,ndC,rgC,mpB,bxv,nd0,rg0,ZlR]at CM;simp[CM,ndX,nd0,rg0,ZlR]
def Zoo{S:StV}{d':NdV}{g':RgV}{es':List Zou}{v' w' u':Nat}(hi':g'.ini=false)(h:4<v'/\0<w'/\u'≠0)(x0 q x:Int)
  (hR:R L Cs Zh5 [Pt 0,.a (inC ⟨0,[⟨0,[⟨x0,0,q⟩],[]⟩],[],[]⟩)] (ndM S (nd0 S) (rg0 S) 0 [] 4 0 0)=some (.t [W x,W 0],ndM S d' g' 1 es' v' w' u')) :
  ∃fp,zx (R L Cs) ⟨true⟩ (.c (.fn Zh5 [] [])) [Pt 0,.a [I 0,.slice 4 1 3 0 1 none,.jc,.jc]] [bxv 4 46 (ndX S (nd0 S) 1 2),bxv 0 12 (rgC 1 (rg0 S)),mpB 0 [] 0,lit5 x0 q,lit6 x0 q false 1] =
   some (.t [W x,W 0],Zom S d' g' es' v' w' u' x0 q,fp):=by
 obtain⟨r0,r1,r2,r3,r4,ma,jni,p'⟩:=g';simp only at hi';subst hi';have a1:¬v'=4:=wA
 have a2:¬w'=0:=wA
 have a3:=h.2.2;refine⟨.wr [(4,0,whole),(0,0,whole),(1,0,whole),(2,0,whole)],?_⟩;simp[ndM,ndC,rgC,mpB,bxv,inC,ZlG,zb,zX6,zWx,zWX,zWs,rg0,nd0]at hR;simp[ndX,hR,Zly,a1,a2,a3,rg0,nd0,lit5,lit6,zX]
def Zoj:R L Cs ZlH [] []=some (.w (Bo true),[]):=by
 obtain⟨v1,w1,u1,hv1,hi1,hT1⟩:=Zre Zoq rfl scA rfl rfl wC;obtain⟨f1,f2,f3,f4⟩:=Zot;generalize Zoc Zn8 [] [] scA=d1 at *;generalize ZhJ (rg0 Zn8) _=g1 at *;rw[f1]at hT1;have c1:zx (R L Cs) ⟨true⟩ (.c (.fn Zn7 [] [])) [] []=some (.w (.a (ZlR Zn8)),[],.no):=by simp[Zoi]
 obtain⟨fp,hN⟩:=Zop Zoq;obtain⟨fp1,hT⟩:=Zoo hi1 hv1 0 60000 20 hT1;have hL:=Zoe (S:=Zn8) (x0:=0) (q:=60000) hi1 (Zog Zn8 d1 g1 1 (Zju ⟨[],[],[scA]⟩) v1 w1 u1);have hM:=Zoe (S:=Zn8) (x0:=0) (q:=60000) hi1 (Zmn Zn8 d1 g1 1 (Zju ⟨[],[],[scA]⟩) v1 w1 u1);have hW:=Zoe (S:=Zn8) (x0:=0) (q:=60000) hi1 (ZnT Zn8 d1 g1 1 (Zju ⟨[],[],[scA]⟩) v1 w1 u1);rw[f2]at hL;rw[f3]at hM;rw[f4]at hW;rw[zUa Zn9 rfl];simp (maxSteps:=400000) [-zx,Zin,c1,hN,hT,hL,hM,hW,zg,zX,zH]
def ZnL.law{m:zD}{zs:List Zon}{ss:List Sgn}(hM:ZnL m zs ss){k:Int}(hk:k=0\/zaK m ((zDT m k).headD 0)=1)(bu si dl s sp ln ac br ra:Int)(sg:Bool):ZkT (Zns m k bu si dl s sp ln ac br ra sg) zs ss:=by
 obtain⟨h1,h2⟩:=ZnR hM hk bu si dl s sp ln ac br ra sg;exact⟨h1,h2,fun z hz=>hM.con _ h1.vS z hz,hM.wl⟩
def ZoT{α:Type}{f:α->List Cl}{P:List Cl->Prop}(h:∀r,P r->∃x,r=f x):∀{rows:List (List Cl)},(∀r∈rows,P r)->∃l:List α,rows=l.map f
 |[],_=>⟨[],rfl⟩
 |r::rows,hr=>by
  obtain⟨x,rfl⟩:=h r (hr r (js ..));obtain⟨l,rfl⟩:=ZoT h (fun q hq=>hr q (jE _ hq));exact⟨x::l,rfl⟩
abbrev ZpZ:Sh:=.st [zmN,zmN,zmN]
abbrev Zqs:Sh:=.st [zmN,.slice (.st [zmN,.slice ZpZ,.slice ZpZ]),.slice ZpZ,.slice ZpZ]
abbrev Zng:Sh:=.st [zmN,zmN,zmN,zmN,zmN,zmN,zmN,zmN,zmN,zmN,zmN,.bool]
def Zpm{r:List Cl}(h:zfo ZpZ r):∃a b c,r=[I a,I b,I c]:=by
 simp only[zfo,znD]at h;obtain⟨_,_,rfl,⟨a,rfl,_⟩,_,_,rfl,⟨b,rfl,_⟩,_,_,rfl,⟨c,rfl,_⟩,rfl⟩:=h;exact⟨a,b,c,rfl⟩
def Zqj{rows:List (List Cl)}(h:∀r∈rows,zfo Zqs r):∃l,rows=ZoM l:=ZoT (f:=inC) (P:=zfo Zqs) (fun r hr=>by
 unfold zfo at hr;simp only[znD]at hr;obtain⟨_,_,rfl,h1,_,_,rfl,h2,_,_,rfl,h3,_,_,rfl,h4,rfl⟩:=hr;simp only[zfo]at h1;obtain⟨t,rfl,_⟩:=h1;unfold zfo at h2 h3 h4;obtain⟨r2,rfl,_,h2⟩:=h2;obtain⟨r3,rfl,_,h3⟩:=h3;obtain⟨r4,rfl,_,h4⟩:=h4;obtain⟨sc,rfl⟩:=ZoT (f:=zX6) (fun r hr=>by
  unfold zfo at hr;simp only[znD]at hr;obtain⟨_,_,rfl,h1,_,_,rfl,h2,_,_,rfl,h3,rfl⟩:=hr;simp only[zfo]at h1;obtain⟨t,rfl,_⟩:=h1;unfold zfo at h2 h3;obtain⟨r2,rfl,_,h2⟩:=h2;obtain⟨r3,rfl,_,h3⟩:=h3;obtain⟨se,rfl⟩:=ZoT (f:=zWX) (fun r hr=>by obtain⟨a,b,c,rfl⟩:=Zpm hr;exact⟨⟨a,b,c⟩,rfl⟩) h2;obtain⟨pt,rfl⟩:=ZoT (f:=zYi) (fun r hr=>by obtain⟨a,b,c,rfl⟩:=Zpm hr;exact⟨⟨a,b,c⟩,rfl⟩) h3;exact⟨⟨t,se,pt⟩,rfl⟩) h2
 obtain⟨sp,rfl⟩:=ZoT (f:=ZjO) (fun r hr=>by obtain⟨a,b,c,rfl⟩:=Zpm hr;exact⟨⟨a,b,c⟩,rfl⟩) h3;obtain⟨fx,rfl⟩:=ZoT (f:=ZjO) (fun r hr=>by obtain⟨a,b,c,rfl⟩:=Zpm hr;exact⟨⟨a,b,c⟩,rfl⟩) h4;exact⟨⟨t,sc,sp,fx⟩,rfl⟩) h
def Zp0{r:List Cl}(h:zfo Zng r):∃n q dl bu si s sp ln ac br ra sg,r=stA n q dl bu si s sp ln ac br ra sg:=by
 simp only[zfo,znD]at h;obtain⟨_,_,rfl,⟨n1,rfl,_⟩,_,_,rfl,⟨n2,rfl,_⟩,_,_,rfl,⟨n3,rfl,_⟩,_,_,rfl,⟨n4,rfl,_⟩,_,_,rfl,⟨n5,rfl,_⟩,_,_,rfl,⟨n6,rfl,_⟩,_,_,rfl,⟨n7,rfl,_⟩,_,_,rfl,⟨n8,rfl,_⟩,_,_,rfl,⟨n9,rfl,_⟩,_,_,rfl,⟨n10,rfl,_⟩,_,_,rfl,⟨n11,rfl,_⟩,_,_,rfl,⟨b,rfl⟩,rfl⟩:=h;exact⟨n1,n2,n3,n4,n5,n6,n7,n8,n9,n10,n11,b,rfl⟩
set_option maxRecDepth 10000
open Go Go.Eng Go.PlanLaw
variable{S:StV}{zs:List Zon}{ss:List Sgn}{d e:NdV}{g:RgV}{c c2:Int}{es fs:List Zou}{v w u p q v2 w2 u2 p2 q2:Nat}{M:Mem}
def OrN.drop{l:List Zjo}{late:List Int}{t:Nat}(H:OrN S zs ss l late t d e g c c2 es fs v w u p q v2 w2 u2 p2 q2 M)(E:Env):OrN S zs ss l late t d e g c c2 es fs v w u p q v2 w2 u2 p2 q2 (km 8 E M) :=
 ⟨H.oro,H.h1,H.h2,H.tm.drop wD E,H.n7,by rw[ZqU wD];exact H.h7,H.kn⟩
def ZtE(hL:ZkT S zs ss)(hb:S.kH=0)(hsi:S.uk=1000)(l:List Zjo)(hl:smB l=true)(h6:l.length<=6)(late:List Int)(hAw:R L Cs ZlH [] []=some (.w (Bo true),[])):∀(r t:Nat) (d e:NdV) (g:RgV) (c c2:Int) (es fs:List Zou) (v w u p q v2 w2 u2 p2 q2:Nat) (M:Mem),t+r=l.length+4 ->
  OrN S zs ss l late t d e g c c2 es fs v w u p q v2 w2 u2 p2 q2 M ->
  (∃M',l4Y l late t M=some (.ret,[(6,.w (Bo true))],M')) \/
  ∃d' e' g' c' c2' es' fs' v' w' u' p' q' v2' w2' u2' p2' q2' M',OrN S zs ss l late (l.length+4) d' e' g' c' c2' es' fs' v' w' u' p' q' v2' w2' u2' p2' q2' M' /\
   l4Y l late t M=some (.exit 0,(63,.w (Bo false))::o4E l late (l.length+4),M')
 |0,t,d,e,g,c,c2,es,fs,v,w,u,p,q,v2,w2,u2,p2,q2,M,hr,H=>by
  obtain rfl:t=l.length+4:=wA
  refine .inr ⟨d,e,g,c,c2,es,fs,v,w,u,p,q,v2,w2,u2,p2,q2,M,H,?_⟩;have w1:IntKind.i64.wrap ((l.length:Int)+4)=(l.length:Int)+4:=zTd _ wA wA;unfold l4Y;rw[ZfM ZsZ.eq_1];simp[w1]
 |r+1,t,d,e,g,c,c2,es,fs,v,w,u,p,q,v2,w2,u2,p2,q2,M,hr,H=>by
  rcases Zt9 hL hb hsi l hl h6 late hAw t wA H with⟨M',h⟩ |⟨d',e',g',c',c2',es',fs',v',w',u',p',q',v2',w2',u2',p2',q2',M',H',h⟩
  ·exact .inl ⟨M',h⟩
  ·rw[h];exact ZtE hL hb hsi l hl h6 late hAw r (t+1) _ _ _ _ _ _ _ _ _ _ _ _ _ _ _ _ _ _ wA (H'.drop _)
def Oro.zero(S:StV)(ht:S.t0=0)(T:Nat->Zjo)(dd:Nat->Nat):Oro S zs ss (nd0 S) (nd0 S) (rg0 S) [] [] T dd 0:=by
 refine⟨by show S.t0=_;rw[ht];rfl,by show S.t0=_;rw[ht];rfl,by exact ht,by exact ht,fun s _=>?_,fun s _=>?_,fun h=>absurd h (by show ¬0<0;omega),rfl,rfl,rfl⟩
 ·rw[if_neg wA];rfl
 ·rw[if_neg wA];exact HEq.refl _
def Ztx(hL:ZkT S zs ss)(ht:S.t0=0)(n r dl' bu si s sp ln ac br ra:Int)(sg:Bool)(l:List Zjo)(late:List Int)
  (hSet:R L Cs ZlI [.a (stA n r dl' bu si s sp ln ac br ra sg)] []=some (.w (.a (ZlR S)),[]))
  (hAw:R L Cs ZlH [] []=some (.w (Bo true),[])) :
  ∃M',R L Cs Zs9 [.a (stA n r dl' bu si s sp ln ac br ra sg),.c (.jb (ZoM l)),.c (.jb (zu late))] []=some (.w (Bo true),M'):=by
 have hSm:=Zqn l;have hSt:=ZrG n r dl' bu si s sp ln ac br ra sg hSet;have hL':=Zrz hL;have ht':(Zrq S).t0=0:=ht;have hb:(Zrq S).kH=0:=rfl;have hsi:(Zrq S).uk=1000:=rfl;generalize Zrq S=S' at *;have c1:∀M,zx (R L Cs) ⟨true⟩ (.c (.fn Zrn [] [])) [.a (stA n r dl' bu si s sp ln ac br ra sg)] M=some (.w (.a (ZlR S')),M,.no):=fun M=>by simp[hSt]
 have c2:∀M,zx (R L Cs) ⟨true⟩ (.c (.fn ZoI [] [])) [.c (.jb (ZoM l))] M=some (.w (Bo (smB l)),M,.no):=fun M=>by simp[hSm]
 have c4:∀M,zx (R L Cs) ⟨true⟩ (.c (.fn ZlH [] [])) [] M=some (.w (Bo true),M,.no):=fun M=>by simp[hAw]
 rw[zUa Ztd rfl];by_cases hl:smB l=true
 ·rw[hl]at c2;by_cases h6:l.length<=6
  ·have d6:¬(6:Int)<l.length:=wA
   by_cases hla:late.length<=8
   ·have CM:=Znz hL'.ok hL'.be;have hN:zx (R L Cs) ⟨true⟩ (.c (.fn ZlW [] [])) [.a (ZlR S')] [bx 12 (stA n r dl' bu si s sp ln ac br ra sg)]=some (.t [Pt 1,W 0],[bx 12 (stA n r dl' bu si s sp ln ac br ra sg),bxv 4 46 (ndX S' (nd0 S') 2 3),bxv 0 12 (rgC 2 (rg0 S')),mpB 0 [] 0],.no):=by
     simp[ndM,ndC,rgC,mpB,bxv,nd0,rg0,ZlR]at CM;simp[CM,ndX,nd0,rg0,ZlR]
    have hN2:zx (R L Cs) ⟨true⟩ (.c (.fn ZlW [] [])) [.a (ZlR S')] [bx 12 (stA n r dl' bu si s sp ln ac br ra sg),bxv 4 46 (ndX S' (nd0 S') 2 3),bxv 0 12 (rgC 2 (rg0 S')),mpB 0 [] 0]=some (.t [Pt 4,W 0],[bx 12 (stA n r dl' bu si s sp ln ac br ra sg),bxv 4 46 (ndX S' (nd0 S') 2 3),bxv 0 12 (rgC 2 (rg0 S')),mpB 0 [] 0,bxv 4 46 (ndX S' (nd0 S') 5 6),bxv 0 12 (rgC 5 (rg0 S')),mpB 0 [] 0],.no):=by
     simp[ndM,ndC,rgC,mpB,bxv,nd0,rg0,ZlR]at CM;simp[CM,ndX,nd0,rg0,ZlR]
    have hM:TM S' (nd0 S') (nd0 S') (rg0 S') (rg0 S') 0 0 [] [] 4 0 0 2 3 4 0 0 5 6 [bx 12 (stA n r dl' bu si s sp ln ac br ra sg),bxv 4 46 (ndX S' (nd0 S') 2 3),bxv 0 12 (rgC 2 (rg0 S')),mpB 0 [] 0,bxv 4 46 (ndX S' (nd0 S') 5 6),bxv 0 12 (rgC 5 (rg0 S')),mpB 0 [] 0,some { box:=false,esz:=4,rows:=[],gen:=0,fz:=false,ver:=0 }]:=⟨⟨rfl,rfl,rfl,wC,wC,wC⟩,⟨rfl,rfl,rfl,wC,wC,wC⟩,wC,wC,wC,wC⟩;have H:=Zrc.zero hL' ht';have HO:OrN S' zs ss l late 0 (nd0 S') (nd0 S') (rg0 S') 0 0 [] [] 4 0 0 2 3 4 0 0 5 6 _:=⟨Oro.zero S' ht' _ _,H,H,hM,wC,rfl,fun h=>absurd h wA⟩;have hl8:¬(8:Int)<late.length:=wA
    rcases ZtE hL' hb hsi l hl h6 late hAw (l.length+4) 0 _ _ _ _ _ _ _ _ _ _ _ _ _ _ _ _ _ _ wA HO with⟨M',h⟩ |⟨d',e',g',c',c2',es',fs',v',w',u',p',q',v2',w2',u2',p2',q2',M',H',h⟩
    ·simp only[l4Y,o4E,jg]at h;by_cases h0:M'=[]<;>simp[-zx,Zs3,c1,c2,c4,hN,hN2,h,d6,hl8,h0,zg]
    ·have hKa:=H'.tm.a.same (.inr (.inl ⟨_,rfl⟩)) (ZnK d' g' c' es' v' w' u' (by have:=H'.h1.kb.nd.len hL'.ok;omega));have hKb:=H'.tm.b.same (.inr (.inl ⟨_,rfl⟩)) (ZnK e' g' c2' fs' v2' w2' u2' (by have:=H'.h2.kb.nd.len hL'.ok;omega));have hMb:=H'.tm.b.same (.inl ⟨_,rfl⟩) (Zmn S' e' g' c2' fs' v2' w2' u2');rw[H'.oro.m2]at hMb;have hI:=ztl d'.qy e'.qy (by have:=H'.h1.kb.nd.len hL'.ok;omega);rw[H'.kn rfl,zwl]at hI;rw[H'.kn rfl]at hKa;have hI2:∀M,zx (R L Cs) ⟨true⟩ (.c (.fn zll [] [])) [.a (zG e'.qy),.a (zG e'.qy)] M=some (.w (Bo true),M,.no):=fun M=>by
      simp only[zG]at hI ⊢;simp[hI]
     have hne:M'≠[]:=fun e=>by have:=H'.tm.a.len.1;rw[e]at this;cases this
     simp only[l4Y,o4E,jg]at h;simp[-zx,Zs3,c1,c2,c4,hN,hN2,h,d6,hl8,hne,zg,hKa,hKb,hI2,hMb]
   ·have hl8:(8:Int)<late.length:=wA
    simp[-zx,Zs3,c2,c4,d6,hl8]
  ·have d6:(6:Int)<l.length:=wA
   simp[-zx,Zs3,c2,c4,d6]
 ·simp only[Al]at hl;rw[hl]at c2;simp[-zx,Zs3,c2,c4]
def ZtD:∀xs,zot [Zng,.slice Zqs,.slice zmN] xs->∃M',R L Cs Zs9 xs []=some (.w (.c (.bool true)),M'):=by
 intro xs h;simp only[zot]at h;obtain⟨c1,y1,rfl,h1,c2,y2,rfl,h2,c3,y3,rfl,h3,rfl⟩:=h;obtain⟨n,q,dl,bu,si,s,sp,ln,ac,br,ra,sg,rfl⟩:=Zp0 h1;unfold zfo at h2 h3;obtain⟨rows,rfl,_,vl⟩:=h2;obtain⟨l,rfl⟩:=Zqj vl;obtain⟨rows3,rfl,_,CE⟩:=h3;obtain⟨dr,rfl,_⟩:=zxB (rows:=rows3) (fun r hr=>by simp only[zfo];exact CE r hr);obtain⟨m,zs,ss,k,hM,hk,hS⟩:=ZnS n q dl bu si s sp ln ac br ra sg;exact Ztx (hM.law hk bu si dl s sp ln ac br ra sg) rfl n q dl bu si s sp ln ac br ra sg l dr hS Zoj
end Go.TrRun
namespace Go.TrRun
open Go Go.Eng
def zq2(a:Int):R L [] zlc [W a] []=some (.w (Bo false),[]):=by
 rw[zUa zle rfl];simp[zfU]
def zn3(a:Int):R L [] zi5 [W a] []=some (.w (Bo false),[]):=by
 rw[zUa zi9 rfl];simp[ze6]
def zuB(a b:Int):R L [] zi6 [W a,W b] []=some (.w (W (zgQ a b)),[]):=by
 have h1:=zq2 a;have h2:=zq2 b;rw[zUa zja rfl];unfold zgQ;by_cases h:a<b
 ·simp[zb3,h1,h2,h]
 ·by_cases h':b<a
  ·simp[zb3,h1,h2,h,h']
  ·simp[zb3,h1,h2,h,h']
def zmv(a b:Int):R L [] zhQ [W a,W b] []=some (.w (W (zgQ a b)),[]):=by
 have h1:=zn3 a;have h2:=zn3 b;rw[zUa zhS rfl];unfold zgQ;by_cases h:a<b
 ·simp[zbq,h1,h2,h]
 ·by_cases h':b<a
  ·simp[zbq,h1,h2,h,h']
  ·simp[zbq,h1,h2,h,h']
def zxz(b:Bool):R L [] zhB [Bo b] []=some (.w (W (if b then 1 else 0)),[]):=by
 rw[zUa zp4 rfl];cases b<;>simp[zhF]
def orI(a b c d:Int):Int:=if a=0 then(if b=0 then(if c=0 then d else c) else b) else a
abbrev orE(a b c d:Int)(i:Int):Env:=[(7,.w (W 4)),(6,.w (.c (.jb [[I a],[I b],[I c],[I d]]))),(3,.w (W 0)),(8,.w (W i))]
def or0(a b c d:Int):R L [] zob [.c (.jb [[I a],[I b],[I c],[I d]])] []=some (.w (W (orI a b c d)),[]):=by
 have w1:IntKind.i64.wrap 1=1:=rfl;have w2:IntKind.i64.wrap 2=2:=rfl;have w3:IntKind.i64.wrap 3=3:=rfl;have w4:IntKind.i64.wrap 4=4:=rfl;have h4:Y L [] zab (some [7,6,3,8]) 0 (orE a b c d 4) []=some (.exit 0,[(9,.w (Bo false)),(3,.w (W 0)),(6,.w (.c (.jb [[I a],[I b],[I c],[I d]]))),(7,.w (W 4)),(8,.w (W 4))],[]):=by
  rw[ZfM zab.eq_1];simp
 have h3:Y L [] zab (some [7,6,3,8]) 0 (orE a b c d 3) []=if d=0 then Y L [] zab (some [7,6,3,8]) 0 (orE a b c d 4) [] else some (.ret,[(2,.w (W d))],[]):=by
  rw[ZfM zab.eq_1];by_cases h:d=0
  ·simp[h,w4]
  ·have h':(d !=0)=true:=by simp[h]
   simp[h,h']
 have h2:Y L [] zab (some [7,6,3,8]) 0 (orE a b c d 2) []=if c=0 then Y L [] zab (some [7,6,3,8]) 0 (orE a b c d 3) [] else some (.ret,[(2,.w (W c))],[]):=by
  rw[ZfM zab.eq_1];by_cases h:c=0
  ·simp[h,w3]
  ·have h':(c !=0)=true:=by simp[h]
   simp[h,h']
 have h1:Y L [] zab (some [7,6,3,8]) 0 (orE a b c d 1) []=if b=0 then Y L [] zab (some [7,6,3,8]) 0 (orE a b c d 2) [] else some (.ret,[(2,.w (W b))],[]):=by
  rw[ZfM zab.eq_1];by_cases h:b=0
  ·simp[h,w2]
  ·have h':(b !=0)=true:=by simp[h]
   simp[h,h']
 have h0:Y L [] zab (some [7,6,3,8]) 0 (orE a b c d 0) []=if a=0 then Y L [] zab (some [7,6,3,8]) 0 (orE a b c d 1) [] else some (.ret,[(2,.w (W a))],[]):=by
  rw[ZfM zab.eq_1];by_cases h:a=0
  ·simp[h,w1]
  ·have h':(a !=0)=true:=by simp[h]
   simp[h,h']
 rw[h4]at h3;rw[h3]at h2;rw[h2]at h1;rw[h1]at h0;rw[zUa zow rfl];unfold orI;by_cases c1:a=0<;>by_cases c2:b=0<;>by_cases c3:c=0<;>by_cases c4:d=0<;>simp only[c1,c2,c3,c4,if_true,if_false]at h0 ⊢<;>simp[zfw,h0]
def zoG(b:Bool):Int:=if b then 1 else 0
def zu6(a b:Swp):Int:=orI (zgQ a.lane b.lane) (zgQ a.lo b.lo) (zgQ a.hi b.hi) (zoG a.cap-zoG b.cap)
def less0(a b:Swp):R L [] zar [.a (swC a),.a (swC b)] []=some (.w (W (zu6 a b)),[]):=by
 have h1:=zuB a.lane b.lane;have h2:=zmv a.lo b.lo;have h3:=zmv a.hi b.hi;have h4:R L [] zhB [Bo a.cap] []=some (.w (W (zoG a.cap)),[]):=zxz a.cap;have h5:R L [] zhB [Bo b.cap] []=some (.w (W (zoG b.cap)),[]):=zxz b.cap;have h6:=or0 (zgQ a.lane b.lane) (zgQ a.lo b.lo) (zgQ a.hi b.hi) (zoG a.cap-zoG b.cap);have w:IntKind.i64.wrap (zoG a.cap-zoG b.cap)=zoG a.cap-zoG b.cap:=by
  cases a.cap<;>cases b.cap<;>rfl
 unfold zu6;generalize zgQ a.lane b.lane=x1 at *;generalize zgQ a.lo b.lo=x2 at *;generalize zgQ a.hi b.hi=x3 at *;generalize zoG a.cap=o1 at *;generalize zoG b.cap=o2 at *;rw[zUa zsv rfl];simp[zjq,swC,h1,h2,h3,h4,h5,h6,w,zg,zX]
def zz5(a b:Swp):(zu6 a b<0)<->ltS a b=true:=by
 rw[zz2];unfold zu6 orI zgQ zoG;by_cases h1:a.lane<b.lane
 ·simp[h1]
 ·by_cases h2:b.lane<a.lane
  ·have:¬a.lane=b.lane:=wA
   simp[h1,h2,this]
  ·have e1:a.lane=b.lane:=wA
   by_cases h3:a.lo<b.lo
   ·simp[e1,h3]
   ·by_cases h4:b.lo<a.lo
    ·have:¬a.lo=b.lo:=wA
     simp[e1,h3,h4,this]
    ·have e2:a.lo=b.lo:=wA
     by_cases h5:a.hi<b.hi
     ·simp[e1,e2,h5]
     ·by_cases h6:b.hi<a.hi
      ·have:¬a.hi=b.hi:=wA
       simp[e1,e2,h5,h6,this]
      ·have e3:a.hi=b.hi:=wA
       cases a.cap<;>cases b.cap<;>simp[e1,e2,e3]
end Go.TrRun
namespace Go.Eng
open Go
def zsf [zb0](hasc:zb0.asc){P:Program}{cf:za4}(hcf:FnS P cf){f:FuncId}(hf:f<zb0.base){args:List WV}{vs:Array Value}{w:World}{σ:zP}{j:Inj}{M':Mem}{c:Int}(h:cf f args []=some (.w (.c (.int .i64 c)),M'))
  (hag:zM σ w) (hvs:zac σ j args vs.toList) (hm:MR (fun b=>w.heap.size<=b) σ j [] w) :
  Calls P f vs w fun e w'=>e=.returned (.int .i64 c)/\∃q os',w'=Go.Sort.grow (w.drewN q) os':=by
 obtain⟨_,_,_,_,hc⟩:=(hcf f args [] _ _ h (fun id hid=>by simp at hid)).1 hf;refine Calls.yf (hc (fun b=>w.heap.size<=b) σ j w vs (fun _ h=>h) hag hm hvs) ?_;rintro e w' ⟨v,σ',j',rfl,hr,_,_,hst⟩;have hr:VC σ' j' (.int .i64 c) v:=hr;cases hr;refine⟨rfl,w'.drawn-w.drawn,w'.heap.extract w.heap.size w'.heap.size,?_⟩;have h1:=hst.side.os;have h2:=hst.side.output;have h3:=hst.side.tape;have h4:=hst.side.drawn hasc;have h5:=hst.frame;have h6:=hst.size;cases w' with |mk heap tape drawn os output =>
 simp only at h1 h2 h3 h4 h5 h6;subst h1;subst h2;subst h3;unfold Go.Sort.grow World.drewN;simp only[World.mk.injEq,and_true,true_and];refine⟨?_,wA⟩;apply Array.ext_getElem?;intro i;by_cases hi:i<w.heap.size
 ·rw[k9 hi];exact h5 i hi wA
 ·rw[yG wA,qt];by_cases hi2:i<heap.size
  ·rw[if_pos wA]
   congr 1;omega
  ·rw[if_neg wA];exact qu wA
end Go.Eng
namespace Go.TrRun
open Go Go.Eng
def zxp(σ:zP)(j:Inj)(x:List Int):WVR σ j (.a (swC (zik x))) (.agg (ziq 4 7 x).toArray):=by
 refine⟨_,rfl,?_⟩;have e:(ziq 4 7 x).toArray.toList=[.int .i64 (x.getD 0 0),.int .i64 (x.getD 1 0),.int .i64 (x.getD 2 0),.bool (x.getD 3 0 !=0)]:=rfl;rw[e];refine⟨rfl,fun n c v hc hv=>?_⟩
 match n with
 |0=>cases hc;cases hv;exact .int _ _ _
 |1=>cases hc;cases hv;exact .int _ _ _
 |2=>cases hc;cases hv;exact .int _ _ _
 |3=>cases hc;cases hv;exact .bool _ _
 |n+4=>cases hc
def zAw(x y:List Int):Int:=zu6 (zik x) (zik y)
def zBC:(fun x y=>decide (zAw x y<0))=ltZ 4 7:=by
 funext x y;have h:=zz5 (zik x) (zik y);have e:ltS (zik x) (zik y)=ltZ 4 7 x y:=by
  have k1:∀z:List Int,zji (zik z)=zsY 4 7 z:=fun z=>by
   simp[zji,zik,zsY,List.range,List.range.loop,zgk]
  simp only[ltS,ltZ,k1,if_true]
 rw[e]at h;unfold zAw;cases hz:ltZ 4 7 x y with
 |true=>exact decide_eq_true (h.2 hz)
 |false =>
  refine decide_eq_false fun h'=>?_
  rw[h.1 h']at hz;cases hz
def zwK{P:Program}(u9:P.follows .mixedOrders=true)(hL:(L.map fun p=>zcF P an true p.1)=L.map fun p=>some p.2)(hV:zql P L=true)(hf:zar<P.funcs.size)(x y:List Int)(W:World) :
  Calls P zar #[.agg (ziq 4 7 x).toArray,.agg (ziq 4 7 y).toArray] W fun e w'=>e=.returned (.int .i64 (zAw x y))/\∃q os',w'=Go.Sort.grow (W.drewN q) os':=by
 letI:=zww P (fun f=>L.lookup f) (Zpp []);obtain⟨n,hn⟩:=zah.1 (less0 (zik x) (zik y));exact zsf (fun c hc=>by cases hc) (zsT u9 hL hV (Cs:=[]) rfl (fun c hc=>by cases hc) n) (f:=zar) hf hn (zml (W:=W) fun g row hr=>by cases hr) (.cons (zxp _ _ x) (.cons (zxp _ _ y) .nil)) MR.nil
end Go.TrRun
