/- This text proves what functions of this seat's program answer, run by the evaluator; no condition. -/
import Derived.Test.YtjmaghejnagjeaaGreatRTx2
import Derived.KernelRfl
set_option maxHeartbeats 8000000
set_option linter.unusedVariables false
set_option linter.unusedSimpArgs false
set_option linter.unusedSectionVars false
set_option maxRecDepth 10000
namespace Go.TrRun
open Go Go.Eng
abbrev sN(N k:Nat):WV:=.c (.slice 0 N 6 0 k none)
abbrev cB:WV:=fn1 zdc
def swp(l:List zk)(i j:Nat):List zk:=(l.set i (l.getD j z9)).set j (l.getD i z9)
@[simp] theorem zDr(l:List zk)(i j:Nat):(swp l i j).length=l.length:=by simp[swp]
def zxj(f:FuncId)(N k:Nat)(rest:List Int)(l l':List zk):Prop:=∀v,∃v',v<=v'/\(v'=v->l'=l)/\R L Cs f (sN N k::(rest.map W++[cB])) [blk v l]=some (.t [],[blk v' l'])
theorem zrm{f:FuncId}{N k:Nat}{a b:Int}{l l':List zk}(h:zxj f N k [a,b] l l')(hl:l.length=N)(hl':l'.length=N)(v:Nat) :
  ∃v' fp,v<=v'/\(v'=v->l'=l)/\zx (R L Cs) ⟨false⟩ (fn1 f) [.c (.slice 0 N 6 0 k none),W a,W b,fn1 zdc] [some { box:=false,esz:=6,rows:=zI l,gen:=N,fz:=false,ver:=v }]=some (.t [],[some { box:=false,esz:=6,rows:=zI l',gen:=N,fz:=false,ver:=v' }],fp):=by
 obtain⟨v',h1,h2,h3⟩:=h v;simp only[blk,hl,hl',List.map,jh,jf]at h3;by_cases hv:v'=v
 ·have:=h2 hv;subst hv this;exact⟨v',.no,h1,h2,by simp[h3]⟩
 ·exact⟨v',.wr [(0,0,whole)],h1,h2,by simp[h3,hv]⟩
theorem zfi{f:FuncId}{N k:Nat}{a b c:Int}{l l':List zk}(h:zxj f N k [a,b,c] l l')(hl:l.length=N)(hl':l'.length=N)(v:Nat) :
  ∃v' fp,v<=v'/\(v'=v->l'=l)/\zx (R L Cs) ⟨false⟩ (fn1 f) [.c (.slice 0 N 6 0 k none),W a,W b,W c,fn1 zdc] [some { box:=false,esz:=6,rows:=zI l,gen:=N,fz:=false,ver:=v }]=some (.t [],[some { box:=false,esz:=6,rows:=zI l',gen:=N,fz:=false,ver:=v' }],fp):=by
 obtain⟨v',h1,h2,h3⟩:=h v;simp only[blk,hl,hl',List.map,jh,jf]at h3;by_cases hv:v'=v
 ·have:=h2 hv;subst hv this;exact⟨v',.no,h1,h2,by simp[h3]⟩
 ·exact⟨v',.wr [(0,0,whole)],h1,h2,by simp[h3,hv]⟩
def swR(a b:Nat):Nat->Nat->List zk->List zk
 |_,0,l=>l
 |i,m+1,l=>swR a b (i+1) m (swp l (a+i) (b+i))
@[simp] theorem zBg(a b:Nat):∀(m i:Nat) (l:List zk),(swR a b i m l).length=l.length
  |0,_,_=>rfl
  |m+1,i,l=>by rw[swR,zBg a b m];simp
theorem zv8(N k a b n:Nat)(hk:k<=N)(hN:N<=900000000000)(ha:a+n<=k)(hb:b+n<=k):∀(m i:Nat) (l:List zk) (v:Nat),i+m=n->l.length=N->∃v',v<=v'/\(v'=v->swR a b i m l=l) /\
  Y L Cs zbo (some [10,3,2,0,1]) 1 [(10,.w (W i)),(3,.w (W n)),(2,.w (W b)),(0,.w (sN N k)),(1,.w (W a))] [some { box:=false,esz:=6,rows:=zI l,gen:=N,fz:=false,ver:=v }] =
    some (.exit 0,[(13,.w (Bo false)),(10,.w (W n)),(3,.w (W n)),(2,.w (W b)),(0,.w (sN N k)),(1,.w (W a))],[some { box:=false,esz:=6,rows:=zI (swR a b i m l),gen:=N,fz:=false,ver:=v' }]):=by
 intro m;induction m with
 |zero =>
  intro i l v hi hl;have:i=n:=by omega
  subst this;refine⟨v,jo _,fun _=>rfl,?_⟩;rw[zj zbo.eq_1];simp[swR]
 |succ m ih =>
  intro i l v hi hl;obtain⟨v',h1,h2,h3⟩:=ih (i+1) (swp l (a+i) (b+i)) (v+1+1) (by omega) (by simp[hl]);refine⟨v',by omega,fun hv=>by omega,?_⟩;rw[swR,<-h3,zj zbo.eq_1];have hw:=zB (i:=i) (by omega);have hwa:IntKind.i64.wrap ((a:Int)+(i:Int))=((a+i:Nat):Int):=by rw[zTd _ (by omega) (by omega)];omega
  have hwb:IntKind.i64.wrap ((b:Int)+(i:Int))=((b+i:Nat):Int):=by rw[zTd _ (by omega) (by omega)];omega
  have a1:a+i<k:=by omega
  have a2:b+i<k:=by omega
  have a3:a+i<N:=by omega
  have a4:b+i<N:=by omega
  have a5:a+i<l.length:=by omega
  have a6:b+i<l.length:=by omega
  have hin:i<n:=by omega
  have hs1:=zeg l (a+i) l[b+i];have hs2:=zeg (l.set (a+i) l[b+i]) (b+i) l[a+i];have hsw:swp l (a+i) (b+i)=(l.set (a+i) l[b+i]).set (b+i) l[a+i]:=by simp[swp,a5,a6]
  have e1:(((a+i:Nat):Int)).toNat=a+i:=by omega
  have e2:(((b+i:Nat):Int)).toNat=b+i:=by omega
  simp only[ze]at hs1 hs2;clear ih h3 h1 h2;simp[hin,hw,hwa,hwb,a1,a2,a3,a4,a5,a6,hl,hs1,hs2,hsw,ze,e1,e2,zy3,-Int.natCast_add]
theorem zmn(N k a b n:Nat)(hk:k<=N)(hN:N<=900000000000)(ha:a+n<=k)(hb:b+n<=k)(l:List zk)(hl:l.length=N):zxj zg5 N k [(a:Int),(b:Int),(n:Int)] l (swR a b 0 n l):=by
 intro v;obtain⟨v',h1,h2,h3⟩:=zv8 N k a b n hk hN ha hb n 0 l v (by omega) hl;refine⟨v',h1,h2,?_⟩;simp only[jg]at h3;rw[zUa zhc rfl];simp[zcH,h3,hl,blk]
def zkm(m:Nat):Nat->Nat->Nat->List zk->Nat×List zk
 |0,i,j,l=>(i,l)
 |f+1,i,j,l=>if i=j then(i,l) else if j<i then zkm m f (i-j) j (swR (m-i) m 0 j l) else zkm m f i (j-i) (swR (m-i) (m+j-i) 0 i l)
theorem znR(m:Nat):∀(f i j:Nat) (l:List zk),(zkm m f i j l).2.length=l.length/\(0<i->0<j->i+j<=f->0<(zkm m f i j l).1/\(zkm m f i j l).1<=i/\(zkm m f i j l).1<=j)
 |0,i,j,l=>⟨rfl,fun _ _ _=>by omega⟩
 |f+1,i,j,l=>by
  rw[zkm];split
  ·exact⟨rfl,fun _ _ _=>by dsimp;omega⟩
  ·split
   ·obtain⟨h1,h2⟩:=znR m f (i-j) j (swR (m-i) m 0 j l);exact⟨by rw[h1];simp,fun a b c=>by have:=h2 (by omega) b (by omega);omega⟩
   ·obtain⟨h1,h2⟩:=znR m f i (j-i) (swR (m-i) (m+j-i) 0 i l);exact⟨by rw[h1];simp,fun a b c=>by have:=h2 a (by omega) (by omega);omega⟩
theorem zzB(N k m:Nat)(hk:k<=N)(hN:N<=900000000000):∀(f i j:Nat) (l:List zk) (v:Nat),i+j<=f->0<i->0<j->i<=m->m+j<=k->l.length=N->∃v' j',v<=v'/\(v'=v->(zkm m f i j l).2=l) /\
  Y L Cs zbc (some [10,0,2,4,11]) 1 [(10,.w (W i)),(0,.w (sN N k)),(2,.w (W m)),(4,.w cB),(11,.w (W j))] [some { box:=false,esz:=6,rows:=zI l,gen:=N,fz:=false,ver:=v }] =
    some (.exit 0,[(20,.w (Bo false)),(10,.w (W (zkm m f i j l).1)),(0,.w (sN N k)),(2,.w (W m)),(4,.w cB),(11,.w (W j'))],[some { box:=false,esz:=6,rows:=zI (zkm m f i j l).2,gen:=N,fz:=false,ver:=v' }]):=by
 intro f;induction f with
 |zero=>intro i j l v h1 h2;omega
 |succ f ih =>
  intro i j l v hf hi hj him hmj hl;rw[zkm];by_cases c:i=j
  ·subst c;refine⟨v,i,jo _,fun _=>by rw[if_pos rfl],?_⟩;rw[if_pos rfl,zj zbc.eq_1];simp
  ·rw[if_neg c];have hne:((i:Int) !=(j:Int))=true:=by simp;omega
   have hne2:((i:Int)==(j:Int))=false:=by simp;omega
   have hw1:IntKind.i64.wrap ((m:Int)-(i:Int))=((m-i:Nat):Int):=by rw[zTd _ (by omega) (by omega)];omega
   by_cases c2:j<i
   ·rw[if_pos c2];have hd:=zmn N k (m-i) m j hk hN (by omega) (by omega) l hl;obtain⟨v1,fp,q1,q2,q3⟩:=zfi hd hl (by simp[hl]) v;obtain⟨v',j',h1,h2,h3⟩:=ih (i-j) j (swR (m-i) m 0 j l) v1 (by omega) (by omega) hj (by omega) hmj (by simp[hl]);refine⟨v',j',by omega,fun hv=>by rw[h2 (by omega),q2 (by omega)],?_⟩;rw[<-h3,zj zbc.eq_1];have hw2:IntKind.i64.wrap ((i:Int)-(j:Int))=((i-j:Nat):Int):=by rw[zTd _ (by omega) (by omega)];omega
    have hc:(j:Int)<(i:Int):=by omega
    clear ih h3 hd;simp[hne,hne2,c,c2,hc,hw1,hw2,q3,-zx]
   ·rw[if_neg c2];have hd:=zmn N k (m-i) (m+j-i) i hk hN (by omega) (by omega) l hl;obtain⟨v1,fp,q1,q2,q3⟩:=zfi hd hl (by simp[hl]) v;obtain⟨v',j',h1,h2,h3⟩:=ih i (j-i) (swR (m-i) (m+j-i) 0 i l) v1 (by omega) hi (by omega) him (by omega) (by simp[hl]);refine⟨v',j',by omega,fun hv=>by rw[h2 (by omega),q2 (by omega)],?_⟩;rw[<-h3,zj zbc.eq_1];have hw2:IntKind.i64.wrap ((j:Int)-(i:Int))=((j-i:Nat):Int):=by rw[zTd _ (by omega) (by omega)];omega
    have hw3:IntKind.i64.wrap ((m:Int)+(j:Int))=((m+j:Nat):Int):=by rw[zTd _ (by omega) (by omega)];omega
    have hw4:IntKind.i64.wrap (((m+j:Nat):Int)-(i:Int))=((m+j-i:Nat):Int):=by rw[zTd _ (by omega) (by omega)];omega
    have hc:¬(j:Int)<(i:Int):=by omega
    clear ih h3 hd;simp[hne,hne2,c,c2,hc,hw1,hw2,hw3,hw4,q3,-zx,-Int.natCast_add]
def ztB(a m b:Nat)(l:List zk):List zk:=swR (m-(zkm m (b-a) (m-a) (b-m) l).1) m 0 (zkm m (b-a) (m-a) (b-m) l).1 (zkm m (b-a) (m-a) (b-m) l).2
@[simp] theorem zDj(a m b:Nat)(l:List zk):(ztB a m b l).length=l.length:=by simp[ztB,(znR m _ _ _ l).1]
theorem zAQ(N k a m b:Nat)(hk:k<=N)(hN:N<=900000000000)(ha:a<m)(hm:m<b)(hb:b<=k)(l:List zk)(hl:l.length=N):zxj ze4 N k [(a:Int),(m:Int),(b:Int)] l (ztB a m b l):=by
 intro v;obtain⟨v1,j',h1,h2,h3⟩:=zzB N k m hk hN (b-a) (m-a) (b-m) l v (by omega) (by omega) (by omega) (by omega) (by omega) hl;obtain⟨g1,g2⟩:=znR m (b-a) (m-a) (b-m) l;have g3:=g2 (by omega) (by omega) (by omega);unfold ztB;generalize zkm m (b-a) (m-a) (b-m) l=q at *;obtain⟨i,l1⟩:=q;dsimp only at *;have hd:=zmn N k (m-i) m i hk hN (by omega) (by omega) l1 (by omega);obtain⟨v2,fp,q1,q2,q3⟩:=zfi hd (by omega) (by simp;omega) v1;refine⟨v2,by omega,fun hv=>by rw[q2 (by omega),h2 (by omega)],?_⟩;rw[zUa zh9 rfl];have hw1:IntKind.i64.wrap ((m:Int)-(a:Int))=((m-a:Nat):Int):=by rw[zTd _ (by omega) (by omega)];omega
 have hw2:IntKind.i64.wrap ((b:Int)-(m:Int))=((b-m:Nat):Int):=by rw[zTd _ (by omega) (by omega)];omega
 have hw3:IntKind.i64.wrap ((m:Int)-(i:Int))=((m-i:Nat):Int):=by rw[zTd _ (by omega) (by omega)];omega
 simp[zdk,h3,hl,blk,g1,hw1,hw2,hw3,q3,-zx]
def bsF(p:Nat->Bool):Nat->Nat->Nat->Nat
 |0,i,_=>i
 |f+1,i,j=>if i<j then(if p ((i+j) / 2) then bsF p f ((i+j) / 2+1) j else bsF p f i ((i+j) / 2)) else i
theorem zju(p:Nat->Bool):∀(f i j:Nat),i<=j->i<=bsF p f i j/\bsF p f i j<=j
 |0,i,j,h=>⟨jo _,h⟩
 |f+1,i,j,h=>by
  rw[bsF];split
  ·split
   ·have:=zju p f ((i+j) / 2+1) j (by omega);omega
   ·have:=zju p f i ((i+j) / 2) (by omega);omega
  ·omega
theorem ztp(n:Nat)(h:n<4000000000000):IntKind.u64.wrap (n:Int)=(n:Int):=by
 simp[IntKind.wrap,IntKind.signed,IntKind.bits];omega
theorem zqe(n:Nat):Int.fdiv (n:Int) (2 ^ min 1 IntKind.u64.bits)=((n / 2:Nat):Int):=by
 show Int.fdiv (n:Int) 2=_;rw[Int.fdiv_eq_ediv_of_nonneg _ (by omega)];omega
theorem zqd(n:Nat)(h:n<4000000000000):IntKind.i64.wrap (n:Int)=(n:Int):=zTd _ (by omega) (by omega)
def pA(l:List zk)(a h:Nat):Bool:=decide (ziK (l.getD h z9) (l.getD a z9)<0)
def pB(l:List zk)(m h:Nat):Bool:=!decide (ziK (l.getD m z9) (l.getD h z9)<0)
def pC(l:List zk)(p c:Nat):Bool:=!decide (ziK (l.getD (p-c) z9) (l.getD c z9)<0)
theorem zxW(N k a:Nat)(hk:k<=N)(hN:N<=900000000000)(ha:a<k)(l:List zk)(hl:l.length=N)(v:Nat):∀(f i j:Nat),j-i<=f->i<=j->j<=k ->
  Y L Cs zaC (some [10,11,4,0,1]) 1 [(10,.w (W i)),(11,.w (W j)),(4,.w cB),(0,.w (sN N k)),(1,.w (W a))] [some { box:=false,esz:=6,rows:=zI l,gen:=N,fz:=false,ver:=v }] =
    some (.exit 0,[(33,.w (Bo false)),(10,.w (W (bsF (pA l a) f i j))),(11,.w (W (bsF (pA l a) f i j))),(4,.w cB),(0,.w (sN N k)),(1,.w (W a))],[some { box:=false,esz:=6,rows:=zI l,gen:=N,fz:=false,ver:=v }]):=by
 intro f;induction f with
 |zero =>
  intro i j hf hi hj;have:i=j:=by omega
  subst this;rw[bsF,zj zaC.eq_1];simp
 |succ f ih =>
  intro i j hf hi hj;rw[bsF];by_cases c:i<j
  ·rw[if_pos c];have hw1:IntKind.i64.wrap ((i:Int)+(j:Int))=((i+j:Nat):Int):=by rw[zTd _ (by omega) (by omega)];omega
   have hu:=ztp (i+j) (by omega);have hh:=zqe (i+j);generalize hhh:(i+j) / 2=h at *;have hi1:=zqd h (by omega);have hks:h<k:=by omega
   have hNs:h<N:=by omega
   have hls:h<l.length:=by omega
   have haN:a<N:=by omega
   have hal:a<l.length:=by omega
   have hc:=zop l[h] l[a];have hwh:=zB (i:=h) (by omega);have hp:pA l a h=decide (ziK l[h] l[a]<0):=by simp[pA,hls,hal]
   rw[hp];simp only[ze]at hc;by_cases q:ziK l[h] l[a]<0
   ·rw[if_pos (by simpa using q),<-ih (h+1) j (by omega) (by omega) hj,zj zaC.eq_1];clear ih;simp[c,hw1,hu,hh,hi1,hks,hNs,hls,haN,hal,hc,q,hwh,hl,ha,ze,-Int.natCast_add]
   ·rw[if_neg (by simpa using q),<-ih i h (by omega) (by omega) (by omega),zj zaC.eq_1];clear ih;simp[c,hw1,hu,hh,hi1,hks,hNs,hls,haN,hal,hc,q,hwh,hl,ha,ze,-Int.natCast_add]
  ·rw[if_neg c];have:i=j:=by omega
   subst this;rw[zj zaC.eq_1];simp
theorem zxU(N k m:Nat)(hk:k<=N)(hN:N<=900000000000)(ha:m<k)(l:List zk)(hl:l.length=N)(v:Nat):∀(f i j:Nat),j-i<=f->i<=j->j<=k ->
  Y L Cs zaB (some [14,15,4,2,0]) 1 [(14,.w (W i)),(15,.w (W j)),(4,.w cB),(2,.w (W m)),(0,.w (sN N k))] [some { box:=false,esz:=6,rows:=zI l,gen:=N,fz:=false,ver:=v }] =
    some (.exit 4,[(85,.w (Bo false)),(14,.w (W (bsF (pB l m) f i j))),(15,.w (W (bsF (pB l m) f i j))),(4,.w cB),(2,.w (W m)),(0,.w (sN N k))],[some { box:=false,esz:=6,rows:=zI l,gen:=N,fz:=false,ver:=v }]):=by
 intro f;induction f with
 |zero =>
  intro i j hf hi hj;have:i=j:=by omega
  subst this;rw[bsF,zj zaB.eq_1];simp
 |succ f ih =>
  intro i j hf hi hj;rw[bsF];by_cases c:i<j
  ·rw[if_pos c];have hw1:IntKind.i64.wrap ((i:Int)+(j:Int))=((i+j:Nat):Int):=by rw[zTd _ (by omega) (by omega)];omega
   have hu:=ztp (i+j) (by omega);have hh:=zqe (i+j);generalize hhh:(i+j) / 2=h at *;have hi1:=zqd h (by omega);have hks:h<k:=by omega
   have hNs:h<N:=by omega
   have hls:h<l.length:=by omega
   have haN:m<N:=by omega
   have hal:m<l.length:=by omega
   have hc:=zop l[m] l[h];have hwh:=zB (i:=h) (by omega);have hp:pB l m h = !decide (ziK l[m] l[h]<0):=by simp[pB,hls,hal]
   rw[hp];simp only[ze]at hc;by_cases q:ziK l[m] l[h]<0
   ·rw[if_neg (by simpa using q),<-ih i h (by omega) (by omega) (by omega),zj zaB.eq_1];clear ih;simp[c,hw1,hu,hh,hi1,hks,hNs,hls,haN,hal,hc,q,hwh,hl,ha,ze,-Int.natCast_add]
   ·rw[if_pos (by simpa using q),<-ih (h+1) j (by omega) (by omega) hj,zj zaB.eq_1];clear ih;simp[c,hw1,hu,hh,hi1,hks,hNs,hls,haN,hal,hc,q,hwh,hl,ha,ze,-Int.natCast_add]
  ·rw[if_neg c];have:i=j:=by omega
   subst this;rw[zj zaB.eq_1];simp
abbrev e5(b mid a m n p:Nat)(N k i j:Nat):Env:=[(20,.w (W i)),(3,.w (W b)),(18,.w (W mid)),(1,.w (W a)),(2,.w (W m)),(19,.w (W n)),(21,.w (W j)),(4,.w cB),(22,.w (W p)),(0,.w (sN N k))]
theorem zxS(N k b mid a m n p:Nat)(hk:k<=N)(hN:N<=900000000000)(hp1:p<=2000000000000)(l:List zk)(hl:l.length=N)(v:Nat):∀(f i j:Nat),j-i<=f->i<=j->j<=k->j<=p+1->p<k+i ->
  Y L Cs zaA (some [20,3,18,1,2,19,21,4,22,0]) 1 (e5 b mid a m n p N k i j) [some { box:=false,esz:=6,rows:=zI l,gen:=N,fz:=false,ver:=v }] =
    some (.exit 8,(151,.w (Bo false))::e5 b mid a m n p N k (bsF (pC l p) f i j) (bsF (pC l p) f i j),[some { box:=false,esz:=6,rows:=zI l,gen:=N,fz:=false,ver:=v }]):=by
 intro f;induction f with
 |zero =>
  intro i j hf hi hj hjp hpi;have:i=j:=by omega
  subst this;rw[bsF,zj zaA.eq_1];simp
 |succ f ih =>
  intro i j hf hi hj hjp hpi;rw[bsF];by_cases c:i<j
  ·rw[if_pos c];have hw1:IntKind.i64.wrap ((i:Int)+(j:Int))=((i+j:Nat):Int):=by rw[zTd _ (by omega) (by omega)];omega
   have hu:=ztp (i+j) (by omega);have hh:=zqe (i+j);generalize hhh:(i+j) / 2=h at *;have hi1:=zqd h (by omega);have hks:h<k:=by omega
   have hNs:h<N:=by omega
   have hls:h<l.length:=by omega
   have hw2:IntKind.i64.wrap ((p:Int)-(h:Int))=((p-h:Nat):Int):=by rw[zTd _ (by omega) (by omega)];omega
   have hkp:p-h<k:=by omega
   have hNp:p-h<N:=by omega
   have hlp:p-h<l.length:=by omega
   have hc:=zop l[p-h] l[h];have hwh:=zB (i:=h) (by omega);have hp:pC l p h = !decide (ziK l[p-h] l[h]<0):=by simp[pC,hls,hlp]
   rw[hp];simp only[ze]at hc;by_cases q:ziK l[p-h] l[h]<0
   ·rw[if_neg (by simpa using q),<-ih i h (by omega) (by omega) (by omega) (by omega) (by omega),zj zaA.eq_1];clear ih;simp[c,hw1,hu,hh,hi1,hks,hNs,hls,hw2,hkp,hNp,hlp,hc,q,hwh,hl,ze,-Int.natCast_add]
   ·rw[if_pos (by simpa using q),<-ih (h+1) j (by omega) (by omega) hj (by omega) (by omega),zj zaA.eq_1];clear ih;simp[c,hw1,hu,hh,hi1,hks,hNs,hls,hw2,hkp,hNp,hlp,hc,q,hwh,hl,ze,-Int.natCast_add]
  ·rw[if_neg c];have:i=j:=by omega
   subst this;rw[zj zaA.eq_1];simp
def upF:Nat->Nat->List zk->List zk
 |_,0,l=>l
 |k,c+1,l=>upF (k+1) c (swp l k (k+1))
def dnF:Nat->Nat->List zk->List zk
 |_,0,l=>l
 |k,c+1,l=>dnF (k-1) c (swp l k (k-1))
@[simp] theorem zBf:∀(c k:Nat) (l:List zk),(upF k c l).length=l.length
  |0,_,_=>rfl
  |c+1,k,l=>by rw[upF,zBf c];simp
@[simp] theorem zBN:∀(c k:Nat) (l:List zk),(dnF k c l).length=l.length
  |0,_,_=>rfl
  |c+1,k,l=>by rw[dnF,zBN c];simp
theorem zxV(N k i:Nat)(hk:k<=N)(hN:N<=900000000000)(hi0:0<i)(hi:i<=k):∀(c q:Nat) (l:List zk) (v:Nat),q+c=i-1->l.length=N->∃v',v<=v'/\(v'=v->upF q c l=l) /\
  Y L Cs zbv (some [13,10,0]) 1 [(13,.w (W q)),(10,.w (W i)),(0,.w (sN N k))] [some { box:=false,esz:=6,rows:=zI l,gen:=N,fz:=false,ver:=v }] =
    some (.exit 2,[(58,.w (Bo false)),(13,.w (W ((i-1:Nat):Int))),(10,.w (W i)),(0,.w (sN N k))],[some { box:=false,esz:=6,rows:=zI (upF q c l),gen:=N,fz:=false,ver:=v' }]):=by
 intro c;have hw0:IntKind.i64.wrap ((i:Int)-1)=((i-1:Nat):Int):=by rw[zTd _ (by omega) (by omega)];omega
 induction c with
 |zero =>
  intro q l v hq hl;have:q=i-1:=by omega
  subst this;refine⟨v,jo _,fun _=>rfl,?_⟩;rw[zj zbv.eq_1];simp[upF,hw0]
 |succ c ih =>
  intro q l v hq hl;obtain⟨v',h1,h2,h3⟩:=ih (q+1) (swp l q (q+1)) (v+1+1) (by omega) (by simp[hl]);refine⟨v',by omega,fun hv=>by omega,?_⟩;rw[upF,<-h3,zj zbv.eq_1];have hw:=zB (i:=q) (by omega);have a1:q<k:=by omega
  have a2:q+1<k:=by omega
  have a3:q<N:=by omega
  have a4:q+1<N:=by omega
  have a5:q<l.length:=by omega
  have a6:q+1<l.length:=by omega
  have hin:q<i-1:=by omega
  have hs1:=zeg l q l[q+1];have hs2:=zeg (l.set q l[q+1]) (q+1) l[q];have hsw:swp l q (q+1)=(l.set q l[q+1]).set (q+1) l[q]:=by simp[swp,a5,a6]
  have e2:(((q+1:Nat):Int)).toNat=q+1:=by omega
  simp only[ze]at hs1 hs2;clear ih h3 h1 h2;simp[hin,hw,hw0,a1,a2,a3,a4,a5,a6,hl,hs1,hs2,hsw,ze,e2,-Int.natCast_add]
theorem zxT(N k i:Nat)(hk:k<=N)(hN:N<=900000000000):∀(c q:Nat) (l:List zk) (v:Nat),i+c=q->q<k->l.length=N->∃v',v<=v'/\(v'=v->dnF q c l=l) /\
  Y L Cs zbu (some [17,14,0]) 1 [(17,.w (W q)),(14,.w (W i)),(0,.w (sN N k))] [some { box:=false,esz:=6,rows:=zI l,gen:=N,fz:=false,ver:=v }] =
    some (.exit 6,[(110,.w (Bo false)),(17,.w (W i)),(14,.w (W i)),(0,.w (sN N k))],[some { box:=false,esz:=6,rows:=zI (dnF q c l),gen:=N,fz:=false,ver:=v' }]):=by
 intro c;induction c with
 |zero =>
  intro q l v hq hqk hl;have:q=i:=by omega
  subst this;refine⟨v,jo _,fun _=>rfl,?_⟩;rw[zj zbu.eq_1];simp[dnF]
 |succ c ih =>
  intro q l v hq hqk hl;obtain⟨q,rfl⟩:∃r,q=r+1:=⟨q-1,by omega⟩;obtain⟨v',h1,h2,h3⟩:=ih q (swp l (q+1) q) (v+1+1) (by omega) (by omega) (by simp[hl]);refine⟨v',by omega,fun hv=>by omega,?_⟩;rw[dnF,yp,<-h3,zj zbu.eq_1];have hw:IntKind.i64.wrap (((q+1:Nat):Int)-1)=(q:Int):=by rw[zTd _ (by omega) (by omega)];omega
  have a1:q<k:=by omega
  have a2:q+1<k:=by omega
  have a3:q<N:=by omega
  have a4:q+1<N:=by omega
  have a5:q<l.length:=by omega
  have a6:q+1<l.length:=by omega
  have hin:i<q+1:=by omega
  have hs1:=zeg l (q+1) l[q];have hs2:=zeg (l.set (q+1) l[q]) q l[q+1];have hsw:swp l (q+1) q=(l.set (q+1) l[q]).set q l[q+1]:=by simp[swp,a5,a6]
  have e2:(((q+1:Nat):Int)).toNat=q+1:=by omega
  simp only[ze]at hs1 hs2;clear ih h3 h1 h2;simp[hin,hw,a1,a2,a3,a4,a5,a6,hl,hs1,hs2,hsw,ze,e2,-Int.natCast_add]
def zbS(a b:Nat):Nat:=(a+b) / 2
def loS(a m b:Nat):Nat:=if zbS a b<m then zbS a b+m-b else a
def hiS(a m b:Nat):Nat:=if zbS a b<m then zbS a b else m
def stS(a m b:Nat)(l:List zk):Nat:=bsF (pC l (zbS a b+m-1)) (hiS a m b-loS a m b) (loS a m b) (hiS a m b)
def enS(a m b:Nat)(l:List zk):Nat:=zbS a b+m-stS a m b l
def zjz(a m b:Nat)(l:List zk):List zk:=if stS a m b l<m/\m<enS a m b l then ztB (stS a m b l) m (enS a m b l) l else l
def zlI:Nat->Nat->Nat->Nat->List zk->List zk
 |0,_,_,_,l=>l
 |f+1,a,m,b,l =>
  if m-a=1 then upF a (bsF (pA l a) (b-m) m b-1-a) l
  else if b-m=1 then dnF m (m-bsF (pB l m) (m-a) a m) l
  else
   let l2:=if a<stS a m b l/\stS a m b l<zbS a b then zlI f a (stS a m b l) (zbS a b) (zjz a m b l) else zjz a m b l
   if zbS a b<enS a m b l/\enS a m b l<b then zlI f (zbS a b) (enS a m b l) b l2 else l2
@[simp] theorem zC6(a m b:Nat)(l:List zk):(zjz a m b l).length=l.length:=by unfold zjz;split<;>simp
@[simp] theorem zzn:∀(f a m b:Nat) (l:List zk),(zlI f a m b l).length=l.length
  |0,_,_,_,_=>rfl
  |f+1,a,m,b,l=>by
   rw[zlI];split
   ·simp
   ·split
    ·simp
    ·dsimp only;split<;>split<;>simp[zzn f]
structure Bd(a m b:Nat)(l:List zk):Prop where
 lo:loS a m b<=hiS a m b
 st:loS a m b<=stS a m b l/\stS a m b l<=hiS a m b
 hi:hiS a m b<=m/\a<=loS a m b
 en:m<=enS a m b l/\enS a m b l<=b
 mid:a<zbS a b/\zbS a b<b
 p:hiS a m b<=zbS a b+m-1+1/\zbS a b+m-1<b+loS a m b
 sm:loS a m b<4000000000000
theorem zDk{a m b:Nat}(h1:a<m)(h2:m<b)(hb:b<=900000000000)(l:List zk):Bd a m b l:=by
 have hm:zbS a b=(a+b) / 2:=rfl;have hlo:loS a m b<=hiS a m b:=by unfold loS hiS;split<;>omega
 have hst:=zju (pC l (zbS a b+m-1)) (hiS a m b-loS a m b) (loS a m b) (hiS a m b) hlo;have BS:loS a m b<=stS a m b l/\stS a m b l<=hiS a m b:=hst;have hen:enS a m b l=zbS a b+m-stS a m b l:=rfl;have e1:hiS a m b<=m/\a<=loS a m b/\loS a m b<4000000000000:=by unfold loS hiS;split<;>omega
 have e2:hiS a m b<=zbS a b+m-1+1/\zbS a b+m-1<b+loS a m b:=by unfold loS hiS;split<;>omega
 have e3:m<=zbS a b+m-stS a m b l/\zbS a b+m-stS a m b l<=b:=by
  have h3:=BS.1;have h4:=BS.2;by_cases c:zbS a b<m
  ·simp only[loS,if_pos c]at h3;simp only[hiS,if_pos c]at h4;omega
  ·simp only[loS,if_neg c]at h3;simp only[hiS,if_neg c]at h4;omega
 exact⟨hlo,BS,⟨e1.1,e1.2.1⟩,by rw[hen];exact e3,by omega,e2,e1.2.2⟩
theorem Ce{P Q C A B:Prop}(h:P/\Q->C)(h':¬(P/\Q)->A/\B):(P/\Q/\C)\/(P/\¬Q/\A/\B/\True)\/(¬P/\True/\A/\B/\True):=by
 by_cases p:P
 ·by_cases q:Q
  ·exact .inl ⟨p,q,h ⟨p,q⟩⟩
  ·have:=h' fun x=>q x.2
   exact .inr (.inl ⟨p,q,this.1,this.2,trivial⟩)
 ·have:=h' fun x=>p x.1
  exact .inr (.inr ⟨p,trivial,this.1,this.2,trivial⟩)
theorem zrM(N k:Nat)(hk:k<=N)(hN:N<=900000000000):∀(f a m b:Nat) (l:List zk),b-a<=f->a<m->m<b->b<=k->l.length=N->zxj zcQ N k [(a:Int),(m:Int),(b:Int)] l (zlI f a m b l):=by
 intro f;induction f with
 |zero=>intro a m b l h1 h2 h3;omega
 |succ f ih =>
  intro a m b l hf ham hmb hbk hl v;have w1:IntKind.i64.wrap ((m:Int)-(a:Int))=((m-a:Nat):Int):=by rw[zTd _ (by omega) (by omega)];omega
  have w2:IntKind.i64.wrap ((b:Int)-(m:Int))=((b-m:Nat):Int):=by rw[zTd _ (by omega) (by omega)];omega
  rw[zlI];by_cases c1:m-a=1
  ·rw[if_pos c1];have h1:=zxW N k a hk hN (by omega) l hl v (b-m) m b (jo _) (by omega) hbk;have hb:=zju (pA l a) (b-m) m b (by omega);obtain⟨v',g1,g2,h2⟩:=zxV N k (bsF (pA l a) (b-m) m b) hk hN (by omega) (by omega) (bsF (pA l a) (b-m) m b-1-a) a l v (by omega) hl;refine⟨v',g1,g2,?_⟩;generalize bsF (pA l a) (b-m) m b=i at *;rw[zUa zcU rfl];have c1':((m-a:Nat):Int)=1:=by omega
   simp[zc,w1,c1,h1,h2,blk,hl]
  ·rw[if_neg c1];have c1':(((m-a:Nat):Int)==1)=false:=by simp;omega
   by_cases c2:b-m=1
   ·rw[if_pos c2];have h1:=zxU N k m hk hN (by omega) l hl v (m-a) a m (jo _) (by omega) (by omega);have hb:=zju (pB l m) (m-a) a m (by omega);obtain⟨v',g1,g2,h2⟩:=zxT N k (bsF (pB l m) (m-a) a m) hk hN (m-bsF (pB l m) (m-a) a m) m l v (by omega) (by omega) hl;refine⟨v',g1,g2,?_⟩;generalize bsF (pB l m) (m-a) a m=i at *;rw[zUa zcU rfl];simp[zc,w1,w2,c1',c2,h1,h2,blk,hl]
   ·rw[if_neg c2];have c2':(((b-m:Nat):Int)==1)=false:=by simp;omega
    have bd:=zDk ham hmb (by omega) l;have hL:=zxS N k b (zbS a b) a m (zbS a b+m) (zbS a b+m-1) hk hN (by have:=bd.mid;omega) l hl v (hiS a m b-loS a m b) (loS a m b) (hiS a m b) (jo _) bd.lo (by have:=bd.hi;omega) bd.p.1 (by have:=bd.p.2;omega);have eS:bsF (pC l (zbS a b+m-1)) (hiS a m b-loS a m b) (loS a m b) (hiS a m b)=stS a m b l:=rfl;rw[eS]at hL;have hen:enS a m b l=zbS a b+m-stS a m b l:=rfl;have b1:=bd.st;have b2:=bd.hi;have b3:=bd.en;have b4:=bd.mid;have hT:∃v1 fp1,v<=v1/\(v1=v->zjz a m b l=l)/\(stS a m b l<m/\m<enS a m b l->zx (R L Cs) ⟨false⟩ (fn1 ze4) [.c (.slice 0 N 6 0 k none),W (stS a m b l),W m,W (enS a m b l),fn1 zdc] [some { box:=false,esz:=6,rows:=zI l,gen:=N,fz:=false,ver:=v }]=some (.t [],[some { box:=false,esz:=6,rows:=zI (zjz a m b l),gen:=N,fz:=false,ver:=v1 }],fp1))/\(¬(stS a m b l<m/\m<enS a m b l)->zjz a m b l=l/\v1=v):=by
     by_cases c:stS a m b l<m/\m<enS a m b l
     ·have e:zjz a m b l=ztB (stS a m b l) m (enS a m b l) l:=by rw[zjz,if_pos c]
      have hd:=zAQ N k (stS a m b l) m (enS a m b l) hk hN c.1 c.2 (by omega) l hl;rw[<-e]at hd;obtain⟨v1,fp,q1,q2,q3⟩:=zfi hd hl (by simp[hl]) v;exact⟨v1,fp,q1,q2,fun _=>q3,fun h=>absurd c h⟩
     ·have e:zjz a m b l=l:=by rw[zjz,if_neg c]
      exact⟨v,.no,jo _,fun _=>e,fun h=>absurd h c,fun _=>⟨e,rfl⟩⟩
    obtain⟨v1,fp1,t1,t2,t3,t4⟩:=hT;generalize hl1:zjz a m b l=l1 at *;have hl1n:l1.length=N:=by rw[<-hl1];simp[hl]
    dsimp only;generalize hl2:(if a<stS a m b l/\stS a m b l<zbS a b then zlI f a (stS a m b l) (zbS a b) l1 else l1)=l2;have hl2n:l2.length=N:=by rw[<-hl2];split<;>simp[hl1n]
    have hA:∃v2 fp2,v1<=v2/\(v2=v1->l2=l1)/\(a<stS a m b l/\stS a m b l<zbS a b->zx (R L Cs) ⟨false⟩ (fn1 zcQ) [.c (.slice 0 N 6 0 k none),W a,W (stS a m b l),W (zbS a b),fn1 zdc] [some { box:=false,esz:=6,rows:=zI l1,gen:=N,fz:=false,ver:=v1 }]=some (.t [],[some { box:=false,esz:=6,rows:=zI l2,gen:=N,fz:=false,ver:=v2 }],fp2))/\(¬(a<stS a m b l/\stS a m b l<zbS a b)->l2=l1/\v2=v1):=by
     by_cases c:a<stS a m b l/\stS a m b l<zbS a b
     ·rw[if_pos c]at hl2;have hd:=ih a (stS a m b l) (zbS a b) l1 (by omega) c.1 c.2 (by omega) hl1n;rw[hl2]at hd;obtain⟨v2,fp,q1,q2,q3⟩:=zfi hd hl1n hl2n v1;exact⟨v2,fp,q1,q2,fun _=>q3,fun h=>absurd c h⟩
     ·rw[if_neg c]at hl2;exact⟨v1,.no,jo _,fun _=>hl2.symm,fun h=>absurd h c,fun _=>⟨hl2.symm,rfl⟩⟩
    obtain⟨v2,fp2,s1,s2,s3,s4⟩:=hA;generalize hl3:(if zbS a b<enS a m b l/\enS a m b l<b then zlI f (zbS a b) (enS a m b l) b l2 else l2)=l3;have hl3n:l3.length=N:=by rw[<-hl3];split<;>simp[hl2n]
    have hB:∃v3 fp3,v2<=v3/\(v3=v2->l3=l2)/\(zbS a b<enS a m b l/\enS a m b l<b->zx (R L Cs) ⟨false⟩ (fn1 zcQ) [.c (.slice 0 N 6 0 k none),W (zbS a b),W (enS a m b l),W b,fn1 zdc] [some { box:=false,esz:=6,rows:=zI l2,gen:=N,fz:=false,ver:=v2 }]=some (.t [],[some { box:=false,esz:=6,rows:=zI l3,gen:=N,fz:=false,ver:=v3 }],fp3))/\(¬(zbS a b<enS a m b l/\enS a m b l<b)->l3=l2/\v3=v2):=by
     by_cases c:zbS a b<enS a m b l/\enS a m b l<b
     ·rw[if_pos c]at hl3;have hd:=ih (zbS a b) (enS a m b l) b l2 (by omega) c.1 c.2 (by omega) hl2n;rw[hl3]at hd;obtain⟨v3,fp,q1,q2,q3⟩:=zfi hd hl2n hl3n v2;exact⟨v3,fp,q1,q2,fun _=>q3,fun h=>absurd c h⟩
     ·rw[if_neg c]at hl3;exact⟨v2,.no,jo _,fun _=>hl3.symm,fun h=>absurd h c,fun _=>⟨hl3.symm,rfl⟩⟩
    obtain⟨v3,fp3,r1,r2,r3,r4⟩:=hB;refine⟨v3,by omega,fun hv=>by rw[r2 (by omega),s2 (by omega),t2 (by omega)],?_⟩;have w3:IntKind.i64.wrap ((a:Int)+(b:Int))=((a+b:Nat):Int):=by rw[zTd _ (by omega) (by omega)];omega
    have w4:=ztp (a+b) (by omega);have w5:Int.fdiv ((a+b:Nat):Int) (2 ^ min 1 IntKind.u64.bits)=((zbS a b:Nat):Int):=zqe (a+b);have w6:=zqd (zbS a b) (by omega);have w7:IntKind.i64.wrap ((zbS a b:Int)+(m:Int))=((zbS a b+m:Nat):Int):=by rw[zTd _ (by omega) (by omega)];omega
    have w8:IntKind.i64.wrap (((zbS a b+m:Nat):Int)-1)=((zbS a b+m-1:Nat):Int):=by rw[zTd _ (by omega) (by omega)];omega
    have w9:IntKind.i64.wrap (((zbS a b+m:Nat):Int)-(stS a m b l:Int))=((enS a m b l:Nat):Int):=by rw[zTd _ (by omega) (by omega)];omega
    have w10:zbS a b<m->IntKind.i64.wrap (((zbS a b+m:Nat):Int)-(b:Int))=((loS a m b:Nat):Int):=fun h=>by
     have:loS a m b=zbS a b+m-b:=by rw[loS,if_pos h]
     rw[zTd _ (by omega) (by omega)];have:b<=zbS a b+m:=by have:zbS a b=(a+b) / 2:=rfl;omega
     omega
    have w11:zbS a b<m->hiS a m b=zbS a b:=fun h=>by rw[hiS,if_pos h]
    have w12:¬zbS a b<m->hiS a m b=m/\loS a m b=a:=fun h=>by rw[hiS,loS,if_neg h,if_neg h];exact⟨rfl,rfl⟩
    generalize stS a m b l=st at *;generalize enS a m b l=en at *;generalize zbS a b=mid at *;generalize loS a m b=lo at *;generalize hiS a m b=hi at *;rw[zUa zcU rfl];clear ih bd;have AJ:∀E,X L Cs zc.code E [blk v l]=X L Cs zc.code E [some { box:=false,esz:=6,rows:=zI l,gen:=N,fz:=false,ver:=v }]:=fun E=>by simp[blk,hl]
    simp only[e5]at hL;by_cases d1:mid<m
    ·rw[w11 d1]at hL;have w10:=w10 d1;rcases Ce t3 t4 with⟨d2,d2b,t3⟩ |⟨d2,d2b,e1,e2,t3⟩ |⟨d2,d2b,e1,e2,t3⟩<;>(try subst e1 e2)<;>rcases Ce s3 s4 with⟨d3,d3b,s3⟩ |⟨d3,d3b,e1,e2,s3⟩ |⟨d3,d3b,e1,e2,s3⟩<;>(try subst e1 e2)<;>rcases Ce r3 r4 with⟨d4,d4b,r3⟩ |⟨d4,d4b,e1,e2,r3⟩ |⟨d4,d4b,e1,e2,r3⟩<;>(try subst e1 e2)<;>simp[zc,w1,w2,c1',c2',w3,w4,w5,w6,w7,w8,w9,w10,hL,d1,d2,d2b,d3,d3b,d4,d4b,t3,s3,r3,blk,hl,hl3n,-zx,-Int.natCast_add]
    ·obtain⟨e3,e4⟩:=w12 d1;rw[e3,e4]at hL;rcases Ce t3 t4 with⟨d2,d2b,t3⟩ |⟨d2,d2b,e1,e2,t3⟩ |⟨d2,d2b,e1,e2,t3⟩<;>(try subst e1 e2)<;>rcases Ce s3 s4 with⟨d3,d3b,s3⟩ |⟨d3,d3b,e1,e2,s3⟩ |⟨d3,d3b,e1,e2,s3⟩<;>(try subst e1 e2)<;>rcases Ce r3 r4 with⟨d4,d4b,r3⟩ |⟨d4,d4b,e1,e2,r3⟩ |⟨d4,d4b,e1,e2,r3⟩<;>(try subst e1 e2)<;>simp[zc,w1,w2,c1',c2',w3,w4,w5,w6,w7,w8,w9,hL,d1,d2,d2b,d3,d3b,d4,d4b,t3,s3,r3,blk,hl,hl3n,-zx,-Int.natCast_add]
def zrH(a:Nat):Nat->List zk->List zk
 |0,l=>l
 |c+1,l=>if ziK (l.getD (a+c+1) z9) (l.getD (a+c) z9)<0 then zrH a c (swp l (a+c+1) (a+c)) else l
@[simp] theorem zAE(a:Nat):∀(c:Nat) (l:List zk),(zrH a c l).length=l.length
  |0,l=>rfl
  |c+1,l=>by
   rw[zrH];split
   ·rw[zAE a c];simp
   ·rfl
theorem zwR(N k a b i:Nat)(hk:k<=N)(hN:N<=900000000000):∀(c:Nat) (l:List zk) (v:Nat),a+c<k->l.length=N->∃v' j',v<=v'/\(v'=v->zrH a c l=l) /\
  Y L Cs zaD (some [9,3,1,2,8,0]) 1 [(9,.w (W ((a+c:Nat):Int))),(3,.w cB),(1,.w (W a)),(2,.w (W b)),(8,.w (W i)),(0,.w (sN N k))] [some { box:=false,esz:=6,rows:=zI l,gen:=N,fz:=false,ver:=v }] =
    some (.exit 2,[(34,.w (Bo false)),(9,.w (W j')),(3,.w cB),(1,.w (W a)),(2,.w (W b)),(8,.w (W i)),(0,.w (sN N k))],[some { box:=false,esz:=6,rows:=zI (zrH a c l),gen:=N,fz:=false,ver:=v' }]):=by
 intro c;induction c with
 |zero =>
  intro l v hc hl;refine⟨v,a,jo _,fun _=>rfl,?_⟩;rw[zj zaD.eq_1];simp[zrH]
 |succ c ih =>
  intro l v hc hl;have a1:a+c+1<k:=by omega
  have a2:a+c<k:=by omega
  have a3:a+c+1<N:=by omega
  have a4:a+c<N:=by omega
  have a5:a+c+1<l.length:=by omega
  have a6:a+c<l.length:=by omega
  have hg:a<a+c+1:=by omega
  have hw:IntKind.i64.wrap (((a+c+1:Nat):Int)-1)=((a+c:Nat):Int):=by rw[zTd _ (by omega) (by omega)];omega
  have e1:l.getD (a+c+1) z9=l[a+c+1]:=by simp[a5]
  have e2:l.getD (a+c) z9=l[a+c]:=by simp[a6]
  have e3:(((a+c+1:Nat):Int)).toNat=a+c+1:=by omega
  have e4:(((a+c:Nat):Int)).toNat=a+c:=by omega
  have e5:a+(c+1)=a+c+1:=by omega
  have hc2:=zop l[a+c+1] l[a+c];simp only[ze]at hc2;rw[zrH,e1,e2,e5];by_cases h:ziK l[a+c+1] l[a+c]<0
  ·obtain⟨v',j',hv1,hv2,h4⟩:=ih (swp l (a+c+1) (a+c)) (v+1+1) (by omega) (by simp[hl]);refine⟨v',j',by omega,fun hv=>by omega,?_⟩;rw[if_pos h,<-h4,zj zaD.eq_1];have hs1:=zeg l (a+c+1) l[a+c];have hs2:=zeg (l.set (a+c+1) l[a+c]) (a+c) l[a+c+1];have hsw:swp l (a+c+1) (a+c)=(l.set (a+c+1) l[a+c]).set (a+c) l[a+c+1]:=by simp[swp,a5,a6]
   simp only[ze]at hs1 hs2;clear ih h4;simp[hg,hc2,h,hw,a1,a2,a3,a4,a5,a6,e3,e4,hl,ze,hs1,hs2,hsw,-Int.natCast_add]
  ·refine⟨v,((a+c+1:Nat):Int),jo _,fun _=>by rw[if_neg h],?_⟩;rw[if_neg h,zj zaD.eq_1];clear ih;simp[hg,hc2,h,hw,a1,a2,a3,a4,a5,a6,e3,e4,hl,ze,-Int.natCast_add]
def zjJ(a:Nat):Nat->Nat->List zk->List zk
 |_,0,l=>l
 |i,m+1,l=>zjJ a (i+1) m (zrH a i l)
@[simp] theorem zAn(a:Nat):∀(m i:Nat) (l:List zk),(zjJ a i m l).length=l.length
  |0,i,l=>rfl
  |m+1,i,l=>by rw[zjJ,zAn a m];simp
theorem zwQ(N k a b:Nat)(hk:k<=N)(hN:N<=900000000000)(hb:b<=k):∀(m i:Nat) (l:List zk) (v:Nat),b-(a+i)=m->a+i<=b+1->l.length=N->∃v' i',v<=v'/\(v'=v->zjJ a i m l=l) /\
  Y L Cs za3 (some [2,1,3,8,0]) 1 [(2,.w (W b)),(1,.w (W a)),(3,.w cB),(8,.w (W ((a+i:Nat):Int))),(0,.w (sN N k))] [some { box:=false,esz:=6,rows:=zI l,gen:=N,fz:=false,ver:=v }] =
    some (.exit 0,[(14,.w (Bo false)),(3,.w cB),(1,.w (W a)),(2,.w (W b)),(8,.w (W i')),(0,.w (sN N k))],[some { box:=false,esz:=6,rows:=zI (zjJ a i m l),gen:=N,fz:=false,ver:=v' }]):=by
 intro m;induction m with
 |zero =>
  intro i l v hm hi hl;have hg:¬a+i<b:=by omega
  refine⟨v,(a+i:Nat),jo _,fun _=>rfl,?_⟩;rw[zj za3.eq_1];simp[hg,zjJ,-Int.natCast_add]
 |succ m ih =>
  intro i l v hm hi hl;have hg:a+i<b:=by omega
  have hw:=zB (i:=a+i) (by omega);obtain⟨v1,j1,q1,q2,h1⟩:=zwR N k a b (a+i) hk hN i l v (by omega) hl;obtain⟨v2,i2,q3,q4,h2⟩:=ih (i+1) (zrH a i l) v1 (by omega) (by omega) (by simp[hl]);refine⟨v2,i2,by omega,fun hv=>by rw[zjJ,q4 (by omega),q2 (by omega)],?_⟩;rw[show a+(i+1)=a+i+1 by omega]at h2;rw[zjJ,<-h2,zj za3.eq_1];clear ih h2;simp[hg,h1,hw,hl,-Int.natCast_add]
theorem zAW(N k a b:Nat)(hk:k<=N)(hN:N<=900000000000)(ha:a<=b)(hb:b<=k)(l:List zk)(hl:l.length=N):zxj zf0 N k [(a:Int),(b:Int)] l (zjJ a 1 (b-(a+1)) l):=by
 intro v;obtain⟨v',i',q1,q2,h⟩:=zwQ N k a b hk hN hb (b-(a+1)) 1 l v rfl (by omega) hl;refine⟨v',q1,q2,?_⟩;rw[zUa zgc rfl];have hw:=zB (i:=a) (by omega);simp[zce,hw,h,blk,hl,-Int.natCast_add]
def zok(bs n:Nat):Nat->Nat->List zk->Nat×List zk
 |0,a,l=>(a,l)
 |f+1,a,l=>if a+bs<=n then zok bs n f (a+bs) (zjJ a 1 (a+bs-(a+1)) l) else(a,l)
theorem zrJ(bs n:Nat):∀(f a:Nat) (l:List zk),(zok bs n f a l).2.length=l.length/\(a<=n->(zok bs n f a l).1<=n)
 |0,a,l=>⟨rfl,fun h=>h⟩
 |f+1,a,l=>by
  rw[zok];split
  ·have:=zrJ bs n f (a+bs) (zjJ a 1 (a+bs-(a+1)) l);exact⟨by rw[this.1];simp,fun _=>this.2 (by omega)⟩
  ·exact⟨rfl,fun h=>h⟩
theorem zAH(N k bs:Nat)(hk:k<=N)(hN:N<=900000000000)(h0:0<bs)(h1:bs<=900000000000):∀(f a:Nat) (l:List zk) (v:Nat),k-a<f*bs->a<=k->l.length=N->∃v' b',v<=v'/\(v'=v->(zok bs k f a l).2=l) /\
  Y L Cs zbO (some [7,8,1,0,2,6]) 1 [(7,.w (W a)),(8,.w (W ((a+bs:Nat):Int))),(1,.w (W k)),(0,.w (sN N k)),(2,.w cB),(6,.w (W bs))] [some { box:=false,esz:=6,rows:=zI l,gen:=N,fz:=false,ver:=v }] =
    some (.exit 0,[(13,.w (Bo false)),(7,.w (W (zok bs k f a l).1)),(8,.w (W b')),(1,.w (W k)),(0,.w (sN N k)),(2,.w cB),(6,.w (W bs))],[some { box:=false,esz:=6,rows:=zI (zok bs k f a l).2,gen:=N,fz:=false,ver:=v' }]):=by
 intro f;induction f with
 |zero=>intro a l v hf;omega
 |succ f ih =>
  intro a l v hf ha hl;rw[zok];by_cases c:a+bs<=k
  ·rw[if_pos c];have hd:=zAW N k a (a+bs) hk hN (by omega) c l hl;obtain⟨v1,fp,q1,q2,q3⟩:=zrm hd hl (by simp[hl]) v;obtain⟨v2,b2,q4,q5,q6⟩:=ih (a+bs) (zjJ a 1 (a+bs-(a+1)) l) v1 (by rw[kV]at hf;omega) c (by simp[hl]);refine⟨v2,b2,by omega,fun hv=>by rw[q5 (by omega),q2 (by omega)],?_⟩;rw[<-q6,zj zbO.eq_1];have hw:IntKind.i64.wrap (((a+bs:Nat):Int)+(bs:Int))=((a+bs+bs:Nat):Int):=by rw[zTd _ (by omega) (by omega)];omega
   clear ih q6 hd;simp[c,q3,hw,-zx,-Int.natCast_add]
  ·rw[if_neg c];refine⟨v,(a+bs:Nat),jo _,fun _=>rfl,?_⟩;rw[zj zbO.eq_1];simp[c,-Int.natCast_add]
def zgP(bs n:Nat):Nat->Nat->List zk->Nat×List zk
 |0,a,l=>(a,l)
 |f+1,a,l=>if a+2*bs<=n then zgP bs n f (a+2*bs) (zlI (2*bs) a (a+bs) (a+2*bs) l) else(a,l)
theorem zqR(bs n:Nat):∀(f a:Nat) (l:List zk),(zgP bs n f a l).2.length=l.length/\(a<=n->(zgP bs n f a l).1<=n)
 |0,a,l=>⟨rfl,fun h=>h⟩
 |f+1,a,l=>by
  rw[zgP];split
  ·have:=zqR bs n f (a+2*bs) (zlI (2*bs) a (a+bs) (a+2*bs) l);exact⟨by rw[this.1];simp,fun _=>this.2 (by omega)⟩
  ·exact⟨rfl,fun h=>h⟩
theorem zzZ(N k bs:Nat)(hk:k<=N)(hN:N<=900000000000)(h0:0<bs)(h1:bs<=900000000000):∀(f a:Nat) (l:List zk) (v:Nat),k-a<f*(2*bs)->a<=k->l.length=N->∃v' b',v<=v'/\(v'=v->(zgP bs k f a l).2=l) /\
  Y L Cs zbN (some [7,8,1,0,2,6]) 1 [(7,.w (W a)),(8,.w (W ((a+2*bs:Nat):Int))),(1,.w (W k)),(0,.w (sN N k)),(2,.w cB),(6,.w (W bs))] [some { box:=false,esz:=6,rows:=zI l,gen:=N,fz:=false,ver:=v }] =
    some (.exit 4,[(35,.w (Bo false)),(7,.w (W (zgP bs k f a l).1)),(8,.w (W b')),(1,.w (W k)),(0,.w (sN N k)),(2,.w cB),(6,.w (W bs))],[some { box:=false,esz:=6,rows:=zI (zgP bs k f a l).2,gen:=N,fz:=false,ver:=v' }]):=by
 intro f;induction f with
 |zero=>intro a l v hf;omega
 |succ f ih =>
  intro a l v hf ha hl;rw[zgP];by_cases c:a+2*bs<=k
  ·rw[if_pos c];have hd:=zrM N k hk hN (2*bs) a (a+bs) (a+2*bs) l (by omega) (by omega) (by omega) c hl;obtain⟨v1,fp,q1,q2,q3⟩:=zfi hd hl (by simp[hl]) v;obtain⟨v2,b2,q4,q5,q6⟩:=ih (a+2*bs) (zlI (2*bs) a (a+bs) (a+2*bs) l) v1 (by rw[kV]at hf;omega) c (by simp[hl]);refine⟨v2,b2,by omega,fun hv=>by rw[q5 (by omega),q2 (by omega)],?_⟩;rw[<-q6,zj zbN.eq_1];have hw0:IntKind.i64.wrap ((a:Int)+(bs:Int))=((a+bs:Nat):Int):=by rw[zTd _ (by omega) (by omega)];omega
   have hw1:IntKind.i64.wrap (2*(bs:Int))=((2*bs:Nat):Int):=by rw[zTd _ (by omega) (by omega)];omega
   have hw:IntKind.i64.wrap (((a+2*bs:Nat):Int)+((2*bs:Nat):Int))=((a+2*bs+2*bs:Nat):Int):=by rw[zTd _ (by omega) (by omega)];omega
   clear ih q6 hd;simp[c,q3,hw0,hw1,hw,-zx,-Int.natCast_add,-Int.natCast_mul]
  ·rw[if_neg c];refine⟨v,(a+2*bs:Nat),jo _,fun _=>rfl,?_⟩;rw[zj zbN.eq_1];simp[c,-Int.natCast_add,-Int.natCast_mul]
def zjE(bs n:Nat)(l:List zk):List zk :=
 if(zgP bs n (n+1) 0 l).1+bs<n then zlI (n-(zgP bs n (n+1) 0 l).1) (zgP bs n (n+1) 0 l).1 ((zgP bs n (n+1) 0 l).1+bs) n (zgP bs n (n+1) 0 l).2 else(zgP bs n (n+1) 0 l).2
@[simp] theorem zDc(bs n:Nat)(l:List zk):(zjE bs n l).length=l.length:=by
  unfold zjE;have:=(zqR bs n (n+1) 0 l).1;split<;>simp[this]
def vJ(n:Nat):Nat->Nat->List zk->List zk
 |0,_,l=>l
 |f+1,bs,l=>if bs<n then vJ n f (2*bs) (zjE bs n l) else l
@[simp] theorem zwz(n:Nat):∀(f bs:Nat) (l:List zk),(vJ n f bs l).length=l.length
  |0,_,_=>rfl
  |f+1,bs,l=>by
   rw[vJ];split
   ·rw[zwz n f];simp
   ·rfl
theorem zyk(N k:Nat)(hk:k<=N)(hN:N<=900000000000):∀(f bs:Nat) (l:List zk) (v:Nat),k<bs+f->0<bs->bs<=1800000000000->l.length=N->∃v' b',v<=v'/\(v'=v->vJ k f bs l=l) /\
  Y L Cs zaO (some [1,0,2,6]) 1 [(1,.w (W k)),(0,.w (sN N k)),(2,.w cB),(6,.w (W bs))] [some { box:=false,esz:=6,rows:=zI l,gen:=N,fz:=false,ver:=v }] =
    some (.exit 2,[(30,.w (Bo false)),(1,.w (W k)),(0,.w (sN N k)),(2,.w cB),(6,.w (W b'))],[some { box:=false,esz:=6,rows:=zI (vJ k f bs l),gen:=N,fz:=false,ver:=v' }]):=by
 intro f;induction f with
 |zero =>
  intro bs l v hf h0 h1 hl;refine⟨v,bs,jo _,fun _=>rfl,?_⟩;have c:¬bs<k:=by omega
  rw[vJ,zj zaO.eq_1];simp[c]
 |succ f ih =>
  intro bs l v hf h0 h1 hl;rw[vJ];by_cases c:bs<k
  ·rw[if_pos c];obtain⟨v1,b1,q1,q2,q3⟩:=zzZ N k bs hk hN h0 (by omega) (k+1) 0 l v (by have:k+1<=(k+1)*(2*bs):=kP _ (by omega);omega) (jt _) hl;obtain⟨g1,g2⟩:=zqR bs k (k+1) 0 l;have g2:=g2 (jt _);have hw1:IntKind.i64.wrap (2*(bs:Int))=((2*bs:Nat):Int):=by rw[zTd _ (by omega) (by omega)];omega
   have hw2:IntKind.i64.wrap ((bs:Int)*2)=((2*bs:Nat):Int):=by rw[zTd _ (by omega) (by omega)];omega
   simp only[jB,jg]at q3;by_cases d:(zgP bs k (k+1) 0 l).1+bs<k
   ·have e:zjE bs k l=zlI (k-(zgP bs k (k+1) 0 l).1) (zgP bs k (k+1) 0 l).1 ((zgP bs k (k+1) 0 l).1+bs) k (zgP bs k (k+1) 0 l).2:=by rw[zjE,if_pos d]
    have hd:=zrM N k hk hN (k-(zgP bs k (k+1) 0 l).1) (zgP bs k (k+1) 0 l).1 ((zgP bs k (k+1) 0 l).1+bs) k (zgP bs k (k+1) 0 l).2 (jo _) (by omega) d (jo _) (by omega);rw[<-e]at hd;have pl:(zjE bs k l).length=N:=by simp[hl]
    obtain⟨v2,fp,q4,q5,q6⟩:=zfi hd (by omega) pl v1;obtain⟨v3,b3,q7,q8,q9⟩:=ih (2*bs) (zjE bs k l) v2 (by omega) (by omega) (by omega) pl;refine⟨v3,b3,by omega,fun hv=>by rw[q8 (by omega),q5 (by omega),q2 (by omega)],?_⟩;rw[<-q9,zj zaO.eq_1];clear ih q9 hd e;generalize zjE bs k l=pF at *;generalize zgP bs k (k+1) 0 l=q at *;have hw0:IntKind.i64.wrap ((q.1:Int)+(bs:Int))=((q.1+bs:Nat):Int):=by rw[zTd _ (by omega) (by omega)];omega
    simp[c,d,q3,q6,hw0,hw1,hw2,-zx,-Int.natCast_add,-Int.natCast_mul]
   ·have e:zjE bs k l=(zgP bs k (k+1) 0 l).2:=by rw[zjE,if_neg d]
    obtain⟨v3,b3,q7,q8,q9⟩:=ih (2*bs) (zjE bs k l) v1 (by omega) (by omega) (by omega) (by simp[hl]);refine⟨v3,b3,by omega,fun hv=>by rw[q8 (by omega),e,q2 (by omega)],?_⟩;rw[<-q9,e,zj zaO.eq_1];clear ih q9 e q8;generalize zgP bs k (k+1) 0 l=q at *;have hw0:IntKind.i64.wrap ((q.1:Int)+(bs:Int))=((q.1+bs:Nat):Int):=by rw[zTd _ (by omega) (by omega)];omega
    simp[c,d,q3,hw0,hw1,hw2,-zx,-Int.natCast_add,-Int.natCast_mul]
  ·rw[if_neg c];refine⟨v,bs,jo _,fun _=>rfl,?_⟩;rw[zj zaO.eq_1];simp[c]
def zmz(k:Nat)(l:List zk):List zk:=vJ k k 20 (zjJ (zok 20 k (k+1) 0 l).1 1 (k-((zok 20 k (k+1) 0 l).1+1)) (zok 20 k (k+1) 0 l).2)
@[simp] theorem zCc(k:Nat)(l:List zk):(zmz k l).length=l.length:=by simp[zmz,(zrJ 20 k (k+1) 0 l).1]
theorem zsp(N k:Nat)(hk:k<=N)(hN:N<=900000000000)(l:List zk)(hl:l.length=N):zxj zhA N k [] l (zmz k l):=by
 intro v;obtain⟨v1,b1,q1,q2,q3⟩:=zAH N k 20 hk hN (by decide) (by decide) (k+1) 0 l v (by omega) (jt _) hl;obtain⟨g1,g2⟩:=zrJ 20 k (k+1) 0 l;have g2:=g2 (jt _);unfold zmz;generalize zok 20 k (k+1) 0 l=q at *;have hd:=zAW N k q.1 k hk hN g2 (jo _) q.2 (by omega);obtain⟨v2,fp,q4,q5,q6⟩:=zrm hd (by omega) (by simp;omega) v1;obtain⟨v3,b3,q7,q8,q9⟩:=zyk N k hk hN k 20 (zjJ q.1 1 (k-(q.1+1)) q.2) v2 (by omega) (by decide) (by decide) (by simp;omega);have uW:v3=v->vJ k k 20 (zjJ q.1 1 (k-(q.1+1)) q.2)=l:=fun hv=>by rw[q8 (by omega),q5 (by omega),q2 (by omega)]
 refine⟨v3,by omega,uW,?_⟩;have hlen:(vJ k k 20 (zjJ q.1 1 (k-(q.1+1)) q.2)).length=N:=by simp;omega
 generalize zjJ q.1 1 (k-(q.1+1)) q.2=l2 at *;generalize vJ k k 20 l2=l3 at *;simp only[jB,jg]at q3;rw[show((20:Nat):Int)=20 from rfl]at q3 q9;have hs:∀v0,v0=v->R L Cs zhZ [sN N k,W k,cB] [some { box:=false,esz:=6,rows:=zI l,gen:=N,fz:=false,ver:=v0 }]=some (.t [],[some { box:=false,esz:=6,rows:=zI l3,gen:=N,fz:=false,ver:=v3 }]):=by
  intro v0 h0;subst h0;rw[zUa zh8 rfl];simp[zdj,q3,q6,q9,-zx]
 have hs:=hs v rfl;rw[zUa zhK rfl];by_cases hv:v3=v
 ·have:=uW hv;subst hv this;simp[zcd,hs,blk,hl]
 ·simp[zcd,hs,blk,hl,hlen,hv]
theorem zts(P M Q:List zk)(x y:zk):swp (P++x::(M++y::Q)) P.length (P.length+1+M.length)=P++y::(M++x::Q):=by
 have e1:(P++x::(M++y::Q)).getD (P.length+1+M.length) z9=y:=by
  rw[jm,jS (by omega),show P.length+1+M.length-P.length=M.length+1 by omega,List.getElem?_cons_succ,jS (by omega)];simp
 have e2:(P++x::(M++y::Q)).getD P.length z9=x:=by
  rw[jm,jS (by omega)];simp
 rw[swp,e1,e2,qP _ _ (by omega),Nat.sub_self,List.set_cons_zero,qP _ _ (by omega),show P.length+1+M.length-P.length=M.length+1 by omega,List.set_cons_succ,qP _ _ (by omega),Nat.sub_self,List.set_cons_zero]
theorem zzo(l:List zk)(i j:Nat)(h:i≠j):swp l i j=swp l j i:=by
 unfold swp;exact uq _ _ (qC h) |>.symm ▸ rfl
theorem zsF(a b:Nat):∀(m i:Nat) (l:List zk),swR a b (i+1) m l=swR (a+1) (b+1) i m l
 |0,i,l=>rfl
 |m+1,i,l=>by
  rw[swR,swR,zsF a b m (i+1),show a+(i+1)=a+1+i by omega,show b+(i+1)=b+1+i by omega]
theorem zp7:∀(A B P M Q:List zk),A.length=B.length->swR P.length (P.length+A.length+M.length) 0 A.length (P++(A++(M++(B++Q))))=P++(B++(M++(A++Q)))
 |[],[],P,M,Q,_=>rfl
 |x::A,y::B,P,M,Q,h=>by
  have h':A.length=B.length:=by simpa using h
  have:=zp7 A B (P++[y]) (M++[x]) Q h';rw[jk,swR,zsF];have e:swp (P++(x::A++(M++(y::B++Q)))) (P.length+0) (P.length+(A.length+1)+M.length+0)=P++(y::(A++(M++(x::(B++Q))))):=by
   have:=zts P (A++M) (B++Q) x y;simp only[ju,jA,jh]at this ⊢;rw[show P.length+(A.length+1)+M.length+0=P.length+1+(A.length+M.length) by omega,qI];exact this
  rw[e];simp only[ju,jk,jp,jA,jh,jf]at this ⊢;rw[show P.length+(A.length+1)+M.length+1=P.length+(0+1)+A.length+(M.length+(0+1)) by omega];exact this
theorem zzC:∀(f:Nat) (P A B Q:List zk) (m:Nat),m=P.length+A.length->0<A.length->0<B.length->A.length+B.length<=f ->
  swR (m-(zkm m f A.length B.length (P++(A++(B++Q)))).1) m 0 (zkm m f A.length B.length (P++(A++(B++Q)))).1 (zkm m f A.length B.length (P++(A++(B++Q)))).2=P++(B++(A++Q)):=by
 intro f;induction f with
 |zero=>intro P A B Q m hm ha hb hf;omega
 |succ f ih =>
  intro P A B Q m hm ha hb hf;rw[zkm];by_cases c:A.length=B.length
  ·rw[if_pos c];have:=zp7 A B P [] Q c;simp only[jf,jp,qI]at this;dsimp only;rw[show m-A.length=P.length by omega,hm];exact this
  ·rw[if_neg c];by_cases c2:B.length<A.length
   ·rw[if_pos c2];have hA:=jP B.length A;have l1:(A.take B.length).length=B.length:=by simp;omega
    have l2:(A.drop B.length).length=A.length-B.length:=by simp
    generalize A.take B.length=A1 at *;generalize A.drop B.length=A2 at *;have e:=zp7 A1 B P A2 Q l1;rw[l1]at e;have h2:=ih (P++B) A2 A1 Q m (by simp;omega) (by omega) (by omega) (by omega);rw[show m-A.length=P.length by omega];have hm2:m=P.length+B.length+A2.length:=by omega
    rw[<-hA,jA A1 A2];have e':swR P.length m 0 B.length (P++(A1++(A2++(B++Q))))=P++(B++(A2++(A1++Q))):=by rw[hm2];exact e
    rw[e'];simp only[jA,ju,l1,l2]at h2 ⊢;rw[<-l2]at h2 ⊢;have hs:B.length+A2.length-B.length=A2.length:=by omega
    rw[hs];exact h2
   ·rw[if_neg c2];have hB:=jP (B.length-A.length) B;have l1:(B.take (B.length-A.length)).length=B.length-A.length:=by simp
    have l2:(B.drop (B.length-A.length)).length=A.length:=by simp;omega
    generalize B.take (B.length-A.length)=B1 at *;generalize B.drop (B.length-A.length)=B2 at *;have e:=zp7 A B2 P B1 Q l2.symm;have h2:=ih P B2 B1 (A++Q) m (by omega) (by omega) (by omega) (by omega);have e':swR (m-A.length) (m+B.length-A.length) 0 A.length (P++(A++(B++Q)))=P++(B2++(B1++(A++Q))):=by
     rw[<-hB,show m-A.length=P.length by omega,show m+(B1++B2).length-A.length=P.length+A.length+B1.length by simp;omega];simp only[jA];exact e
    rw[e',<-l1,<-hB];rw[l2]at h2;simp only[jA];exact h2
theorem zzD(P A B Q:List zk)(ha:0<A.length)(hb:0<B.length):ztB P.length (P.length+A.length) (P.length+A.length+B.length) (P++(A++(B++Q)))=P++(B++(A++Q)):=by
 have:=zzC (A.length+B.length) P A B Q _ rfl ha hb (jo _);unfold ztB;rw[show P.length+A.length+B.length-P.length=A.length+B.length by omega,show P.length+A.length-P.length=A.length by omega,show P.length+A.length+B.length-(P.length+A.length)=B.length by omega];exact this
theorem zxl:∀(C P Q:List zk) (x:zk),upF P.length C.length (P++x::(C++Q))=P++(C++x::Q)
 |[],P,Q,x=>rfl
 |y::C,P,Q,x=>by
  have h:=zts P [] (C++Q) x y;have h2:=zxl C (P++[y]) Q x;simp only[jf,jp,qI]at h;rw[jk,upF,jh,h];simp only[ju,jk,jp,jA,jh,jf]at h2 ⊢;exact h2
theorem zxG:∀(n:Nat) (C P Q:List zk) (x:zk),C.length=n->dnF (P.length+C.length) C.length (P++(C++x::Q))=P++x::(C++Q)
 |0,C,P,Q,x,h=>by
  have:C=[]:=kc.1 h;subst this;rfl
 |n+1,C,P,Q,x,h=>by
  obtain⟨D,y,rfl⟩:∃D y,C=D++[y]:=by
   rcases vE C with e |⟨D,y,e⟩
   ·subst e;simp at h
   ·exact⟨D,y,by rw[e,vF]⟩
  have hD:D.length=n:=by simpa using h
  have h1:=zts (P++D) [] Q y x;have h2:=zxG n D P (y::Q) x hD;simp only[jf,jp,qI,jA,ju]at h1;simp only[ju,jk,jp,jA,jh,jf]at h2 ⊢;rw[dnF,show P.length+(D.length+(0+1))-1=P.length+D.length by omega,zzo _ _ _ (by omega),show P.length+(D.length+(0+1))=P.length+D.length+1 by omega,h1,h2]
theorem zmj(p:Nat->Bool):∀(f i j:Nat),j-i<=f->i<=j->(∀x y,i<=x->x<=y->y<j->p y=true->p x=true)->∀h,i<=h->h<j->(p h=true<->h<bsF p f i j)
 |0,i,j,hf,hi,hm,h,h1,h2=>by omega
 |f+1,i,j,hf,hi,hm,h,h1,h2=>by
  rw[bsF,if_pos (by omega)];by_cases c:p ((i+j) / 2)=true
  ·rw[if_pos c];by_cases c2:h<=(i+j) / 2
   ·have hb:=(zju p f ((i+j) / 2+1) j (by omega)).1;exact⟨fun _=>by omega,fun _=>hm h _ h1 c2 (by omega) c⟩
   ·exact zmj p f ((i+j) / 2+1) j (by omega) (by omega) (fun x y a b d e=>hm x y (by omega) b d e) h (by omega) h2
  ·rw[if_neg c];by_cases c2:(i+j) / 2<=h
   ·have hb:=(zju p f i ((i+j) / 2) (by omega)).2;exact⟨fun e=>absurd (hm _ h (by omega) c2 h2 e) c,fun _=>by omega⟩
   ·exact zmj p f i ((i+j) / 2) (by omega) (by omega) (fun x y a b d e=>hm x y a b (by omega) e) h h1 (by omega)
abbrev Srt(l:List zk):Prop:=l.Pairwise leB
theorem zw6(a b:zk):¬ziK a b<0<->leB b a:=by rw[znX,zqc]
theorem zyY{a b:zk}(h:ziK a b<0):leB a b:=zxy ((znX a b).1 h)
theorem zyX{u w x:zk}(h:leB u w)(g:ziK w x<0):ziK u x<0:=by
 rw[znX]at *;unfold leB at h;unfold ltB at *;simp at *;omega
def Mrg(P A B Q r:List zk):Prop:=∃S,r=P++(S++Q)/\S.Perm (A++B)/\Srt S
theorem zoR{A R:List zk}{h:Nat}(P:List zk)(h1:P.length<=h)(h2:h<P.length+A.length):(P++(A++R)).getD h z9=A.getD (h-P.length) z9:=by
 rw[jm,jm,jS h1,jw (by omega)]
theorem zns{A B Q:List zk}{h:Nat}(P:List zk)(h1:P.length+A.length<=h)(h2:h<P.length+A.length+B.length):(P++(A++(B++Q))).getD h z9=B.getD (h-(P.length+A.length)) z9:=by
 rw[jm,jm,jS (by omega),jS (by omega),jw (by omega),show h-P.length-A.length=h-(P.length+A.length) by omega]
theorem ziQ{A:List zk}(h:Srt A){i j:Nat}(hij:i<=j)(hj:j<A.length):leB (A.getD i z9) (A.getD j z9):=by
 rcases Nat.lt_or_eq_of_le hij with hij|rfl
 ·have:=qu.1 h i j (by omega) hj hij;simpa [jm,hj,show i<A.length by omega]using this
 ·exact .inr ⟨rfl,qs _⟩
theorem zi3{A:List zk}{x:zk}(h:x∈A):∃i,i<A.length/\A.getD i z9=x:=by
 obtain⟨i,hi,rfl⟩:=qo h;exact⟨i,hi,by simp[hi]⟩
theorem ztr(P B Q:List zk)(x:zk)(hB:Srt B)(hb:0<B.length):Mrg P [x] B Q (upF P.length (bsF (pA (P++([x]++(B++Q))) P.length) B.length (P.length+1) (P.length+1+B.length)-1-P.length) (P++([x]++(B++Q)))):=by
 have hx:(P++([x]++(B++Q))).getD P.length z9=x:=by rw[zoR P (jo _) (by simp)];simp
 have hp:∀h,P.length+1<=h->h<P.length+1+B.length->(pA (P++([x]++(B++Q))) P.length h=true<->ziK (B.getD (h-(P.length+1)) z9) x<0):=by
  intro h h1 h2;unfold pA;rw[hx,zns P (by simpa using h1) (by simpa using h2)];simp
 have hs:=zmj (pA (P++([x]++(B++Q))) P.length) B.length (P.length+1) (P.length+1+B.length) (by omega) (by omega) (by
  intro a b h1 h2 h3 h4;rw[hp b (by omega) h3]at h4;rw[hp a h1 (by omega)];exact zyX (ziQ hB (by omega) (by omega)) h4)
 have hb1:=zju (pA (P++([x]++(B++Q))) P.length) B.length (P.length+1) (P.length+1+B.length) (by omega);generalize bsF (pA (P++([x]++(B++Q))) P.length) B.length (P.length+1) (P.length+1+B.length)=r at *;have hB2:=jP (r-(P.length+1)) B;have l1:(B.take (r-(P.length+1))).length=r-(P.length+1):=by simp;omega
 have k1:∀y∈B.take (r-(P.length+1)),leB y x:=by
  intro y hy;obtain⟨i,hi,rfl⟩:=zi3 hy;rw[l1]at hi;have:=(hs (P.length+1+i) (by omega) (by omega)).2 (by omega);rw[hp _ (by omega) (by omega),show P.length+1+i-(P.length+1)=i by omega]at this;have e:(B.take (r-(P.length+1))).getD i z9=B.getD i z9:=by simp[jm,qA hi]
  rw[e];exact zyY this
 have k2:∀y∈B.drop (r-(P.length+1)),leB x y:=by
  intro y hy;obtain⟨i,hi,rfl⟩:=zi3 hy;simp only[List.length_drop]at hi;have:=mt (hs (r+i) (by omega) (by omega)).1 (by omega);rw[hp _ (by omega) (by omega),zw6]at this;have e:(B.drop (r-(P.length+1))).getD i z9=B.getD (r+i-(P.length+1)) z9:=by simp only[jm,kR];rw[show r-(P.length+1)+i=r+i-(P.length+1) by omega]
  rw[e];exact this
 generalize B.take (r-(P.length+1))=B1 at *;generalize B.drop (r-(P.length+1))=B2 at *;subst hB2;have hu:=zxl B1 P (B2++Q) x;refine⟨B1++x::B2,?_,?_,?_⟩
 ·rw[show r-1-P.length=B1.length by omega];simp only[jA,jh,jf]at hu ⊢;exact hu
 ·exact vN
 ·have hsr:=jY.1 hB;refine jY.2 ⟨hsr.1,jZ.2 ⟨k2,hsr.2.1⟩,fun a ha b hb=>?_⟩;rcases jy.1 hb with rfl|hb
  ·exact k1 a ha
  ·exact hsr.2.2 a ha b hb
theorem zr2(P A Q:List zk)(y:zk)(hA:Srt A):Mrg P A [y] Q (dnF (P.length+A.length) (P.length+A.length-bsF (pB (P++(A++([y]++Q))) (P.length+A.length)) A.length P.length (P.length+A.length)) (P++(A++([y]++Q)))):=by
 have hy:(P++(A++([y]++Q))).getD (P.length+A.length) z9=y:=by rw[zns P (jo _) (by simp)];simp
 have hp:∀h,P.length<=h->h<P.length+A.length->(pB (P++(A++([y]++Q))) (P.length+A.length) h=true<->leB (A.getD (h-P.length) z9) y):=by
  intro h h1 h2;unfold pB;rw[hy,zoR P h1 h2,<-zw6];simp
 have hs:=zmj (pB (P++(A++([y]++Q))) (P.length+A.length)) A.length P.length (P.length+A.length) (by omega) (by omega) (by
  intro a b h1 h2 h3 h4;rw[hp b (by omega) h3]at h4;rw[hp a h1 (by omega)];exact zfs (ziQ hA (by omega) (by omega)) h4)
 have hb1:=zju (pB (P++(A++([y]++Q))) (P.length+A.length)) A.length P.length (P.length+A.length) (by omega);generalize bsF (pB (P++(A++([y]++Q))) (P.length+A.length)) A.length P.length (P.length+A.length)=r at *;have hA2:=jP (r-P.length) A;have l1:(A.take (r-P.length)).length=r-P.length:=by simp;omega
 have k1:∀x∈A.take (r-P.length),leB x y:=by
  intro x hx;obtain⟨i,hi,rfl⟩:=zi3 hx;rw[l1]at hi;have:=(hs (P.length+i) (by omega) (by omega)).2 (by omega);rw[hp _ (by omega) (by omega),show P.length+i-P.length=i by omega]at this;have e:(A.take (r-P.length)).getD i z9=A.getD i z9:=by simp[jm,qA hi]
  rw[e];exact this
 have k2:∀x∈A.drop (r-P.length),leB y x:=by
  intro x hx;obtain⟨i,hi,rfl⟩:=zi3 hx;simp only[List.length_drop]at hi;have:=mt (hs (r+i) (by omega) (by omega)).1 (by omega);rw[hp _ (by omega) (by omega),zqc,Decidable.not_not]at this;have e:(A.drop (r-P.length)).getD i z9=A.getD (r+i-P.length) z9:=by simp only[jm,kR];rw[show r-P.length+i=r+i-P.length by omega]
  rw[e];exact zxy this
 have l2:(A.drop (r-P.length)).length=P.length+A.length-r:=by simp;omega
 generalize A.take (r-P.length)=A1 at *;generalize A.drop (r-P.length)=A2 at *;subst hA2;have hd:=zxG A2.length A2 (P++A1) Q y rfl;refine⟨A1++y::A2,?_,?_,?_⟩
 ·rw[<-l2];simp only[jA,jh,jf,ju,kJ]at hd ⊢;exact hd
 ·have:(A1++y::A2).Perm (A1++(A2++[y])):=uw _ (List.perm_append_singleton y A2).symm;simpa using this
 ·have hsr:=jY.1 hA;refine jY.2 ⟨hsr.1,jZ.2 ⟨k2,hsr.2.1⟩,fun a ha b hb=>?_⟩;rcases jy.1 hb with rfl|hb
  ·exact k1 a ha
  ·exact hsr.2.2 a ha b hb
theorem zuD:∀(f:Nat) (P A B Q:List zk),0<A.length->0<B.length->A.length+B.length<=f->Srt A->Srt B->Mrg P A B Q (zlI f P.length (P.length+A.length) (P.length+A.length+B.length) (P++(A++(B++Q)))):=by
 intro f;induction f with
 |zero=>intro P A B Q h1 h2 h3;omega
 |succ f ih =>
  intro P A B Q hA0 hB0 hf hA hB;rw[zlI];by_cases c1:P.length+A.length-P.length=1
  ·rw[if_pos c1];obtain⟨x,rfl⟩:∃x,A=[x]:=List.length_eq_one_iff.1 (by omega);have:=ztr P B Q x hB hB0;simp only[jk,jp,jB]at this ⊢;rw[show P.length+1+B.length-(P.length+1)=B.length by omega];exact this
  ·rw[if_neg c1];by_cases c2:P.length+A.length+B.length-(P.length+A.length)=1
   ·rw[if_pos c2];obtain⟨y,rfl⟩:∃y,B=[y]:=List.length_eq_one_iff.1 (by omega);have:=zr2 P A Q y hA;rw[show P.length+A.length-P.length=A.length by omega];exact this
   ·rw[if_neg c2];have hm:zbS P.length (P.length+A.length+B.length)=(P.length+(P.length+A.length+B.length)) / 2:=rfl;have hlo:loS P.length (P.length+A.length) (P.length+A.length+B.length)<=hiS P.length (P.length+A.length) (P.length+A.length+B.length):=by unfold loS hiS;split<;>omega
    have hsp:=zmj (pC (P++(A++(B++Q))) (zbS P.length (P.length+A.length+B.length)+(P.length+A.length)-1)) (hiS P.length (P.length+A.length) (P.length+A.length+B.length)-loS P.length (P.length+A.length) (P.length+A.length+B.length)) (loS P.length (P.length+A.length) (P.length+A.length+B.length)) (hiS P.length (P.length+A.length) (P.length+A.length+B.length)) (jo _) hlo;have hbd:=zju (pC (P++(A++(B++Q))) (zbS P.length (P.length+A.length+B.length)+(P.length+A.length)-1)) (hiS P.length (P.length+A.length) (P.length+A.length+B.length)-loS P.length (P.length+A.length) (P.length+A.length+B.length)) (loS P.length (P.length+A.length) (P.length+A.length+B.length)) (hiS P.length (P.length+A.length) (P.length+A.length+B.length)) hlo;have eS:bsF (pC (P++(A++(B++Q))) (zbS P.length (P.length+A.length+B.length)+(P.length+A.length)-1)) (hiS P.length (P.length+A.length) (P.length+A.length+B.length)-loS P.length (P.length+A.length) (P.length+A.length+B.length)) (loS P.length (P.length+A.length) (P.length+A.length+B.length)) (hiS P.length (P.length+A.length) (P.length+A.length+B.length))=stS P.length (P.length+A.length) (P.length+A.length+B.length) (P++(A++(B++Q))):=rfl;rw[eS]at hsp hbd;have eE:enS P.length (P.length+A.length) (P.length+A.length+B.length) (P++(A++(B++Q)))=zbS P.length (P.length+A.length+B.length)+(P.length+A.length)-stS P.length (P.length+A.length) (P.length+A.length+B.length) (P++(A++(B++Q))):=rfl;have BJ:(zbS P.length (P.length+A.length+B.length)<P.length+A.length/\loS P.length (P.length+A.length) (P.length+A.length+B.length)=zbS P.length (P.length+A.length+B.length)+(P.length+A.length)-(P.length+A.length+B.length)/\hiS P.length (P.length+A.length) (P.length+A.length+B.length)=zbS P.length (P.length+A.length+B.length))\/(P.length+A.length<=zbS P.length (P.length+A.length+B.length)/\loS P.length (P.length+A.length) (P.length+A.length+B.length)=P.length/\hiS P.length (P.length+A.length) (P.length+A.length+B.length)=P.length+A.length):=by
     by_cases c:zbS P.length (P.length+A.length+B.length)<P.length+A.length
     ·left;exact⟨c,by rw[loS,if_pos c],by rw[hiS,if_pos c]⟩
     ·right;exact⟨by omega,by rw[loS,if_neg c],by rw[hiS,if_neg c]⟩
    unfold zjz;generalize hst:stS P.length (P.length+A.length) (P.length+A.length+B.length) (P++(A++(B++Q)))=st at *;generalize hen:enS P.length (P.length+A.length) (P.length+A.length+B.length) (P++(A++(B++Q)))=en at *;generalize hmid:zbS P.length (P.length+A.length+B.length)=mid at *;generalize hloe:loS P.length (P.length+A.length) (P.length+A.length+B.length)=lo at *;generalize hhie:hiS P.length (P.length+A.length) (P.length+A.length+B.length)=hi at *;have b1:P.length<=lo/\hi<=P.length+A.length/\P.length+A.length<=en/\en<=P.length+A.length+B.length:=by omega
    have hp:∀c,lo<=c->c<hi->(pC (P++(A++(B++Q))) (mid+(P.length+A.length)-1) c=true<->leB (A.getD (c-P.length) z9) (B.getD (mid-1-c+P.length-P.length) z9)):=by
     intro c h1 h2;unfold pC;rw[zns P (h:=mid+(P.length+A.length)-1-c) (by omega) (by omega),zoR P (by omega) (by omega),<-zw6,show mid+(P.length+A.length)-1-c-(P.length+A.length)=mid-1-c+P.length-P.length by omega];simp
    have hsp:=hsp (by
     intro a b h1 h2 h3 h4;rw[hp b (by omega) h3]at h4;rw[hp a h1 (by omega)];refine zfs (ziQ hA (by omega) (by omega)) (zfs h4 (ziQ hB (by omega) (by omega))))
    have hA2:=jP (st-P.length) A;have hB2:=jP (en-(P.length+A.length)) B;have la1:(A.take (st-P.length)).length=st-P.length:=by simp;omega
    have la2:(A.drop (st-P.length)).length=P.length+A.length-st:=by simp;omega
    have lb1:(B.take (en-(P.length+A.length))).length=en-(P.length+A.length):=by simp;omega
    have lb2:(B.drop (en-(P.length+A.length))).length=P.length+A.length+B.length-en:=by simp;omega
    have k1:∀x∈A.take (st-P.length),∀y∈B.drop (en-(P.length+A.length)),leB x y:=by
     intro x hx y hy;obtain⟨i,hi',rfl⟩:=zi3 hx;obtain⟨j,hj',rfl⟩:=zi3 hy;have e1:(A.take (st-P.length)).getD i z9=A.getD i z9:=by simp[jm,qA (by omega:i<st-P.length)]
     have e2:(B.drop (en-(P.length+A.length))).getD j z9=B.getD (en-(P.length+A.length)+j) z9:=by simp only[jm,kR]
     rw[e1,e2];have h0:=(hsp (st-1) (by omega) (by omega)).2 (by omega);rw[hp _ (by omega) (by omega)]at h0;exact zfs (ziQ hA (by omega) (by omega)) (zfs h0 (ziQ hB (by omega) (by omega)))
    have k2:∀y∈B.take (en-(P.length+A.length)),∀x∈A.drop (st-P.length),leB y x:=by
     intro y hy x hx;obtain⟨i,hi',rfl⟩:=zi3 hx;obtain⟨j,hj',rfl⟩:=zi3 hy;have e1:(A.drop (st-P.length)).getD i z9=A.getD (st-P.length+i) z9:=by simp only[jm,kR]
     have e2:(B.take (en-(P.length+A.length))).getD j z9=B.getD j z9:=by simp[jm,qA (by omega:j<en-(P.length+A.length))]
     rw[e1,e2];have h0:=mt (hsp st (by omega) (by omega)).1 (by omega);rw[hp _ (by omega) (by omega),zqc,Decidable.not_not]at h0;exact zfs (ziQ hB (by omega) (by omega)) (zfs (zxy h0) (ziQ hA (by omega) (by omega)))
    generalize A.take (st-P.length)=A1 at *;generalize A.drop (st-P.length)=A2 at *;generalize B.take (en-(P.length+A.length))=B1 at *;generalize B.drop (en-(P.length+A.length))=B2 at *;subst hA2 hB2;have sA:=jY.1 hA;have sB:=jY.1 hB;simp only[ju]at *;have ht:(if st<P.length+(A1.length+A2.length)/\P.length+(A1.length+A2.length)<en then ztB st (P.length+(A1.length+A2.length)) en (P++(A1++A2++(B1++B2++Q))) else P++(A1++A2++(B1++B2++Q)))=P++(A1++(B1++(A2++(B2++Q)))):=by
     split
     ·rename_i hc;have:=zzD (P++A1) A2 B1 (B2++Q) (by omega) (by omega);simp only[ju,jA]at this ⊢;rw[show st=P.length+A1.length by omega,show P.length+(A1.length+A2.length)=P.length+A1.length+A2.length by omega,show en=P.length+A1.length+A2.length+B1.length by omega];exact this
     ·rename_i hc;have:A2.length=0\/B1.length=0:=by omega
      rcases this with h|h
      ·have:A2=[]:=kc.1 h;subst this;simp
      ·have:B1=[]:=kc.1 h;subst this;simp
    rw[ht];have hL:∃S1,(if P.length<st/\st<mid then zlI f P.length st mid (P++(A1++(B1++(A2++(B2++Q))))) else P++(A1++(B1++(A2++(B2++Q)))))=P++(S1++(A2++(B2++Q)))/\S1.Perm (A1++B1)/\Srt S1:=by
     split
     ·have:=ih P A1 B1 (A2++(B2++Q)) (by omega) (by omega) (by omega) sA.1 sB.1;rw[show P.length+A1.length=st by omega,show st+B1.length=mid by omega]at this;exact this
     ·have:A1.length=0\/B1.length=0:=by omega
      refine⟨A1++B1,by simp,vt _,?_⟩;rcases this with h|h
      ·have:A1=[]:=kc.1 h;subst this;simpa using sB.1
      ·have:B1=[]:=kc.1 h;subst this;simpa using sA.1
    obtain⟨S1,e1,p1,o1⟩:=hL;rw[e1];have hl1:=p1.length_eq;simp only[ju]at hl1;have hR:∃S2,(if mid<en/\en<P.length+(A1.length+A2.length)+(B1.length+B2.length) then zlI f mid en (P.length+(A1.length+A2.length)+(B1.length+B2.length)) (P++(S1++(A2++(B2++Q)))) else P++(S1++(A2++(B2++Q))))=P++(S1++(S2++Q))/\S2.Perm (A2++B2)/\Srt S2:=by
     split
     ·obtain⟨S2,g1,g2,g3⟩:=ih (P++S1) A2 B2 Q (by omega) (by omega) (by omega) sA.2.1 sB.2.1;simp only[ju,jA]at g1;rw[show P.length+S1.length=mid by omega,show mid+A2.length=en by omega,show en+B2.length=P.length+(A1.length+A2.length)+(B1.length+B2.length) by omega]at g1;exact⟨S2,g1,g2,g3⟩
     ·have:A2.length=0\/B2.length=0:=by omega
      refine⟨A2++B2,by simp,vt _,?_⟩;rcases this with h|h
      ·have:A2=[]:=kc.1 h;subst this;simpa using sB.2.1
      ·have:B2=[]:=kc.1 h;subst this;simpa using sA.2.1
    obtain⟨S2,e2,p2,o2⟩:=hR;refine⟨S1++S2,by rw[e2];simp,?_,jY.2 ⟨o1,o2,fun a ha b hb=>?_⟩⟩
    ·refine(p1.append p2).trans ?_;simp only[jA];refine uw _ ?_;rw[<-jA,<-jA];exact List.Perm.append_right _ List.perm_append_comm
    ·have ha:=p1.subset ha;have hb:=p2.subset hb;rcases jD.1 ha with ha|ha<;>rcases jD.1 hb with hb|hb
     ·exact sA.2.2 a ha b hb
     ·exact k1 a ha b hb
     ·exact k2 a ha b hb
     ·exact sB.2.2 a ha b hb
theorem zvC(a:Nat):∀(c:Nat) (P l:List zk),P.length=a->zrH a c (P++l)=P++bub l c
 |0,P,l,_=>rfl
 |c+1,P,l,h=>by
  have g:∀i,(P++l).getD (a+i) z9=l.getD i z9:=fun i=>by
   rw[jm,jm,jS (by omega),show a+i-P.length=i by omega]
  have e1:=g (c+1);have e2:=g c;rw[show a+(c+1)=a+c+1 by omega]at e1;rw[zrH,bub,e1,e2];split
  ·rw[<-zvC a c P _ h]
   congr 1
   unfold swp;rw[e1,e2,qP _ _ (by omega),qP _ _ (by omega),show a+c+1-P.length=c+1 by omega,show a+c-P.length=c by omega]
  ·rfl
theorem zs3(a:Nat):∀(m i:Nat) (P l:List zk),P.length=a->zjJ a i m (P++l)=P++zq4 l i m
 |0,i,P,l,_=>rfl
 |m+1,i,P,l,h=>by rw[zjJ,zq4,zvC a i P l h,zs3 a m (i+1) P _ h]
theorem zs2:∀(r s Q:List zk),zq4 (s++(r++Q)) s.length r.length=r.foldl zfK s++Q
 |[],s,Q=>by simp[zq4]
 |x::r,s,Q=>by
  have e:bub (s++(x::r++Q)) s.length=zfK s x++(r++Q):=zup x s.length s (r++Q) rfl;rw[jk,zq4,e,jN];have h:=zs2 r (zfK s x) Q;rw[zn4]at h;exact h
theorem zyQ(s:List zk)(x:zk):(zfK s x).Perm (x::s):=by
 unfold zfK;have:=jP (zev x s s.length) s;refine List.perm_middle.trans ?_;rw[this]
theorem znu:∀(r s:List zk),(r.foldl zfK s).Perm (s++r)
 |[],s=>by simp
 |x::r,s=>by
  refine(znu r (zfK s x)).trans ?_;refine((zyQ s x).append_right r).trans ?_;simpa using(vN (a:=x) (l₁:=s) (l₂:=r)).symm
theorem zq5(P C Q:List zk):∃S,zjJ P.length 1 (P.length+C.length-(P.length+1)) (P++(C++Q))=P++(S++Q)/\S.Perm C/\Srt S:=by
 rw[zs3 P.length _ 1 P _ rfl];cases C with
 |nil=>exact⟨[],by simp[zq4],vt _,List.Pairwise.nil⟩
 |cons x r =>
  have h:=zs2 r [x] Q;refine⟨r.foldl zfK [x],?_,by simpa using znu r [x],ziR r [x] (by simp)⟩;simp only[jk,jp,jh,jf]at h ⊢;rw[show P.length+(r.length+1)-(P.length+1)=r.length by omega];rw[h]
inductive Chf (bs:Nat):List zk->Prop
 |nil:Chf bs []
 |cons {C R:List zk}:C.length=bs->Srt C->Chf bs R->Chf bs (C++R)
inductive Chs (bs:Nat):List zk->Prop
 |one {C:List zk}:C.length<=bs->Srt C->Chs bs C
 |cons {C R:List zk}:C.length=bs->Srt C->Chs bs R->Chs bs (C++R)
theorem Chf.snoc{bs:Nat}{R C:List zk}(h:Chf bs R)(hc:C.length<=bs)(hs:Srt C):Chs bs (R++C):=by
 induction h with
 |nil=>simpa using Chs.one hc hs
 |cons a b _ ih=>rw[jA];exact Chs.cons a b ih
theorem Chs.short{bs:Nat}{R:List zk}(h:Chs bs R)(hl:R.length<=bs):Srt R:=by
 cases h with
 |one _ h=>exact h
 |cons a b c =>
  rename_i C R';have:R'=[]:=kc.1 (by simp at hl;omega);subst this;simpa using b
theorem Chs.long{bs:Nat}{R:List zk}(h:Chs bs R)(hl:bs<R.length):∃C R',R=C++R'/\C.length=bs/\Srt C/\Chs bs R':=by
 cases h with
 |one h _=>omega
 |cons a b c=>exact⟨_,_,rfl,a,b,c⟩
theorem Chs.two{bs:Nat}(h0:0<bs){R:List zk}(h:Chs bs R)(hl:2*bs<=R.length):∃A B R',R=A++(B++R')/\A.length=bs/\B.length=bs/\Srt A/\Srt B/\Chs bs R':=by
 obtain⟨A,R1,rfl,a1,a2,a3⟩:=h.long (by omega);simp at hl;by_cases c:bs<R1.length
 ·obtain⟨B,R2,rfl,b1,b2,b3⟩:=a3.long c;exact⟨A,B,R2,rfl,a1,b1,a2,b2,b3⟩
 ·exact⟨A,R1,[],by simp,a1,by omega,a2,a3.short (by omega),Chs.one (by simp) List.Pairwise.nil⟩
theorem zAG(bs k:Nat)(T:List zk):∀(f:Nat) (P R:List zk),P.length+R.length=k->R.length<f*bs->∃R1 R2,zok bs k f P.length (P++(R++T))=(P.length+R1.length,P++(R1++(R2++T)))/\(R1++R2).Perm R/\Chf bs R1/\R2.length<bs:=by
 intro f;induction f with
 |zero=>intro P R h1 h2;omega
 |succ f ih =>
  intro P R h1 h2;rw[zok];by_cases c:P.length+bs<=k
  ·rw[if_pos c];have hR:=jP bs R;have l1:(R.take bs).length=bs:=by simp;omega
   have l2:(R.drop bs).length=R.length-bs:=by simp
   generalize R.take bs=C at *;generalize R.drop bs=R' at *;subst hR;obtain⟨S,e,p,s⟩:=zq5 P C (R'++T);have hs:=p.length_eq;rw[l1]at e;obtain⟨R1,R2,g1,g2,g3,g4⟩:=ih (P++S) R' (by simp at h1 ⊢;omega) (by rw[kV]at h2;omega);rw[jA C,e];simp only[ju,jA]at g1;rw[show P.length+S.length=P.length+bs by omega]at g1;rw[g1];refine⟨S++R1,R2,by simp;omega,?_,Chf.cons (by omega) s g3,g4⟩;rw[jA];exact p.append g2
  ·rw[if_neg c];exact⟨[],R,by simp,by simp,Chf.nil,by omega⟩
theorem zzY(bs k:Nat)(h0:0<bs)(T:List zk):∀(f:Nat) (P R:List zk),P.length+R.length=k->R.length<f*(2*bs)->Chs bs R->∃R1 R2,zgP bs k f P.length (P++(R++T))=(P.length+R1.length,P++(R1++(R2++T)))/\(R1++R2).Perm R/\Chf (2*bs) R1/\R2.length<2*bs/\Chs bs R2:=by
 intro f;induction f with
 |zero=>intro P R h1 h2;omega
 |succ f ih =>
  intro P R h1 h2 hc;rw[zgP];by_cases c:P.length+2*bs<=k
  ·rw[if_pos c];obtain⟨A,B,R',rfl,a1,b1,a2,b2,r3⟩:=hc.two h0 (by omega);obtain⟨S,e,p,s⟩:=zuD (2*bs) P A B (R'++T) (by omega) (by omega) (by omega) a2 b2;have hs:=p.length_eq;simp only[ju]at hs h1 h2;obtain⟨R1,R2,g1,g2,g3,g4,g5⟩:=ih (P++S) R' (by simp;omega) (by rw[kV]at h2;omega) r3;rw[a1,b1,show P.length+bs+bs=P.length+2*bs by omega]at e;simp only[jA];rw[e];simp only[ju,jA]at g1;rw[show P.length+S.length=P.length+2*bs by omega]at g1;rw[g1];refine⟨S++R1,R2,by simp;omega,?_,Chf.cons (by omega) s g3,g4,g5⟩;rw[jA];refine(p.append g2).trans ?_;simp
  ·rw[if_neg c];exact⟨[],R,by simp,by simp,Chf.nil,by omega,hc⟩
theorem zyj(bs:Nat)(h0:0<bs)(R T:List zk)(h:Chs bs R):∃R',zjE bs R.length (R++T)=R'++T/\R'.Perm R/\Chs (2*bs) R':=by
 obtain⟨R1,R2,e,p,c1,l2,c2⟩:=zzY bs R.length h0 T (R.length+1) [] R (by simp) (by have:R.length+1<=(R.length+1)*(2*bs):=kP _ (by omega);omega) h;simp only[jf,jp,jB]at e;have hl:=p.length_eq;simp only[ju]at hl;unfold zjE;rw[e];dsimp only;by_cases c:R1.length+bs<R.length
 ·rw[if_pos c];obtain⟨A,B,rfl,a1,a2,a3⟩:=c2.long (by omega);simp only[ju]at hl l2;obtain⟨S,e2,p2,s2⟩:=zuD (R.length-R1.length) R1 A B T (by omega) (by omega) (by omega) a2 (a3.short (by omega));have hs:=p2.length_eq;simp only[ju]at hs;rw[a1,show R1.length+bs+B.length=R.length by omega]at e2;refine⟨R1++S,?_,?_,c1.snoc (by omega) s2⟩
  ·simp only[jA];exact e2
  ·exact(uw _ p2).trans p
 ·rw[if_neg c];exact⟨R1++R2,by simp,p,c1.snoc (by omega) (c2.short (by omega))⟩
theorem zpp(T:List zk):∀(f bs:Nat) (R:List zk),0<bs->R.length<bs+f->Chs bs R->∃S,vJ R.length f bs (R++T)=S++T/\S.Perm R/\Srt S
 |0,bs,R,h0,hf,hc=>⟨R,rfl,vt _,hc.short (by omega)⟩
 |f+1,bs,R,h0,hf,hc=>by
  rw[vJ];by_cases c:bs<R.length
  ·rw[if_pos c];obtain⟨R',e,p,hc'⟩:=zyj bs h0 R T hc;have hl:=p.length_eq;obtain⟨S,e2,p2,s2⟩:=zpp T f (2*bs) R' (by omega) (by omega) hc';rw[hl]at e2;exact⟨S,by rw[e,e2],p2.trans p,s2⟩
  ·rw[if_neg c];exact⟨R,rfl,vt _,hc.short (by omega)⟩
theorem zuI(R T:List zk):∃S,zmz R.length (R++T)=S++T/\S.Perm R/\Srt S:=by
 obtain⟨R1,R2,e,p,c1,l2⟩:=zAG 20 R.length T (R.length+1) [] R (by simp) (by have:R.length+1<=(R.length+1)*20:=kP _ (by omega);omega);simp only[jf,jp,jB]at e;have hl:=p.length_eq;simp only[ju]at hl;unfold zmz;rw[e];dsimp only;obtain⟨S2,e2,p2,s2⟩:=zq5 R1 R2 T;have h2:=p2.length_eq;rw[show R1.length+R2.length=R.length by omega]at e2;rw[e2];have hc:Chs 20 (R1++S2):=c1.snoc (by omega) s2;obtain⟨S,e3,p3,s3⟩:=zpp T R.length 20 (R1++S2) (by decide) (by simp;omega) hc;have h3:(R1++S2).length=R.length:=by simp;omega
 rw[h3,jA]at e3;exact⟨S,e3,p3.trans ((uw _ p2).trans p),s3⟩
theorem zs4{x y:zk}(h:x.lane=y.lane):zeM x y=zeM y x:=by
 unfold zeM;rw[h]
 congr 1
 ·omega
 ·omega
 ·omega
 ·omega
 ·by_cases c:x.hold=0<;>by_cases d:y.hold=0<;>simp[c,d];omega
theorem zyR(a x y:zk):zeM (zeM a x) y=zeM (zeM a y) x:=by
 unfold zeM
 congr 1
 ·dsimp;omega
 ·dsimp;omega
 ·dsimp;omega
 ·dsimp;omega
 ·dsimp;by_cases b:a.hold=0<;>by_cases c:x.hold=0<;>by_cases d:y.hold=0<;>simp[b,c,d];have h1:¬max a.hold x.hold=0:=by omega
  have h2:¬max a.hold y.hold=0:=by omega
  simp[h1,h2];omega
theorem zds(o:List zk)(a b:zk):zaQ (o++[a]) b=if meets a b=true then o++[zeM a b] else o++[a]++[b]:=by
 have e:(o++[a]).getD ((o++[a]).length-1) z9=a:=by simp[jm]
 unfold zaQ;rw[e];by_cases h:meets a b=true
 ·rw[if_pos ⟨by simp,h⟩,if_pos h];simp
 ·rw[if_neg (fun g=>h g.2),if_neg h]
theorem zse(out:List zk){x y:zk}(h1:x.lane=y.lane)(h2:x.lo=y.lo)(hx:x.lo<=x.hi)(hy:y.lo<=y.hi):zaQ (zaQ out x) y=zaQ (zaQ out y) x:=by
 have hm:∀a,meets a x=meets a y:=fun a=>by unfold meets;rw[h1,h2]
 have m1:meets x y=true:=by unfold meets;simp[h1];omega
 have m2:meets y x=true:=by unfold meets;simp[h1];omega
 rcases vE out with e |⟨o,a,e⟩
 ·subst e;have e0:∀b,zaQ [] b=[]++[b]:=fun b=>by simp[zaQ]
  rw[e0,e0,zds,zds,if_pos m1,if_pos m2,zs4 h1]
 ·rw[vF]at e;subst e;rw[zds,zds,<-hm a];by_cases c:meets a x=true
  ·have c1:meets (zeM a x) y=true:=by
    unfold meets at c ⊢;unfold zeM;simp at c ⊢;omega
   have c2:meets (zeM a y) x=true:=by
    unfold meets at c ⊢;unfold zeM;simp at c ⊢;omega
   rw[if_pos c,if_pos c,zds,zds,if_pos c1,if_pos c2,zyR]
  ·rw[if_neg c,if_neg c,zds,zds,if_pos m1,if_pos m2,zs4 h1]
theorem zrb{x:zk}(hx:x.lo<=x.hi):∀(u:List zk) (g:List zk),(∀y∈u,y.lane=x.lane/\y.lo=x.lo/\y.lo<=y.hi)->u.foldl zaQ (zaQ g x)=zaQ (u.foldl zaQ g) x
 |[],g,h=>rfl
 |y::u,g,h=>by
  obtain⟨h1,h2,h3⟩:=h y (jr ..);simp only[jN];rw[zse g h1.symm h2.symm hx h3,zrb hx u (zaQ g y) fun z hz=>h z (jv _ hz)]
theorem zn8:∀(s t:List zk) (g:List zk),s.Perm t->Srt s->Srt t->(∀x∈s,x.lo<=x.hi)->s.foldl zaQ g=t.foldl zaQ g
 |[],t,g,hp,_,_,_=>by rw[hp.nil_eq]
 |x::s,t,g,hp,hs,ht,hn=>by
  have hx:x∈t:=hp.mem_iff.1 (jr ..);obtain⟨u,v,rfl⟩:=List.append_of_mem hx;have hp':s.Perm (u++v):=(List.perm_cons x).1 (hp.trans vN);have ht':Srt (u++v):=ht.sublist (List.Sublist.append_left (List.sublist_cons_self ..) u);obtain⟨hs1,hs2⟩:=jZ.1 hs;have ih:=zn8 s (u++v) (zaQ g x) hp' hs2 ht' fun y hy=>hn y (jv _ hy)
  have hu:∀y∈u,y.lane=x.lane/\y.lo=x.lo/\y.lo<=y.hi:=by
   intro y hy;have h1:leB y x:=(jY.1 ht).2.2 y hy x (jr ..);have h2:y∈s:=hp'.mem_iff.2 (kM _ hy);have h3:=hs1 y h2;unfold leB at h1 h3;exact⟨by omega,by omega,hn y (jv _ h2)⟩
  simp only[jN,List.foldl_append]at ih ⊢;rw[ih,zrb (hn x (jr ..)) u g hu]
theorem zq6{l:List zk}:∀x∈l.filter (fun b=>!bad b),x.lo<=x.hi:=by
 intro x hx;have:=(v6.1 hx).2;simp at this;omega
theorem zAi{l S:List zk}(hp:S.Perm (l.filter fun b=>!bad b))(hs:Srt S):S.foldl zaQ []=zcz l:=by
 rw[<-zAh];unfold zAj;rw[zsN];refine zn8 S _ [] ?_ hs (ziR _ [] List.Pairwise.nil) (fun x hx=>zq6 x (hp.subset hx));exact hp.trans (by simpa using(znu (l.filter fun b=>!bad b) []).symm)
theorem zso(l:List zk)(hl:l.length<=100000000000)(hok:∀x∈l,OKB x):R L Cs zsj [.c (.jb (zI l))] []=some (.w (.c (.jb (zI (zcz l)))),[]):=by
 have hc:=zvv l (by omega);obtain⟨l',v1,d1,d2,d3,d4,d5,hD⟩:=zuw l l.length (by omega);obtain⟨S,e,p,s⟩:=zuI (l.filter fun b=>!bad b) (l'.drop (l.filter fun b=>!bad b).length);have hsl:=p.length_eq;have hdec:(l.filter fun b=>!bad b)++l'.drop (l.filter fun b=>!bad b).length=l':=by
  conv=>lhs;arg 1;rw[<-d5]
  exact jP _ _
 rw[hdec]at e;obtain⟨v2,s1,s2,hS⟩:=zsp l'.length (l.filter fun b=>!bad b).length (by omega) (by omega) l' rfl v1;rw[e]at s2 hS;have htk:(S++l'.drop (l.filter fun b=>!bad b).length).take (l.filter fun b=>!bad b).length=S:=by
  rw[<-hsl,List.take_left]
 have hSl0:(S++l'.drop (l.filter fun b=>!bad b).length).length=l.length:=by simp;omega
 obtain⟨w',hJ⟩:=zyO (S++l'.drop (l.filter fun b=>!bad b).length) (l.filter fun b=>!bad b).length (by omega) (by omega) v2 (by
  rw[htk];intro x hx;exact hok x (v6.1 (p.subset hx)).1) _ 0 [] 0 rfl (jt _) (jt _) (by simp)
 rw[y9,htk,zAi p s]at hJ;generalize hk:(l.filter fun b=>!bad b).length=k at *;generalize zcz l=Q at *;generalize S++l'.drop k=S' at *;simp only[blk,hSl0,d3,jg,jp,zic,vk,jf]at hD hS hJ;rw[zUa zsx rfl];by_cases q1:v1=l.length
 ·have e1:=d2 q1;by_cases q2:v2=v1
  ·have e2:=s2 q2;rw[e1,q1]at hD;rw[e2,e1,q2,q1]at hS hJ;simp[zeQ,hc,hD,hS,hJ]
  ·rw[e1,q1]at hD;rw[e1,q1]at hS;rw[q1]at q2;simp[zeQ,hc,hD,hS,hJ,q2]
 ·by_cases q2:v2=v1
  ·have e2:=s2 q2;rw[e2,q2]at hS hJ;simp[zeQ,hc,hD,hS,hJ,q1]
  ·simp[zeQ,hc,hD,hS,hJ,q1,q2]
def zfx(len:Int)(e:Ego):Int:=e.shi-len-1
def zex(m:zD)(zs:List Zon)(ss:List Sgn)(r:List Int)(len:Int)(k:zci)(e:Ego)(signals:Bool):List zk :=
 zgt m zs ss r (zfx len e) e.slo len k signals (zkr m k.ego len r k.j8)++(zbK m 0 m.jc).flatMap (zfb m (r.getD 0 0) (zfx len e))
def zfV(m:zD)(zs:List Zon)(ss:List Sgn)(r:List Int)(len:Int)(k:zci)(e:Ego)(signals:Bool):List Swp :=
 zhM m zs ss r (zfx len e) e.slo len k signals (zkr m k.ego len r k.j8)
def zpg(m:zD)(zs:List Zon)(ss:List Sgn)(r:List Int)(len:Int)(k:zci)(e:Ego)(signals:Bool):zci :=
 ⟨k.tick+1,zkr m e len r (zcz (zex m zs ss r len k e signals)),e⟩
theorem zsL(m:zD)(r0 bar:Int):∀(t:List Int),(t.flatMap (zfb m r0 bar)).length<=t.length
 |[]=>by simp
 |x::t=>by
  have ih:=zsL m r0 bar t;have:(zfb m r0 bar x).length<=1:=by unfold zfb;split<;>simp
  rw[jO,ju,jk];omega
theorem zne{m:zD}(hs:zmX m)(zs:List Zon)(ss:List Sgn){r:List Int}(hr:r.length<=2)(len:Int)(k:zci)(e:Ego)(signals:Bool)(hk:k.j8.length<=200000000):(zex m zs ss r len k e signals).length<=2400000100:=by
 have h1:=zxY hs zs ss r (zfx len e) e.slo len k signals (zkr m k.ego len r k.j8);have h2:=zij m k.ego len hr k.j8;have h3:=zsL m (r.getD 0 0) (zfx len e) (zbK m 0 m.jc);have h4:=zlK m m.jc 0;have h5:=hs.few;unfold zex;rw[ju];omega
theorem zsI{m:zD}(h:zcp m)(zs:List Zon)(ss:List Sgn)(r:List Int)(len:Int)(k:zci)(e:Ego)(signals:Bool)(hvb:∀b∈k.j8,VB m b):∀x∈zex m zs ss r len k e signals,OKB x:=by
 intro x hx;unfold zex at hx;rcases jD.1 hx with hx|hx
 ·unfold zgt at hx;obtain⟨b,hb,hx⟩:=qf.1 hx;obtain⟨z,hz,rfl⟩:=ko.1 hx;have hv:=ztK k.ego len r k.j8 hvb b hb;have hbd:=zwE h zs ss k signals hv;unfold zm8 at hz;split at hz
  ·have ho:=zBF h r (zfx len e) e.slo (mvF m zs ss k signals b) (by rw[hbd.1];exact hv.lane) _ _ _ z hz;have h1:=zcX h ho.on;have h2:=ho.lo;have h3:=ho.le;have h4:=ho.hi;exact⟨by omega,by omega,by omega,by omega⟩
  ·cases hz
 ·obtain⟨b,hb,hx⟩:=qf.1 hx;unfold zfb at hx;split at hx
  ·simp only[jJ]at hx;subst hx;exact⟨by simp,by simp,by simp,by simp⟩
  ·cases hx
theorem zux{m:zD}{zs:List Zon}{ss:List Sgn}(hf:zmq m zs ss){r:List Int}(hr:zdA m r=0)(len:Int)(hn:0<=len/\len<=20000)(k:zci)(hk:k.j8.length<=200000000)(ht:0<=k.tick/\k.tick<=1099511628776)(he:znd k.ego)(hvb:∀b∈k.j8,VB m b)(act:Int)(ha:zk0 act)(signals:Bool) :
  R L Cs zl7 [.a (zh m r len),.a (zG k),W act,Bo signals] []=some (.t [.a (zG (zpg m zs ss r len k (zaN m r k.ego act) signals)),.c (.jb (zbf (zhp (zlg (zfV m zs ss r len k (zaN m r k.ego act) signals)))))],[]):=by
 have h:=hf.qF;obtain⟨hon,hne,hl8⟩:=zg1 h hr;have hr2:=zlP hf.ye hr;obtain⟨x0,r',rfl⟩:∃x r',r=x::r':=by cases r with|nil=>exact absurd rfl hne|cons x r'=>exact⟨x,r',rfl⟩
 have hx0:=hon x0 (jr ..);have hD:=zvQ h x0 r' len hx0 k.ego he act ha;have s1:=zge h r' hx0 act k.ego.vlo;have s2:=zge h r' hx0 act k.ego.vhi;have hes:=he.s;have hbl:=zne hf.ye zs ss hr2 len k (zaN m (x0::r') k.ego act) signals hk;have hok:=zsI h zs ss (x0::r') len k (zaN m (x0::r') k.ego act) signals hvb;have hb1:0<=(zaN m (x0::r') k.ego act).slo/\(zaN m (x0::r') k.ego act).slo<=1099511630000/\0<=(zaN m (x0::r') k.ego act).shi/\(zaN m (x0::r') k.ego act).shi<=1099511630000:=by
  simp only[zaN];omega
 have hsw:(zfV m zs ss (x0::r') len k (zaN m (x0::r') k.ego act) signals).length<=2400000100:=by
  have h1:=zoA hf.ye zs ss (x0::r') (zfx len (zaN m (x0::r') k.ego act)) (zaN m (x0::r') k.ego act).slo len k signals (zkr m k.ego len (x0::r') k.j8);have h2:=zij m k.ego len hr2 k.j8;unfold zfV;omega
 unfold zpg;generalize zaN m (x0::r') k.ego act=e at *;have hp:2 ^ (x0::r').length<=4:=vT (by decide) hr2;have hO1:=zor h (x0::r') hl8 hon len k.ego (by omega) hn k.j8 (by
  refine j9 (ym hk hp) (by decide))
 have hJl:=zkq (zex m zs ss (x0::r') len k e signals);have hO2:=zor h (x0::r') hl8 hon len e (by omega) hn (zcz (zex m zs ss (x0::r') len k e signals)) (by
  refine j9 (ym (j9 hJl hbl) hp) (by decide))
 have hJ:=zso (zex m zs ss (x0::r') len k e signals) (by omega) hok;have BW:-4000000000000<=zfx len e/\zfx len e<=4000000000000:=by unfold zfx;omega
 have hly:ziO m (x0::r') (zfx len e):=⟨h,hl8,hon,BW⟩;have how:=zij m k.ego len hr2 k.j8;have hvo:=ztK k.ego len (x0::r') k.j8 hvb;generalize zkr m e len (x0::r') (zcz (zex m zs ss (x0::r') len k e signals))=out at *;generalize zcz (zex m zs ss (x0::r') len k e signals)=jn at *;unfold zex at hJ hbl;unfold zfV at hsw ⊢;generalize zkr m k.ego len (x0::r') k.j8=ow at *;have h3:=zwe hf hly len hn e k he ow hvo (by omega) signals ow 0 [] [] rfl (jt _) (by simp) (by simp);have hTg:∀(i:Nat) (hi:i<(srT m).length),(srT m)[i]=decide (zes (i:Int) 0 m.jc=[]):=zBi m;have h4:=zwd h x0 r' len (zfx len e) e k (zhM m zs ss (x0::r') (zfx len e) e.slo len k signals ow) (srT m) (zxq m) hTg m.jc 0 (zgt m zs ss (x0::r') (zfx len e) e.slo len k signals ow) rfl (jt _) (by have:=h.small.jc;rw[ju]at hbl;omega);have e0:(x0::r').getD 0 0=x0:=rfl;rw[e0]at hJ hbl;generalize zgt m zs ss (x0::r') (zfx len e) e.slo len k signals ow++(zbK m 0 m.jc).flatMap (zfb m x0 (zfx len e))=bl at *;generalize hSA:zgt m zs ss (x0::r') (zfx len e) e.slo len k signals ow=sa at *;generalize zhM m zs ss (x0::r') (zfx len e) e.slo len k signals ow=sw at *;have w1:=kg (e.shi-len);have w2:=kg (e.shi-len-1);have w3:=kg (k.tick+1);simp only[zfx,zh,zi,zch,zm,zG,jh,jf,zaP]at hD hO1 hO2 h3 h4;simp only[s3E,s4E,stM,bsC,swW,zdQ,own,zfx,zaP,zox,jf,zh,zi,zch,zm,zG,jh,jf,jg,zmB,zgg,jp,zic,zoB]at h3 h4;by_cases c:sw=[]
 ·subst c;have hS:=zvU 0;have hC:R L Cs zeD [.c (.slice 0 0 4 0 0 none)] [swB 0 []]=some (.w (.c (.slice 0 0 4 0 0 none)),[swB 0 []]):=by
   rw[zUa zcq rfl];simp[zbk,zg]
  have e3:zlg []=[]:=kc.1 (by rw[zhh];rfl);have e2:zhp (zlg [])=[]:=by rw[e3];rfl
  simp only[swB,swS,jp,zoB]at hS hC h4;rw[e2,zUa zhx rfl];simp (maxSteps:=3000000) [zcT,zh,zi,zch,zm,zG,hD,hO1,hO2,h3,h4,hJ,hS,hC,w1,w2,w3,zg,zX]
 ·have hS:=zB0 sw (by omega) c sw.length;obtain⟨C,v',c1,c2,c3,c4,c5,hC⟩:=zrS (zlg sw) (by rw[zhh];omega) (sw.length+1);rw[zhh]at c1 c5;simp only[swB,swS,zhh,c1]at hS hC;have c2':=congrArg zbf c2;rw[<-zwp]at c2';generalize zhp (zlg sw)=q at *;rw[zUa zhx rfl];have hql:q.length<=sw.length:=c5;have hqC:q.length<=C.length:=by rw[c1];exact c5
  by_cases qv:v'=sw.length+1
  ·have eC:=c4 qv;subst eC;subst qv;simp (maxSteps:=3000000) [zcT,zh,zi,zch,zm,zG,hD,hO1,hO2,h3,h4,hJ,hS,hC,w1,w2,w3,zg,zhh,hql,zX,c2',c5]
  ·simp (maxSteps:=3000000) [zcT,zh,zi,zch,zm,zG,hD,hO1,hO2,h3,h4,hJ,hS,hC,w1,w2,w3,zg,qv,hqC,zX,c2',c5]
def zm6(m:zD)(r:List Int)(len:Int)(k:zci)(act:Int):Int :=
 if zdf m k=0 then(if zdA m r=0 then(if(300<=len/\len<=20000)/\k.tick≠1099511627776/\(zaN m r k.ego act).shi<=1099511627776 then 0 else 2) else 13) else zdf m k
def zsH(m:zD)(zs:List Zon)(ss:List Sgn)(r:List Int)(len:Int)(k:zci)(act:Int)(signals:Bool):AV :=
 if zm6 m r len k act=0 then .t [.a (zG (zpg m zs ss r len k (zaN m r k.ego act) signals)),.c (.jb (zbf (zhp (zlg (zfV m zs ss r len k (zaN m r k.ego act) signals))))),W 0]
 else .t [.a (zG ⟨0,[],⟨0,0,0,0⟩⟩),.c (.jb []),W (zm6 m r len k act)]
theorem zte{m:zD}{k:zci}(h:zdf m k=0):znd k.ego/\0<=k.tick/\k.tick<=1099511627776:=by
 unfold zdf at h;split at h
 ·cases h
 ·rename_i ho;unfold ziI zsa at ho;exact⟨⟨by omega,by omega⟩,by omega,by omega⟩
abbrev zzK(k:zci)(e:Ego):List Cl:=[I (k.tick+1),.jd,I e.slo,I e.shi,I e.vlo,I e.vhi]
abbrev goM(m:zD)(r:List Int)(bar:Int)(e:Ego)(k:zci)(bs:List zk)(sw:List Swp):Mem:=[bx 5 (zf m),bx 6 (zG k),bx 6 zox,gb 4,bxv 1 6 (zzK k e),bxv 1 12 (zT m r bar e),some (own 6 (zI bs)),zdQ sw]
abbrev zwW(m:zD)(r:List Int)(bar:Int)(e:Ego)(k:zci)(bs:List zk)(sw:List Swp)(x:zk):Mem:=[bx 5 (zf m),bx 6 (zG k),bx 6 zox,gb 4,bxv 1 6 (zzK k e),bxv 1 12 (zT m r bar e),some (own 6 (zI bs)),zdQ sw,bxv 1 6 (ze x)]
abbrev g1E(r:List Int)(len:Int)(src:List Int)(ow bs:List zk)(sw:List Swp)(i:Nat)(signals gap behind:Bool)(ls:List LB)(j:Nat):Env:=[(19,.w (bsC 6 bs)),(29,.w (W j)),(23,.w (W i)),(1,.w (.c (.jb (zu r)))),(14,.w (Pt 4)),(12,.w (Pt 2)),(5,.w (Bo signals)),(21,.w (.c (.jb (zu src)))),(6,.w (Pt 0)),(22,.w (.c (.jb (zI ow)))),(17,.w (Pt 5)),(2,.w (W len)),(9,.w (Pt 1)),(18,.w (Bo gap)),(20,.w (swW 7 sw)),(24,.w (Pt 8)),(27,.w (Bo behind)),(28,.w (.c (.jb (zdz ls))))]
theorem zAq(m:zD)(r:List Int)(len bar:Int)(src:List Int)(e:Ego)(k:zci)(sw:List Swp)(x:zk)(ow:List zk)(i:Nat)(signals gap behind:Bool)(ls:List LB)(hls:ls.length<=100):∀(t:List LB) (j:Nat) (bs:List zk),ls.drop j=t->j<=ls.length->bs.length+t.length<=100000000000 ->
  Y L Cs zdp (some [19,29,23,1,14,12,5,21,6,22,17,2,9,18,20,24,27,28]) 9 (g1E r len src ow bs sw i signals gap behind ls j) (zwW m r bar e k bs sw x) =
    some (.exit 2,(153,.w (Bo false))::g1E r len src ow (bs++t.map Prod.fst) sw i signals gap behind ls ls.length,zwW m r bar e k (bs++t.map Prod.fst) sw x):=by
 intro t;induction t with
 |nil =>
  intro j bs hd hj hb;obtain rfl:=zUb hd hj;rw[zj zdp.eq_1];simp
 |cons z t ih =>
  intro j bs hd hj hb;obtain⟨hjl,hz,hd'⟩:=zL hd;have hw:=zB (i:=j) (by omega);simp only[jk]at hb;have jX:(bs.length+1)*48<=140737488355328:=by omega
  have h:=ih (j+1) (bs++[z.1]) hd' (by omega) (by simp;omega);have e1:bs++List.map Prod.fst (z::t)=bs++[z.1]++List.map Prod.fst t:=by simp
  rw[e1,<-h,zj zdp.eq_1];simp[g1E,zwW,bsC,swW,zdQ,own,zf,zG,zT,ze,hjl,hz,hw,lbC,jX,zg]
abbrev g2E(r:List Int)(len:Int)(src:List Int)(ow bs:List zk)(sw:List Swp)(i:Nat)(signals gap:Bool)(ls:List LB)(j:Nat):Env:=[(20,.w (swW 7 sw)),(30,.w (W j)),(18,.w (Bo gap)),(9,.w (Pt 1)),(2,.w (W len)),(19,.w (bsC 6 bs)),(17,.w (Pt 5)),(22,.w (.c (.jb (zI ow)))),(6,.w (Pt 0)),(21,.w (.c (.jb (zu src)))),(5,.w (Bo signals)),(12,.w (Pt 2)),(14,.w (Pt 4)),(1,.w (.c (.jb (zu r)))),(23,.w (W i)),(28,.w (.c (.jb (zdz ls))))]
theorem zAp(m:zD)(r:List Int)(len bar:Int)(src:List Int)(e:Ego)(k:zci)(bs:List zk)(x:zk)(ow:List zk)(i:Nat)(signals gap:Bool)(ls:List LB)(hls:ls.length<=100):∀(t:List LB) (j:Nat) (sw:List Swp),ls.drop j=t->j<=ls.length->sw.length+t.length<=100000000000 ->
  Y L Cs zdo (some [20,30,18,9,2,19,17,22,6,21,5,12,14,1,23,28]) 9 (g2E r len src ow bs sw i signals gap ls j) (zwW m r bar e k bs sw x) =
    some (.exit 4,(180,.w (Bo false))::g2E r len src ow bs (sw++t.map zlJ) i signals gap ls ls.length,zwW m r bar e k bs (sw++t.map zlJ) x):=by
 intro t;induction t with
 |nil =>
  intro j sw hd hj hb;obtain rfl:=zUb hd hj;rw[zj zdo.eq_1];simp
 |cons z t ih =>
  intro j sw hd hj hb;obtain⟨hjl,hz,hd'⟩:=zL hd;have hw:=zB (i:=j) (by omega);simp only[jk]at hb;have jX:(sw.length+1)*32<=140737488355328:=by omega
  have h:=ih (j+1) (sw++[zlJ z]) hd' (by omega) (by simp;omega);have e1:sw++List.map zlJ (z::t)=sw++[zlJ z]++List.map zlJ t:=by simp
  rw[e1,<-h,zj zdo.eq_1];simp[g2E,zwW,bsC,swW,zdQ,own,zf,zG,zT,ze,hjl,hz,hw,lbC,swC,jX,zg]
theorem zyS(l:List Int)(x:Int)(hl:l.length<=100000000000):∀(r:List Int) (i:Nat),l.drop i=r->i<=l.length ->
  (x∉r->Y L Cs zaS (some [0,1,5]) 0 [(0,.w (.c (.jb (zu l)))),(1,.w (W x)),(5,.w (W i))] []=some (.exit 0,[(9,.w (Bo false)),(1,.w (W x)),(0,.w (.c (.jb (zu l)))),(5,.w (W l.length))],[])) /\
  (x∈r->Y L Cs zaS (some [0,1,5]) 0 [(0,.w (.c (.jb (zu l)))),(1,.w (W x)),(5,.w (W i))] []=some (.ret,[(4,.w (Bo true))],[])):=by
 intro r;induction r with
 |nil =>
  intro i hd hi;obtain rfl:=zUb hd hi;refine⟨fun _=>zhJ ?_ (by simp),fun h=>by simp at h⟩;simp[zaS]
 |cons y r ih =>
  intro i hd hi;obtain⟨hil,hy,hd'⟩:=zL hd;obtain⟨ih1,ih2⟩:=ih (i+1) hd' hil;have hw:=zB (i:=i) (by omega);by_cases hxy:y=x
  ·refine⟨fun h=>by simp[hxy]at h,fun _=>zhJ ?_ (by simp)⟩;have hb:(y==x)=true:=by simp[hxy]
   simp[zaS,hil,hy,hb]
  ·have hb:(y==x)=false:=by simp[hxy]
   have ux:Y L Cs zaS (some [0,1,5]) 0 [(0,.w (.c (.jb (zu l)))),(1,.w (W x)),(5,.w (W i))] []=Y L Cs zaS (some [0,1,5]) 0 [(0,.w (.c (.jb (zu l)))),(1,.w (W x)),(5,.w (W (i+1:Nat)))] []:=by
    rw[zrL];simp[zaS,hil,hy,hb,hw]
   rw[ux];refine⟨fun h=>ih1 (fun h'=>h (jv _ h')),fun h=>ih2 ?_⟩;rcases jy.1 h with h|h
   ·exact absurd h.symm hxy
   ·exact h
theorem zCV(l:List Int)(x:Int)(hl:l.length<=100000000000):R L Cs zl9 [.c (.jb (zu l)),W x] []=some (.w (Bo (decide (x∈l))),[]):=by
 obtain⟨h1,h2⟩:=zyS l x hl l 0 rfl (jt _);simp only[jg]at h1 h2;rw[zUa zms rfl];by_cases h:x∈l
 ·simp[zdX,h2 h,h]
 ·simp[zdX,h1 h,h]abbrev g3E (r:List Int) (len:Int) (src:List Int) (ow bs:List zk) (sw:List Swp) (i:Nat) (signals gap:Bool):Env:=[(23,.w (W i)),(1,.w (.c (.jb (zu r)))),(14,.w (Pt 4)),(12,.w (Pt 2)),(5,.w (Bo signals)),(21,.w (.c (.jb (zu src)))),(6,.w (Pt 0)),(22,.w (.c (.jb (zI ow)))),(17,.w (Pt 5)),(20,.w (swW 7 sw)),(19,.w (bsC 6 bs)),(2,.w (W len)),(9,.w (Pt 1)),(18,.w (Bo gap))]
theorem zBJ{m:zD}{zs:List Zon}{ss:List Sgn}(hf:zmq m zs ss){r:List Int}{bar:Int}(h:ziO m r bar)(len:Int)(hn:0<=len/\len<=20000)(e:Ego)(k:zci)(he:znd k.ego)(ow:List zk)(signals:Bool)(i:Nat)(hi:i<ow.length)(hi2:i<100000000000)(hb:VB m ow[i])(bs:List zk)(sw:List Swp)(hbs:bs.length<=99000000000)(hsw:sw.length<=99000000000) :
  Y L Cs zas (some [23,1,14,12,5,21,6,22,17,20,19,2,9,18]) 8 (g3E r len (zbK m 0 m.jc) ow bs sw i signals (decide (k.ego.shi-len<=k.ego.slo))) (goM m r bar e k bs sw) =
    Y L Cs zas (some [23,1,14,12,5,21,6,22,17,20,19,2,9,18]) 8 (g3E r len (zbK m 0 m.jc) ow (bs++(zm8 m zs ss r bar e.slo len k signals ow[i]).map Prod.fst) (sw++(zn0 m zs ss r bar e.slo len k signals ow[i]).map zlJ) (i+1) signals (decide (k.ego.shi-len<=k.ego.slo))) (goM m r bar e k (bs++(zm8 m zs ss r bar e.slo len k signals ow[i]).map Prod.fst) (sw++(zn0 m zs ss r bar e.slo len k signals ow[i]).map zlJ)):=by
 have hw:=zB (i:=i) (by omega);have hs:=hf.ye;have hmv:R L Cs zgA [.a (zf m),.a (ze ow[i]),W k.tick,Bo signals,Bo (decide (ow[i].lane∈zbK m 0 m.jc))] []=some (.t [.a (ze (mvF m zs ss k signals ow[i])),Bo (decide ((mvF m zs ss k signals ow[i]).lo<=(mvF m zs ss k signals ow[i]).hi))],[]):=zAS hf ow[i] hb k.tick signals _;have Co:=zCV (zbK m 0 m.jc) ow[i].lane (by have:=zlK m m.jc 0;have:=h.qF.small.jc;omega);have hbd:=zwE h.qF zs ss k signals hb;have hix:=zCk m r bar e ow[i].lane (by have:=h.len;omega);have hbl:=hb.lane;have qM:=(zqQ h.qF hb).pos;have hlo:=hb.lo;have hhi:=hb.le;have hes:=he.s;generalize hbe:ow[i]=b at *;unfold zm8 zn0;generalize hmm:mvF m zs ss k signals b=mv at *;generalize decide (b.lane∈zbK m 0 m.jc)=isS at *;generalize zbK m 0 m.jc=src at *;have hml:0<=mv.lane/\mv.lane<m.jc.length:=by rw[hbd.1];exact hbl
 have hla:=zAR h hs e mv hml mv.lo mv.hi (by omega) (by omega) (zfP m r len k b);have hlb:=zAR h hs e mv hml b.lo mv.hi (by omega) (by omega) (zfP m r len k b);have hA:=zjI hs r bar e.slo mv mv.lo mv.hi (zfP m r len k b);have hB:=zjI hs r bar e.slo mv b.lo mv.hi (zfP m r len k b);generalize zlZ m r bar e.slo mv mv.lo mv.hi (zfP m r len k b)=la at *;generalize zlZ m r bar e.slo mv b.lo mv.hi (zfP m r len k b)=lb at *;have h1:=zAq m r len bar src e k sw mv ow i signals (decide (k.ego.shi-len<=k.ego.slo)) (zfP m r len k b) la (by omega) la 0 bs rfl (jt _) (by omega);have h2:=zAp m r len bar src e k (bs++la.map Prod.fst) mv ow i signals (decide (k.ego.shi-len<=k.ego.slo)) lb (by omega) lb 0 sw rfl (jt _) (by omega);have w1:=kg (k.ego.shi-len);simp only[zf,zT,ze,zG,jh,jf]at hmv hix hla hlb;simp only[g1E,g2E,zwW,bsC,swW,zdQ,own,zf,zT,ze,zG,jh,jf,jg,znQ,ju,qr,zgg,zmB,zsU]at h1 h2;by_cases c:mv.lo<=mv.hi
 ·rw[if_pos c,if_pos c];have c':decide (mv.lo<=mv.hi)=true:=by simpa using c
  rw[c']at hmv;cases hL:zgo r b.lane with
  |none =>
   have Aq:zfP m r len k b=false:=by simp[zfP,hL]
   rw[hL]at hix;simp only[zbe]at hix;rw[Aq]at hla hlb h1;rw[zj zas.eq_1];by_cases g:k.ego.shi-len<=k.ego.slo
   ·simp only[g,decide_true]at h1 h2 ⊢;simp[g3E,goM,bsC,swW,zdQ,own,zf,zT,ze,zG,hi,hbe,hw,hmv,Co,hix,hla,hlb,h1,h2,zg]
   ·simp only[g,decide_false]at h1 h2 ⊢;simp[g3E,goM,bsC,swW,zdQ,own,zf,zT,ze,zG,hi,hbe,hw,hmv,Co,hix,hla,hlb,h1,h2,zg]
  |some j =>
   obtain⟨hjl,_⟩:=zfT hL;have hsl:j<(zW m 0 r).length:=by rw[zcO];exact hjl
   have hsi:(zW m 0 r)[j]=ki m r j:=by simp[ki,hsl]
   have hsb:=zmA h hjl;have w2:=kg (ki m r j+b.hi);have hj0:(0:Int)<=(j:Int):=by omega
   rw[hL]at hix;simp only[zbe]at hix;by_cases g:k.ego.shi-len<=k.ego.slo
   ·by_cases d:ki m r j+b.hi<k.ego.shi-len
    ·have Aq:zfP m r len k b=true:=by simp[zfP,hL,g,d]
     rw[Aq]at hla hlb h1;rw[zj zas.eq_1];simp only[g,decide_true]at h1 h2 ⊢;simp[g3E,goM,bsC,swW,zdQ,own,zf,zT,ze,zG,hi,hbe,hw,hmv,Co,hix,hla,hlb,h1,h2,zg,hsl,hsi,w1,w2,d,hj0]
    ·have Aq:zfP m r len k b=false:=by simp[zfP,hL,d]
     rw[Aq]at hla hlb h1;rw[zj zas.eq_1];simp only[g,decide_true]at h1 h2 ⊢;simp[g3E,goM,bsC,swW,zdQ,own,zf,zT,ze,zG,hi,hbe,hw,hmv,Co,hix,hla,hlb,h1,h2,zg,hsl,hsi,w1,w2,d,hj0]
   ·have Aq:zfP m r len k b=false:=by simp[zfP,hL,g]
    rw[Aq]at hla hlb h1;rw[zj zas.eq_1];simp only[g,decide_false]at h1 h2 ⊢;simp[g3E,goM,bsC,swW,zdQ,own,zf,zT,ze,zG,hi,hbe,hw,hmv,Co,hix,hla,hlb,h1,h2,zg,hsl,hsi,w1,w2,hj0]
 ·rw[if_neg c,if_neg c];have c':decide (mv.lo<=mv.hi)=false:=by simpa using c
  rw[c']at hmv;rw[zj zas.eq_1];simp[g3E,goM,bsC,swW,zdQ,own,zf,zT,ze,zG,hi,hbe,hw,hmv,Co,zg]
theorem zt7{m:zD}{zs:List Zon}{ss:List Sgn}(hf:zmq m zs ss){r:List Int}{bar:Int}(h:ziO m r bar)(len:Int)(hn:0<=len/\len<=20000)(e:Ego)(k:zci)(he:znd k.ego)(ow:List zk)(hvb:∀b∈ow,VB m b)(how:ow.length<=800000000)(signals:Bool):∀(t:List zk) (i:Nat) (bs:List zk) (sw:List Swp),ow.drop i=t->i<=ow.length->bs.length<=3*i->sw.length<=3*i ->
  Y L Cs zas (some [23,1,14,12,5,21,6,22,17,20,19,2,9,18]) 8 (g3E r len (zbK m 0 m.jc) ow bs sw i signals (decide (k.ego.shi-len<=k.ego.slo))) (goM m r bar e k bs sw) =
    some (.exit 0,(85,.w (Bo false))::g3E r len (zbK m 0 m.jc) ow (bs++zgt m zs ss r bar e.slo len k signals t) (sw++zhM m zs ss r bar e.slo len k signals t) ow.length signals (decide (k.ego.shi-len<=k.ego.slo)),goM m r bar e k (bs++zgt m zs ss r bar e.slo len k signals t) (sw++zhM m zs ss r bar e.slo len k signals t)):=by
 intro t;induction t with
 |nil =>
  intro i bs sw hd hi h1 h2;obtain rfl:=zUb hd hi;rw[zj zas.eq_1];simp[zgt,zhM]
 |cons b t ih =>
  intro i bs sw hd hi h1 h2;obtain⟨hil,hb,hd'⟩:=zL hd;have l1:=zoO hf.ye zs ss r bar e.slo len k signals b;have l2:=zoN hf.ye zs ss r bar e.slo len k signals b;rw[zBJ hf h len hn e k he ow signals i hil (by omega) (hvb _ (je hil)) bs sw (by omega) (by omega),hb,ih (i+1) _ _ hd' (by omega) (by simp;omega) (by simp;omega)];simp[zgt,zhM]
abbrev g4E(r:List Int)(len:Int)(src:List Int)(bs:List zk)(sw:List Swp)(i:Nat):Env:=[(19,.w (bsC 6 bs)),(31,.w (W i)),(12,.w (Pt 2)),(14,.w (Pt 4)),(20,.w (swW 7 sw)),(2,.w (W len)),(6,.w (Pt 0)),(1,.w (.c (.jb (zu r)))),(17,.w (Pt 5)),(21,.w (.c (.jb (zu src))))]
theorem zt6{m:zD}(h:zcp m)(x0:Int)(r:List Int)(len bar:Int)(e:Ego)(k:zci)(sw:List Swp)(src:List Int)(hsrc:∀x∈src,0<=x/\x<m.jc.length)(hsl:src.length<=1000):∀(t:List Int) (i:Nat) (bs:List zk),src.drop i=t->i<=src.length->bs.length+t.length<=100000000000 ->
  Y L Cs zbR (some [19,31,12,14,20,2,6,1,17,21]) 8 (g4E (x0::r) len src bs sw i) (goM m (x0::r) bar e k bs sw) =
    some (.exit 6,(213,.w (Bo false))::g4E (x0::r) len src (bs++t.flatMap (zfb m x0 bar)) sw src.length,goM m (x0::r) bar e k (bs++t.flatMap (zfb m x0 bar)) sw):=by
 intro t;induction t with
 |nil =>
  intro i bs hd hi hb;obtain rfl:=zUb hd hi;rw[zj zbR.eq_1];simp
 |cons x t ih =>
  intro i bs hd hi hb;obtain⟨hil,hx,hd'⟩:=zL hd;simp only[jk]at hb;have hw:=zB (i:=i) (by omega);have hxm:=hsrc x (by rw[<-hx];exact je _);obtain⟨n,rfl⟩:=js hxm.1;have hn:n<m.jc.length:=by omega
  have hB:=zhv (h.kind _ (je hn));have ek:zaK m n=m.jc[n].kind:=by simp[zaK,hn]
  have jX:(bs.length+1)*48<=140737488355328:=by omega
  rw[jO];by_cases c1:(n:Int)=x0
  ·subst c1;by_cases c2:0<=bar
   ·have hs:zfb m n bar n=[⟨n,0,0,0,zeR m.jc[n].kind,0⟩]:=by simp[zfb,zqn,c2,ek]
    have:=ih (i+1) (bs++[⟨n,0,0,0,zeR m.jc[n].kind,0⟩]) hd' (by omega) (by simp;omega);rw[hs,<-jA,<-this,zj zbR.eq_1];simp[g4E,goM,bsC,swW,zdQ,own,zf,zT,zG,zo,ze,hil,hx,hn,hB,hw,c2,jX,zg]
   ·have hs:zfb m n bar n=[]:=by simp[zfb,zqn,c2]
    have:=ih (i+1) bs hd' (by omega) (by omega);rw[hs,jf,<-this,zj zbR.eq_1];simp[g4E,goM,bsC,swW,zdQ,own,zf,zT,zG,zo,ze,hil,hx,hn,hB,hw,c2,jX,zg]
  ·have hs:zfb m x0 bar n=[⟨n,0,0,0,zeR m.jc[n].kind,0⟩]:=by simp[zfb,zqn,c1,ek]
   have c1':((n:Int)==x0)=false:=by simp[c1]
   have c1'':((n:Int) !=x0)=true:=by simp[c1]
   have:=ih (i+1) (bs++[⟨n,0,0,0,zeR m.jc[n].kind,0⟩]) hd' (by omega) (by simp;omega);rw[hs,<-jA,<-this,zj zbR.eq_1];simp[g4E,goM,bsC,swW,zdQ,own,zf,zT,zG,zo,ze,hil,hx,hn,hB,hw,c1',c1'',jX,zg]
theorem zDw{m:zD}{zs:List Zon}{ss:List Sgn}(hf:zmq m zs ss){r:List Int}(hr:zdA m r=0)(len:Int)(hn:0<=len/\len<=20000)(k:zci)(hk:k.j8.length<=200000000)(ht:0<=k.tick/\k.tick<=1099511628776)(he:znd k.ego)(hvb:∀b∈k.j8,VB m b)(act:Int)(ha:zk0 act)(signals:Bool) :
  R L Cs zmS [.a (zf m),.c (.jb (zu r)),W len,.a (zG k),W act,Bo signals] []=some (.t [.a (zG (zpg m zs ss r len k (zaN m r k.ego act) signals)),.c (.jb (zbf (zhp (zlg (zfV m zs ss r len k (zaN m r k.ego act) signals)))))],[]):=by
 have h:=hf.qF;obtain⟨hon,hne,hl8⟩:=zg1 h hr;have hr2:=zlP hf.ye hr;obtain⟨x0,r',rfl⟩:∃x r',r=x::r':=by cases r with|nil=>exact absurd rfl hne|cons x r'=>exact⟨x,r',rfl⟩
 have hx0:=hon x0 (jr ..);have hD:=zvP h x0 r' hx0 k.ego he act ha;have hBg:=zvX h (by omega) hon;have hOr:=zzc h;have s1:=zge h r' hx0 act k.ego.vlo;have s2:=zge h r' hx0 act k.ego.vhi;have hes:=he.s;have hbl:=zne hf.ye zs ss hr2 len k (zaN m (x0::r') k.ego act) signals hk;have hok:=zsI h zs ss (x0::r') len k (zaN m (x0::r') k.ego act) signals hvb;have hb1:0<=(zaN m (x0::r') k.ego act).slo/\(zaN m (x0::r') k.ego act).slo<=1099511630000/\0<=(zaN m (x0::r') k.ego act).shi/\(zaN m (x0::r') k.ego act).shi<=1099511630000:=by
  simp only[zaN];omega
 have hsw:(zfV m zs ss (x0::r') len k (zaN m (x0::r') k.ego act) signals).length<=2400000100:=by
  have h1:=zoA hf.ye zs ss (x0::r') (zfx len (zaN m (x0::r') k.ego act)) (zaN m (x0::r') k.ego act).slo len k signals (zkr m k.ego len (x0::r') k.j8);have h2:=zij m k.ego len hr2 k.j8;unfold zfV;omega
 rw[zxX];unfold zpg;generalize zaN m (x0::r') k.ego act=e at *;have hp:2 ^ (x0::r').length<=4:=vT (by decide) hr2;have hO1:=zxN h (x0::r') hl8 hon len k.ego (by omega) hn k.j8 (by
  refine j9 (ym hk hp) (by decide))
 have hJl:=zkq (zex m zs ss (x0::r') len k e signals);have hO2:=zxN h (x0::r') hl8 hon len e (by omega) hn (zcz (zex m zs ss (x0::r') len k e signals)) (by
  refine j9 (ym (j9 hJl hbl) hp) (by decide))
 have hJ:=zy7 (zex m zs ss (x0::r') len k e signals) (by omega) hok;have hSo:=zAO (zfV m zs ss (x0::r') len k e signals) (by omega);have BW:-4000000000000<=zfx len e/\zfx len e<=4000000000000:=by unfold zfx;omega
 have hly:ziO m (x0::r') (zfx len e):=⟨h,hl8,hon,BW⟩;have how:=zij m k.ego len hr2 k.j8;have hvo:=ztK k.ego len (x0::r') k.j8 hvb;generalize zkr m e len (x0::r') (zcz (zex m zs ss (x0::r') len k e signals))=out at *;generalize zcz (zex m zs ss (x0::r') len k e signals)=jn at *;unfold zex at hJ hbl;unfold zfV at hsw hSo ⊢;generalize zkr m k.ego len (x0::r') k.j8=ow at *;have h3:=zt7 hf hly len hn e k he ow hvo (by omega) signals ow 0 [] [] rfl (jt _) (by simp) (by simp);have hsl:=zlK m m.jc 0;have hfew:=hf.ye.few;have h4:=zt6 h x0 r' len (zfx len e) e k (zhM m zs ss (x0::r') (zfx len e) e.slo len k signals ow) (zbK m 0 m.jc) (zp8 m m.jc 0 (by omega)) (by omega) (zbK m 0 m.jc) 0 (zgt m zs ss (x0::r') (zfx len e) e.slo len k signals ow) rfl (jt _) (by rw[ju]at hbl;omega);have e0:(x0::r').getD 0 0=x0:=rfl;rw[e0]at hJ hbl;generalize zgt m zs ss (x0::r') (zfx len e) e.slo len k signals ow++(zbK m 0 m.jc).flatMap (zfb m x0 (zfx len e))=bl at *;generalize hSA:zgt m zs ss (x0::r') (zfx len e) e.slo len k signals ow=sa at *;generalize zhM m zs ss (x0::r') (zfx len e) e.slo len k signals ow=sw at *;generalize sw.foldl zdM []=q at *;generalize zbK m 0 m.jc=src at *;have w1:=kg (e.shi-len);have w2:=kg (e.shi-len-1);have w3:=kg (k.tick+1);have w4:=kg (k.ego.shi-len);simp only[zf,zch,zG,jh,jf,zaP]at hD hO1 hO2 hBg hOr;simp only[g3E,g4E,goM,bsC,swW,zdQ,own,zfx,zaP,zox,zzK,zT,zf,zG,jh,jf,jg,zmB,zgg,jp,zic,zoB]at h3 h4;rw[zUa zm3 rfl];simp (maxSteps:=3000000) [zfH,zf,zch,zG,hD,hO1,hO2,hBg,hOr,h3,h4,hJ,hSo,w1,w2,w3,w4,zg,zX]
theorem zy6{m:zD}{zs:List Zon}{ss:List Sgn}(hf:zmq m zs ss)(r:List Int)(hl:r.length<=1000)(len:Int)(k:zci)(hk:k.j8.length<=100000000000)(hok:∀b∈k.j8,OKB b)(act:Int)(ha:zk0 act)(signals:Bool) :
  R L Cs zlk [.a (zf m),.c (.jb (zu r)),W len,.a (zG k),W act,Bo signals] []=some (zsH m zs ss r len k act signals,[]):=by
 have h:=hf.qF;have h2:=yT h k (by omega) hok;have h3:=zp0 m h.small h.AP r hl;unfold zsH;rw[zUa zlA rfl];by_cases c1:zdf m k=0
 ·by_cases c2:zdA m r=0
  ·obtain⟨he,ht⟩:=zte c1;obtain⟨hon,hne,hl8⟩:=zg1 h c2;have hD:R L Cs zgB [.a (zf m),.c (.jb (zu r)),.a (zch k.ego),W act] []=some (.w (.a (zch (zaN m r k.ego act))),[]):=by
    cases r with
    |nil=>exact absurd rfl hne
    |cons x r'=>exact zvP h x r' (hon x (jr ..)) k.ego he act ha
   have hS:=fun hn=>zDw hf c2 len hn k (zvx h hf.ye c1) ⟨ht.1,by omega⟩ he (zxJ h c1) act ha signals
   rw[c1]at h2;rw[c2]at h3;simp only[zm6,c1,c2,if_true];generalize zpg m zs ss r len k (zaN m r k.ego act) signals=out at *;generalize zhp (zlg (zfV m zs ss r len k (zaN m r k.ego act) signals))=sw at *;generalize zaN m r k.ego act=e at *;simp only[zf,zG,zch]at h2 h3 hD hS;by_cases c3:300<=len
   ·have c3':¬len<300:=by omega
    by_cases c4:len<=20000
    ·have c4':¬20000<len:=by omega
     by_cases c5:k.tick=1099511627776
     ·have c5t:(k.tick==1099511627776)=true:=by simp[c5]
      have c5e:(k.tick=1099511627776)=True:=eq_true c5;simp (maxSteps:=1000000) [zaR,zf,zG,zch,h2,h3,hD,c3,c4,c3',c4',c5t,c5e,zg,zX]
     ·have c5':(k.tick==1099511627776)=false:=by simp[c5]
      by_cases c6:e.shi<=1099511627776
      ·have hS':=hS ⟨by omega,c4⟩;have c6':¬1099511627776<e.shi:=by omega
       simp (maxSteps:=1000000) [zaR,zf,zG,zch,h2,h3,hD,hS',c3,c4,c3',c4',c5,c5',c6,c6',zg,zX]
      ·have c6':1099511627776<e.shi:=by omega
       simp (maxSteps:=1000000) [zaR,zf,zG,zch,h2,h3,hD,c3,c4,c3',c4',c5,c5',c6,c6',zg,zX]
    ·have c4':20000<len:=by omega
     simp (maxSteps:=1000000) [zaR,zf,zG,zch,h2,h3,c3,c4,c3',c4',zg,zX]
   ·have c3':len<300:=by omega
    simp (maxSteps:=1000000) [zaR,zf,zG,zch,h2,h3,c3,c3',zg,zX]
  ·have b2:(zdA m r==0)=false:=by simp[c2]
   rw[c1]at h2;simp only[zm6,c1,c2,if_true,if_false];simp only[zf,zG]at h2 h3;simp[zaR,zf,zG,h2,h3,c2,b2,zg,zX]
 ·have b1:(zdf m k==0)=false:=by simp[c1]
  simp only[zm6,c1,if_false];simp only[zf,zG]at h2;simp[zaR,zf,zG,h2,c1,b1,zg,zX]
def Apt(p b:zk):Prop:=p.lane<b.lane\/(p.lane=b.lane/\p.hi+1<b.lo)
theorem zFx{m:zD}{b:zk}(h:VB m b):¬vw m b:=by
 have h1:=h.lo;have h2:=h.le;have h3:=h.hi;have h4:=h.vlo;have h5:=h.vle;have h6:=h.vhi;have h7:=h.hold;unfold vw;omega
theorem zFo{m:zD}(hg:zcp m){b:zk}(h:VB m b):OKB b:=by
 have h0:=zcX hg h.lane;have h1:=h.lo;have h2:=h.le;have h3:=h.hi;exact⟨by omega,by omega,by omega,by omega⟩
theorem zED{m:zD}:∀(l:List zk) (p:zk),(∀b∈l,VB m b)->l.Pairwise Apt->(∀b∈l,¬zmM p b)->zls m p l=0
 |[],_,_,_,_=>rfl
 |x::l,p,hv,ha,hp=>by
  rw[jZ]at ha;have hx:=hv x (jr ..);have hl:=hx.lane;have h0:zer m p x=0:=by
   unfold zer;rw[if_neg (by omega),if_neg (zFx hx),if_neg (hp x (jr ..))]
  unfold zls;rw[if_neg (by simp[h0])];refine zED l x (fun b hb=>hv b (jv _ hb)) ha.2 fun b hb=>?_
  have:=ha.1 b hb;unfold Apt at this;unfold zmM;omega
theorem zFt{m:zD}{a b:zk}(ha:VB m a)(hb:VB m b)(hl:a.lane=b.lane):VB m (glue a b):=by
 have a1:=ha.lo;have a2:=ha.le;have a3:=ha.hi;have a4:=ha.vlo;have a5:=ha.vle;have a6:=ha.vhi;have a7:=ha.hold;rw[hl]at a3 a6 a7;have b3:=hb.hi;have b4:=hb.vlo;have b5:=hb.vle;have b6:=hb.vhi;have b7:=hb.hold;refine⟨hb.lane,a1,?_,?_,?_,?_,?_,?_⟩
 ·show a.lo<=max a.hi b.hi;omega
 ·show max a.hi b.hi<=z8 m b.lane;omega
 ·show 0<=min a.vlo b.vlo;omega
 ·show min a.vlo b.vlo<=max a.vhi b.vhi;omega
 ·show max a.vhi b.vhi<=zeR (zaK m b.lane);omega
 ·show 0<=(if a.hold=0\/b.hold=0 then 0 else max a.hold b.hold)/\(if a.hold=0\/b.hold=0 then 0 else max a.hold b.hold)<=z8 m b.lane;split<;>omega
theorem zEw(init:List zk)(a b:zk):zcP (init++[a]) b=if far a b=false then init++[glue a b] else init++[a]++[b]:=by
 have e:(init++[a]).getD ((init++[a]).length-1) z9=a:=by simp[jm]
 unfold zcP;rw[e];by_cases c:far a b=false
 ·rw[if_pos ⟨by simp,c⟩,if_pos c];simp
 ·rw[if_neg (fun h=>c h.2),if_neg c]
theorem zEu{m:zD}:∀(l init:List zk) (a:zk),(a::l).Pairwise leB->(∀b∈l,VB m b)->(∀o∈init++[a],VB m o)->(init++[a]).Pairwise Apt ->
  (∀o∈l.foldl zcP (init++[a]),VB m o)/\(l.foldl zcP (init++[a])).Pairwise Apt
 |[],init,a,_,_,h1,h2=>⟨h1,h2⟩
 |b::l,init,a,hs,hv,h1,h2=>by
  rw[jZ]at hs;have hbl:=hs.2;rw[jZ]at hbl;have hab:=hs.1 b (jr ..);have hb:=hv b (jr ..);have ha:=h1 a (by simp);rw[jN,zEw];have hfar:far a b=false<->(a.lane=b.lane/\b.lo<=a.hi+1):=by
   unfold far;by_cases c:a.lane=b.lane
   ·simp[c];omega
   ·simp[c]
  by_cases c:far a b=false
  ·rw[if_pos c];have hc:=hfar.1 c;refine zEu l init (glue a b) ?_ (fun x hx=>hv x (jv _ hx)) ?_ ?_
   ·rw[jZ];refine⟨fun x hx=>?_,hbl.2⟩;have hbx:=hbl.1 x hx;unfold leB at hab hbx ⊢;simp only[glue];omega
   ·intro o ho;rcases jD.1 ho with ho|ho
    ·exact h1 o (kM _ ho)
    ·rw[jJ.1 ho];exact zFt ha hb hc.1
   ·rw[jY]at h2 ⊢;refine⟨h2.1,u4 _ _,fun x hx y hy=>?_⟩;rw[jJ.1 hy];have:=h2.2.2 x hx a (by simp);unfold Apt at this ⊢;simp only[glue];omega
  ·rw[if_neg c];have hc:¬(a.lane=b.lane/\b.lo<=a.hi+1):=fun h=>c (hfar.2 h)
   refine zEu l (init++[a]) b hs.2 (fun x hx=>hv x (jv _ hx)) ?_ ?_
   ·intro o ho;rcases jD.1 ho with ho|ho
    ·exact h1 o ho
    ·rw[jJ.1 ho];exact hb
   ·rw[jY];refine⟨h2,u4 _ _,fun x hx y hy=>?_⟩;rw[jJ.1 hy];have hA:Apt a b:=by
     unfold Apt;unfold leB at hab;omega
    rcases jD.1 hx with hx|hx
    ·have:=(jY.1 h2).2.2 x hx a (by simp);have a2:=ha.le;unfold Apt at this hA ⊢;omega
    ·rw[jJ.1 hx];exact hA
theorem zEl{m:zD}(l:List zk)(h:∀b∈l,VB m b):(∀o∈zcz l,VB m o)/\(zcz l).Pairwise Apt:=by
 have hm:∀x∈l.foldl zb5 [],x∈l:=fun x hx=>(zuL l [] x hx).resolve_right (by simp)
 have hs:(l.foldl zb5 []).Pairwise leB:=by
  rw[zpi];exact ziR _ [] List.Pairwise.nil
 unfold zcz;generalize l.foldl zb5 []=S at *;cases S with
 |nil=>exact⟨by simp,List.Pairwise.nil⟩
 |cons a t =>
  have e:zcP [] a=[]++[a]:=by simp[zcP]
  rw[jN,e];refine zEu t [] a hs (fun b hb=>h b (hm b (jv _ hb))) ?_ ?_
  ·intro o ho;simp at ho;subst ho;exact h _ (hm _ (jr ..))
  ·simp
theorem zE1{x fr to:Int}{b:zk}:∀z∈zoX x fr to b,z.lane=b.lane/\b.lo<=z.lo/\z.hi<=b.hi:=by
 intro z hz;unfold zoX at hz;split at hz
 ·simp only[jJ]at hz;subst hz;exact⟨rfl,qs _,qs _⟩
 ·rename_i hc;rcases jD.1 hz with hz|hz
  ·split at hz
   ·simp only[jJ]at hz;subst hz;exact⟨rfl,qs _,by show fr-1<=b.hi;omega⟩
   ·cases hz
  ·split at hz
   ·simp only[jJ]at hz;subst hz;exact⟨rfl,by show b.lo<=to+1;omega,qs _⟩
   ·cases hz
theorem zFm(x fr to:Int)(b:zk):(zoX x fr to b).Pairwise Apt:=by
 unfold zoX;split
 ·exact u4 _ _
 ·rename_i hc;split
  ·split
   ·simp only[List.singleton_append,jZ,jJ,forall_eq,kW,false_imp_iff,implies_true,List.Pairwise.nil,and_true];exact .inr ⟨rfl,by show fr-1+1<to+1;omega⟩
   ·simp
  ·split<;>simp
theorem zE0{x fr to:Int}:∀(l:List zk),∀z∈zhn x fr to l,∃b∈l,z.lane=b.lane/\b.lo<=z.lo/\z.hi<=b.hi
 |[],z,hz=>by cases hz
 |b::l,z,hz=>by
  unfold zhn at hz;rcases jD.1 hz with hz|hz
  ·exact⟨b,jr ..,zE1 z hz⟩
  ·obtain⟨c,hc,h⟩:=zE0 l z hz;exact⟨c,jv _ hc,h⟩
theorem zEN(x fr to:Int):∀(l:List zk),l.Pairwise Apt->(zhn x fr to l).Pairwise Apt
 |[],_=>List.Pairwise.nil
 |b::l,h=>by
  rw[jZ]at h;unfold zhn;rw[jY];refine⟨zFm x fr to b,zEN x fr to l h.2,fun y hy z hz=>?_⟩;obtain⟨h1,h2,h3⟩:=zE1 y hy;obtain⟨c,hc,g1,g2,g3⟩:=zE0 l z hz;have:=h.1 c hc;unfold Apt at this ⊢;omega
theorem zEK(m:zD)(e:Ego)(len:Int):∀(r:List Int) (a:Int) (l:List zk),l.Pairwise Apt->(zpO m e len a r l).Pairwise Apt
 |[],_,l,h=>h
 |x::r,a,l,h=>zEK m e len r _ _ (zEN _ _ _ l h)
theorem zFg(m:zD)(e:Ego)(len:Int)(r:List Int)(l:List zk)(h:l.Pairwise Apt):(zkr m e len r l).Pairwise Apt:=by
 unfold zkr;split
 ·exact zEK m e len r 0 l h
 ·exact h
theorem zEs{m:zD}{r:List Int}{bar:Int}{b:zk}{lo hi:Int}{cap:Bool}:∀z∈zbA m r bar b lo hi cap,z.1.lane=b.lane:=by
 intro z hz;unfold zbA at hz;split at hz
 ·simp only[jJ]at hz;subst hz;rfl
 ·cases hz
theorem zE8{m:zD}{r:List Int}{bar slo:Int}{b:zk}{lo hi:Int}{cap:Bool}:∀z∈zlZ m r bar slo b lo hi cap,z.1.lane=b.lane\/z.1.lane∈zS m b.lane:=by
 intro z hz;unfold zlZ at hz;rcases jD.1 hz with hz|hz
 ·exact .inl (zEs z hz)
 ·split at hz
  ·cases hz
  ·obtain⟨x,hx,hz⟩:=qf.1 hz;exact .inr (by rw[zEs z hz];exact hx)
theorem zFE{m:zD}{zs:List Zon}{ss:List Sgn}(hf:zmq m zs ss){lane tick l:Int}(h:l∈zeA zs ss lane tick):0<=l/\l<=z8 m lane:=by
 unfold zeA at h;obtain⟨z,hz,hl⟩:=qf.1 h;rcases zlX ss lane tick z with e |⟨p,hp,e⟩
 ·rw[e]at hl;cases hl
 ·rw[e]at hl;simp only[jJ]at hl;subst hl;have h1:=uo hp;have h2:=kY hp;simp only[decide_eq_true_eq]at h1;obtain⟨_,a1,a2,a3,_⟩:=hf.pv z hz p h2;rw[h1]at a3;omega
theorem zFi{m:zD}{zs:List Zon}{ss:List Sgn}(hf:zmq m zs ss)(k:zci)(signals:Bool){b:zk}(hb:VB m b):0<=(mvF m zs ss k signals b).hold/\(mvF m zs ss k signals b).hold<=z8 m b.lane:=by
 have a1:=hb.lo;have a2:=hb.le;have a3:=hb.hi;show 0<=((if signals then(zeA zs ss b.lane k.tick).find? (zcY m b) else none)).getD 0/\((if signals then(zeA zs ss b.lane k.tick).find? (zcY m b) else none)).getD 0<=z8 m b.lane;split
 ·cases h:(zeA zs ss b.lane k.tick).find? (zcY m b)with
  |none=>simp;omega
  |some l=>simpa using zFE hf (kY h)
 ·simp;omega
theorem zE4{m:zD}{zs:List Zon}{ss:List Sgn}(hf:zmq m zs ss)(r:List Int)(len:Int)(k:zci)(e:Ego)(signals:Bool)(hvb:∀b∈k.j8,VB m b):∀x∈zex m zs ss r len k e signals,VB m x:=by
 have h:=hf.qF;intro x hx;unfold zex at hx;rcases jD.1 hx with hx|hx
 ·unfold zgt at hx;obtain⟨b,hb,hx⟩:=qf.1 hx;obtain⟨z,hz,rfl⟩:=ko.1 hx;have hv:=ztK k.ego len r k.j8 hvb b hb;have hbd:=zwE h zs ss k signals hv;have hmo:=zqQ h hv;have hho:=zFi hf k signals hv;have hvl:(mvF m zs ss k signals b).vlo=zcW m b:=rfl;have hvh:(mvF m zs ss k signals b).vhi=zde m b:=rfl;unfold zm8 at hz;split at hz
  ·have ho:=zBF h r (zfx len e) e.slo (mvF m zs ss k signals b) (by rw[hbd.1];exact hv.lane) _ _ _ z hz;have hl:=zE8 z hz;rw[hbd.1]at hl;have hk:zaK m z.1.lane=zaK m b.lane:=by
    rcases hl with hl|hl
    ·rw[hl]
    ·exact hf.ye.kn _ _ hl
   have hf2:zde m b<=zeR (zaK m b.lane):=by unfold zde;omega
   refine⟨ho.on,ho.lo,ho.le,ho.hi,?_,?_,?_,?_⟩
   ·rw[ho.vlo,hvl];exact hmo.s.1
   ·rw[ho.vlo,ho.vhi,hvl,hvh];exact hmo.sf
   ·rw[ho.vhi,hvh,hk];exact hf2
   ·rcases ho.hold with⟨h1,h2⟩|h2
    ·rw[h2,h1,hbd.1];exact hho
    ·rw[h2];have h3:=ho.lo;have h4:=ho.le;have h5:=ho.hi;omega
  ·cases hz
 ·obtain⟨b,hb,hx⟩:=qf.1 hx;obtain⟨j,hj,hbj,_⟩:=(zqS m b m.jc 0).1 hb;unfold zfb at hx;split at hx
  ·simp only[jJ]at hx;subst hx;have hl:0<=b/\b<m.jc.length:=by rw[hbj];omega
   have h1:=zcX h hl;have ht:=tops (zu9 h hl);exact⟨hl,qs _,qs _,by show 0<=z8 m b;omega,qs _,by show 0<=zeR (zaK m b);omega,qs _,by show(0:Int)<=0/\0<=z8 m b;omega⟩
  ·cases hx
theorem zEJ(m:zD)(r:List Int)(act:Int){v w:Int}(h:v<=w):zcD m r act v<=zcD m r act w:=by
 unfold zcD;omega
theorem zEH{m:zD}{zs:List Zon}{ss:List Sgn}(hf:zmq m zs ss){r:List Int}(hr:zdA m r=0)(len:Int)(k:zci)(act:Int)(signals:Bool)(hc:zdf m k=0)(ht:k.tick≠1099511627776)(hd:(zaN m r k.ego act).shi<=1099511627776) :
  zdf m (zpg m zs ss r len k (zaN m r k.ego act) signals)=0:=by
 have h:=hf.qF;obtain⟨he,ht2⟩:=zte hc;obtain⟨hon,hne,hl8⟩:=zg1 h hr;have hvb:=zxJ h hc;obtain⟨j1,j2⟩:=zEl _ (zE4 hf r len k (zaN m r k.ego act) signals hvb);have o1:=ztK (m:=m) (zaN m r k.ego act) len r _ j1;have o2:=zFg m (zaN m r k.ego act) len r _ j2;have hes:=he.s;have hev:=he.v;unfold zdf;rw[if_neg]
 ·refine zED _ _ o1 o2 fun b hb=>?_
  have:=(o1 b hb).lane;simp only[zmM,zqY];omega
 ·obtain⟨x0,r',rfl⟩:∃x r',r=x::r':=by cases r with|nil=>exact absurd rfl hne|cons x r'=>exact⟨x,r',rfl⟩
  have hx0:=hon x0 (jr ..);have s1:=zge h r' hx0 act k.ego.vlo;have s2:=zge h r' hx0 act k.ego.vhi;have s3:=zEJ m (x0::r') act hev.2.1;simp only[ziI,zpg,zaN,zsa]at hd ⊢;omega
theorem zEE{m:zD}(h:zcp m)(hne:0<m.jc.length)(x:Bit):VB m (zDN m x):=by
 have f:=zEA h hne x;have h1:=f.lo;have h2:=f.le;have h3:=f.hi;have h4:=f.hold;exact⟨f.lane,f.lo,f.le,f.hi,f.vlo,f.vle,f.vhi,by omega⟩
theorem zFv{m:zD}{k:zci}(ho:¬ziI k)(hv:∀b∈k.j8,VB m b)(ha:k.j8.Pairwise Apt):zdf m k=0:=by
 unfold zdf;rw[if_neg ho];refine zED _ _ hv ha fun b hb=>?_
 have:=(hv b hb).lane;simp only[zmM,zqY];omega
theorem zFu{m:zD}(h:zcp m)(q:List Int)(hq:q.length<=8)(hon:zj2 m q):0<=zmd m 0 q/\zmd m 0 q<=8000000:=by
 have:=zEC h q 0 hon (qs _);omega
theorem zEM{m:zD}(h:zcp m)(hne:0<m.jc.length)(q:List Int)(hq:q.length<=8)(hon:zj2 m q)(l:List Bit)(t s v sp:Int):zdf m (zD1 m q l t s v sp)=0/\(zD1 m q l t s v sp).tick<=1000/\(zD1 m q l t s v sp).ego.shi<=8000000:=by
 have hv:∀b∈l.map (zDN m),VB m b:=by
  intro b hb;obtain⟨x,_,rfl⟩:=ko.1 hb;exact zEE h hne x
 obtain⟨j1,j2⟩:=zEl _ hv;have he:=zFu h q hq hon;have hL:0<=(if zdA m q=0 then zmd m 0 q else 0)/\(if zdA m q=0 then zmd m 0 q else 0)<=8000000:=by split<;>omega
 generalize hLL:(if zdA m q=0 then zmd m 0 q else 0)=L at *;have r1:=zDJ s (L+1) (by omega);have r2:=zDJ v 2001 (by omega);have r3:=zDJ sp 2000 (by omega);refine⟨zFv ?_ j1 j2,?_,?_⟩
 ·simp only[ziI,zD1,zEo,zsa,hLL];omega
 ·simp only[zD1];omega
 ·simp only[zD1,zEo,hLL];omega
theorem zE9(k:Nat)(hk:k<7)(lim r o1 o2 o3 v:Int)(ws:List zCP):0<(zq k lim r o1 o2 o3 v ws).jc.length:=by
 match k,hk with
 |0,_ |1,_ |2,_ |3,_ |4,_ |5,_ |6,_=>simp[zq,zy]
structure Pss where
 kD:Int
 part:Int
 lo:Int
 hi:Int
 deriving DecidableEq
def zKF(p:Pss):List Cl:=[I p.kD,I p.part,I p.lo,I p.hi]
def zKd(l:List Pss):List (List Cl):=l.map zKF
@[simp] theorem zLE(l:List Pss):(zKd l).length=l.length:=by simp[zKd]
@[simp] theorem zNO:zKd []=[]:=rfl
@[simp] theorem zPO(x:Pss)(l:List Pss):zKd (x::l)=zKF x::zKd l:=rfl
@[simp] theorem zMu(l k:List Pss):zKd (l++k)=zKd l++zKd k:=by simp[zKd]
@[simp] theorem zPM(l:List Pss):(zKd l).take l.length=zKd l:=jG (by simp)
@[simp] theorem zOV{l:List Pss}{i:Nat}(h:i<(zKd l).length):(zKd l)[i]=zKF (l[i]'(by simpa using h)):=by simp[zKd]
@[simp] theorem zNu(p:Pss):(zKF p).length=4:=rfl
@[simp] theorem zPN(l:List Pss):(∀x,x∈zKd l->x.length=4)<->True:=by simp[zKd]
def zI2(a b:Pss):Prop:=a.lo<b.lo\/(a.lo=b.lo/\a.kD<b.kD)
instance(a b:Pss):Decidable (zI2 a b):=by unfold zI2;infer_instance
def zN1(l:List Pss):Prop:=∀(i:Nat) (h:i+1<l.length),¬zI2 l[i+1] l[i]
def zLB(st:Int)(z:Nat)(x:Int):Nat->List Prt->List Pss
 |_,[]=>[]
 |k,p::r=>if p.lane=x then⟨z,k,st+p.lo,st+p.hi⟩::zLB st z x (k+1) r else zLB st z x (k+1) r
def zLA(st x:Int):Nat->List Zon->List Pss
 |_,[]=>[]
 |z,q::r=>zLB st z x 0 q.parts++zLA st x (z+1) r
def zKh(m:zD)(zs:List Zon):Int->List Int->List Pss
 |_,[]=>[]
 |a,x::r=>zLA a x 0 zs++zKh m zs (a+z8 m x) r
theorem zLR(st:Int)(z:Nat)(x:Int):∀(l:List Prt) (k:Nat),(zLB st z x k l).length<=l.length
 |[],k=>by simp[zLB]
 |p::l,k=>by
  have:=zLR st z x l (k+1);unfold zLB;split<;>simp<;>omega
def zM8(a b:Pss):Int:=if zgQ a.lo b.lo≠0 then zgQ a.lo b.lo else zgQ a.kD b.kD
theorem zO9(a b:Pss):zM8 a b<0<->zI2 a b:=by
 unfold zM8 zgQ zI2;by_cases h1:a.lo<b.lo
 ·simp[h1]
 ·by_cases h2:b.lo<a.lo
  ·have:¬a.lo=b.lo:=by omega
   simp[h1,h2,this]
  ·have e:a.lo=b.lo:=by omega
   by_cases h3:a.kD<b.kD
   ·simp[e,h3]
   ·by_cases h4:b.kD<a.kD
    ·simp[e,h3,h4]
    ·simp[e,h3,h4]
theorem zN5(a b:Pss):R L Cs zLe [.a (zKF a),.a (zKF b)] []=some (.w (W (zM8 a b)),[]):=by
 have h1:=zp1 a.lo b.lo;have h2:=zsr a.kD b.kD;have h3:=zA0 (zgQ a.lo b.lo) (zgQ a.kD b.kD);unfold zM8;generalize zgQ a.lo b.lo=c1 at *;generalize zgQ a.kD b.kD=c2 at *;generalize (if c1≠0 then c1 else c2)=r at *;simp only[zaP,zay]at h3;rw[zUa zL9 rfl];simp[zIu,zKF,h1,h2,h3,zg,zX]
abbrev AS(v:Nat)(l:List Pss):Option Blk:=some { box:=false,esz:=4,rows:=zKd l,gen:=l.length,fz:=false,ver:=v }
abbrev pfn:WV:=.c (.fn zLe [] [])
theorem zNT(l:List Pss)(hs:zN1 l)(hl:l.length<=19)(i:Nat)(h0:0<i)(hi:i<l.length)(v:Nat):Y L Cs zTg (some [9,3,1,2,8,0]) 1 [(9,.w (W i)),(3,.w pfn),(1,.w (W 0)),(2,.w (W l.length)),(8,.w (W i)),(0,.w (.c (.slice 0 l.length 4 0 l.length none)))] [AS v l] =
  some (.exit 2,[(34,.w (Bo false)),(9,.w (W i)),(3,.w pfn),(1,.w (W 0)),(2,.w (W l.length)),(8,.w (W i)),(0,.w (.c (.slice 0 l.length 4 0 l.length none)))],[AS v l]):=by
 obtain⟨j,rfl⟩:∃j,i=j+1:=⟨i-1,by omega⟩;have h2:j<l.length:=by omega
 have hc:=zN5 l[j+1] l[j];have hn:¬zM8 l[j+1] l[j]<0:=fun h=>hs j hi ((zO9 _ _).1 h)
 have hw:IntKind.i64.wrap ((j:Int)+1-1)=(j:Int):=by rw[zTd _ (by omega) (by omega)];omega
 have hg:(0:Int)<(j:Int)+1:=by omega
 have hwj:IntKind.i64.wrap (j:Int)=(j:Int):=zTd _ (by omega) (by omega);have a4:(j:Int)<(l.length:Int):=by omega
 have a1:(0:Int)<=(j:Int)+1:=by omega
 have a2:(j:Int)+1<(l.length:Int):=by omega
 have a3:((j:Int)+1).toNat=j+1:=by omega
 generalize zM8 l[j+1] l[j]=c at *;simp only[zKF]at hc;rw[zj zTg.eq_1];simp[hg,hc,hn,hw,hwj,hi,h2,a1,a2,a3,a4,zKF]
theorem zNS(l:List Pss)(hs:zN1 l)(hl:l.length<=19)(v:Nat):∀(n i:Nat),i+n=l.length\/(n=0/\l.length<=i)->0<i->∃i',Y L Cs zTf (some [2,1,3,8,0]) 1 [(2,.w (W l.length)),(1,.w (W 0)),(3,.w pfn),(8,.w (W i)),(0,.w (.c (.slice 0 l.length 4 0 l.length none)))] [AS v l] =
  some (.exit 0,[(14,.w (Bo false)),(3,.w pfn),(1,.w (W 0)),(2,.w (W l.length)),(8,.w (W i')),(0,.w (.c (.slice 0 l.length 4 0 l.length none)))],[AS v l]):=by
 intro n;induction n with
 |zero =>
  intro i hi h0;have hc:¬(i:Int)<l.length:=by omega
  have hc':¬i<l.length:=by omega
  refine⟨i,?_⟩;rw[zj zTf.eq_1];simp[hc,hc']
 |succ n ih =>
  intro i hi h0;have hil:i<l.length:=by omega
  have hc:(i:Int)<l.length:=by omega
  have hw:=zB (i:=i) (by omega);have hin:=zNT l hs hl i h0 hil v;obtain⟨i',h⟩:=ih (i+1) (by omega) (by omega);refine⟨i',?_⟩;rw[<-h,zj zTf.eq_1];simp[hc,hil,hw,hin]
theorem zOK(l:List Pss)(hs:zN1 l)(hl:l.length<=19)(v:Nat):R L Cs zKK [.c (.slice 0 l.length 4 0 l.length none),pfn] [AS v l]=some (.t [],[AS v l]):=by
 obtain⟨i',h⟩:=zNS l hs hl v (l.length-1) 1 (by omega) (by omega);have h1:¬(20:Int)<=(l.length:Int):=by omega
 have h2:¬(20:Int)<(l.length:Int):=by omega
 have h3:¬20<=l.length:=by omega
 have h4:¬20<l.length:=by omega
 have hw:IntKind.i64.wrap 1=1:=rfl;simp only[kd]at h;have hI:R L Cs zKz [.c (.slice 0 l.length 4 0 l.length none),W 0,W l.length,pfn] [AS v l]=some (.t [],[AS v l]):=by
  rw[zUa zKA rfl];simp[zTh,hw,h]
 have hS:R L Cs zKP [.c (.slice 0 l.length 4 0 l.length none),W l.length,pfn] [AS v l]=some (.t [],[AS v l]):=by
  have e1:∀E M,Y L Cs zHj (some [7,8,1,0,2,6]) 1 [(7,.w (W 0)),(8,.w (W 20)),(1,.w (W l.length)),(0,E),(2,.w pfn),(6,.w (W 20))] M=some (.exit 0,[(13,.w (Bo false)),(7,.w (W 0)),(8,.w (W 20)),(1,.w (W l.length)),(0,E),(2,.w pfn),(6,.w (W 20))],M):=by
   intro E M;rw[zj zHj.eq_1];simp[h1,h3]
  have e2:∀E M,Y L Cs zHh (some [1,0,2,6]) 1 [(1,.w (W l.length)),(0,E),(2,.w pfn),(6,.w (W 20))] M=some (.exit 2,[(30,.w (Bo false)),(1,.w (W l.length)),(0,E),(2,.w pfn),(6,.w (W 20))],M):=by
   intro E M;rw[zj zHh.eq_1];simp[h2,h4]
  rw[zUa zKS rfl];simp[zHo,e1,e2,hI]
 rw[zUa zKL rfl];simp[zHn,hS]
abbrev paM(m:zD)(l:List Int)(o:List Pss):Mem:=[bx 5 (zf m),gb 4,bxv 1 8 (zlf m l (.jb (zu (zW m 0 l))) (zmd m 0 l)),some (own 4 (zKd o))]
abbrev paS(o:List Pss):WV:=.c (.slice 3 o.length 4 0 o.length none)
abbrev zO1(l:List Int)(zl:List (List Cl))(nz i z:Nat)(x:Int)(ps:List Prt)(k:Nat)(o:List Pss):Env:=[(6,.w (paS o)),(35,.w (W k)),(34,.w (W ps.length)),(25,.w (.c (.jb zl))),(19,.w (W i)),(18,.w (W l.length)),(17,.w (.c (.jb (zu l)))),(2,.w (Pt 0)),(26,.w (W nz)),(27,.w (W z)),(33,.w (.c (.jb (zkl ps)))),(8,.w (W x)),(9,.w (W z)),(5,.w (Pt 2)),(7,.w (W i))]
structure zOj(p:Prt):Prop where
 lo:0<=p.lo/\p.lo<=1000000
 hi:0<=p.hi/\p.hi<=1000000
theorem zO0(m:zD)(l:List Int)(i:Nat)(st:Int)(his:i<(zW m 0 l).length)(hst:(zW m 0 l)[i]=st)(hsb:0<=st/\st<=100000000)(x:Int)(q:Zon)(hq:q.parts.length<=6)(hpo:∀p∈q.parts,zOj p)(zl:List (List Cl))(nz z:Nat):∀(t:List Prt) (k:Nat) (o:List Pss),q.parts.drop k=t->k<=q.parts.length->o.length<=1000+k ->
  Y L Cs zIj (some [6,35,34,25,19,18,17,2,26,27,33,8,9,5,7]) 5 (zO1 l zl nz i z x q.parts k o) (paM m l o++[bxv 1 2 (zdP q)]) =
    some (.exit 4,(36,.w (Bo false))::zO1 l zl nz i z x q.parts q.parts.length (o++zLB st z x k t),paM m l (o++zLB st z x k t)++[bxv 1 2 (zdP q)]):=by
 intro t;induction t with
 |nil =>
  intro k o hd hk ho;obtain rfl:=zUb hd hk;rw[zj zIj.eq_1];simp[zLB]
 |cons p t ih =>
  intro k o hd hk ho;obtain⟨hkl,hp,hd'⟩:=zL hd;have hw:=zB (i:=k) (by omega);have hok:=hpo p (by rw[<-hp];exact je hkl);have w1:IntKind.i64.wrap (st+p.lo)=st+p.lo:=zTd _ (by have:=hok.lo;omega) (by have:=hok.lo;omega);have w2:IntKind.i64.wrap (st+p.hi)=st+p.hi:=zTd _ (by have:=hok.hi;omega) (by have:=hok.hi;omega);have jX:(o.length+1)*32<=140737488355328:=by omega
  unfold zLB;by_cases c:p.lane=x
  ·have cb:(p.lane==x)=true:=by simp[c]
   rw[if_pos c];have h:=ih (k+1) (o++[⟨z,k,st+p.lo,st+p.hi⟩]) hd' hkl (by simp;omega);have e1:o++⟨z,k,st+p.lo,st+p.hi⟩::zLB st z x (k+1) t=(o++[⟨z,k,st+p.lo,st+p.hi⟩])++zLB st z x (k+1) t:=by simp
   rw[e1,<-h,zj zIj.eq_1];clear h ih e1;simp[zO1,paS,paM,own,zlf,zdP,zeB,zKF,hkl,hp,hw,his,hst,w1,w2,c,cb,jX,zg,zf,zH]
  ·have cb:(p.lane==x)=false:=by simp[c]
   rw[if_neg c];have h:=ih (k+1) o hd' hkl (by omega);rw[<-h,zj zIj.eq_1];clear h ih;simp[zO1,paS,paM,own,zlf,zdP,zeB,zKF,hkl,hp,hw,c,cb,zg,zf,zH]
abbrev zPZ(l:List Int)(zs:List Zon)(i z:Nat)(x:Int)(o:List Pss):Env:=[(6,.w (paS o)),(26,.w (W zs.length)),(2,.w (Pt 0)),(17,.w (.c (.jb (zu l)))),(18,.w (W l.length)),(19,.w (W i)),(25,.w (.c (.jb (zk8 zs)))),(27,.w (W z)),(8,.w (W x)),(5,.w (Pt 2)),(7,.w (W i))]
abbrev zQe(l:List Int)(zs:List Zon)(i:Nat)(x:Int)(o:List Pss):Env:=[(28,.w (Bo false)),(6,.w (paS o)),(25,.w (.c (.jb (zk8 zs)))),(19,.w (W i)),(18,.w (W l.length)),(17,.w (.c (.jb (zu l)))),(2,.w (Pt 0)),(26,.w (W zs.length)),(27,.w (W zs.length)),(8,.w (W x)),(5,.w (Pt 2)),(7,.w (W i))]
theorem zNv(st x:Int):∀(l:List Zon) (z:Nat),(∀q∈l,q.parts.length<=6)->(zLA st x z l).length<=6*l.length
 |[],z,_=>by simp[zLA]
 |q::l,z,h=>by
  have h1:=zNv st x l (z+1) fun y hy=>h y (jv _ hy)
  have h2:=zLR st z x q.parts 0;have h3:=h q (jr ..);unfold zLA;simp;omega
theorem zOZ(m:zD)(l:List Int)(i:Nat)(st:Int)(his:i<(zW m 0 l).length)(hst:(zW m 0 l)[i]=st)(hsb:0<=st/\st<=100000000)(x:Int)(zs:List Zon)(hz:zs.length<=12)(hq:∀q∈zs,q.parts.length<=6)(hpo:∀q∈zs,∀p∈q.parts,zOj p):∀(t:List Zon) (z:Nat) (o:List Pss),zs.drop z=t->z<=zs.length->o.length<=900+6*z ->
  Y L Cs zIi (some [6,26,2,17,18,19,25,27,8,5,7]) 4 (zPZ l zs i z x o) (paM m l o)=some (.exit 2,zQe l zs i x (o++zLA st x z t),paM m l (o++zLA st x z t)):=by
 intro t;induction t with
 |nil =>
  intro z o hd hk ho;obtain rfl:=zUb hd hk;rw[zj zIi.eq_1];simp[zLA]
 |cons q t ih =>
  intro z o hd hk ho;obtain⟨hkl,hp,hd'⟩:=zL hd;have hw:=zB (i:=z) (by omega);have hqm:q∈zs:=by rw[<-hp];exact je hkl
  have hp6:=hq q hqm;have hpl:=zLR st z x q.parts 0;have h1:=zO0 m l i st his hst hsb x q hp6 (hpo q hqm) (zk8 zs) zs.length z q.parts 0 o rfl (jt _) (by omega);have h:=ih (z+1) (o++zLB st z x 0 q.parts) hd' hkl (by simp;omega);unfold zLA;rw[<-jA,<-h,zj zIi.eq_1];clear h ih;generalize zLB st z x 0 q.parts=pp at *;simp only[zO1,paS,paM,own,zlf,zdP,zf,zLE,zMu,ju,jg,jh,jf]at h1;simp[zPZ,paS,paM,own,zlf,zdP,hkl,hp,hw,h1,zg,zf,zH]
abbrev zPY(l:List Int)(i:Nat)(o:List Pss):Env:=[(6,.w (paS o)),(18,.w (W l.length)),(17,.w (.c (.jb (zu l)))),(2,.w (Pt 0)),(19,.w (W i)),(5,.w (Pt 2))]
abbrev zQd(l:List Int)(o:List Pss):Env:=[(20,.w (Bo false)),(6,.w (paS o)),(2,.w (Pt 0)),(17,.w (.c (.jb (zu l)))),(18,.w (W l.length)),(19,.w (W l.length)),(5,.w (Pt 2))]
theorem zOY{m:zD}(h:zcp m)(l:List Int)(hl:l.length<=8)(hon:zj2 m l)(zs:List Zon)(hzz:m.qE=zk8 zs)(hz:zs.length<=12)(hq:∀q∈zs,q.parts.length<=6)(hpo:∀q∈zs,∀p∈q.parts,zOj p):∀(t:List Int) (i:Nat) (a:Int) (o:List Pss),l.drop i=t->i<=l.length->(zW m 0 l).drop i=zW m a t->0<=a->a<=i*1000000->o.length<=100*i ->
  Y L Cs zIh (some [6,18,17,2,19,5]) 4 (zPY l i o) (paM m l o)=some (.exit 0,zQd l (o++zKh m zs a t),paM m l (o++zKh m zs a t)):=by
 intro t;induction t with
 |nil =>
  intro i a o hd hk hs h0 h1 ho;obtain rfl:=zUb hd hk;rw[zj zIh.eq_1];simp[zKh]
 |cons x t ih =>
  intro i a o hd hk hs h0 h1 ho;obtain⟨hkl,hp,hd'⟩:=zL hd;have hw:=zB (i:=i) (by omega);have hx:=hon x (by rw[<-hp];exact je hkl);have hle:=zcX h hx;have hsl:i<(zW m 0 l).length:=by rw[zcO];exact hkl
  have hsd:=ku hsl;rw[hs,zW]at hsd;simp only[List.cons.injEq]at hsd;have hzl:=zNv a x zs 0 hq;have g:=zOZ m l i a hsl hsd.1.symm ⟨h0,by omega⟩ x zs hz hq hpo zs 0 o rfl (jt _) (by omega);have hh:=ih (i+1) (a+z8 m x) (o++zLA a x 0 zs) hd' hkl hsd.2.symm (by omega) (by omega) (by simp;omega);unfold zKh;rw[<-jA,<-hh,zj zIh.eq_1];clear hh ih;generalize zLA a x 0 zs=pp at *;simp only[zPZ,zQe,paS,paM,own,zlf,zf,hzz,zLE,zMu,ju,jg]at g;simp[zPY,paS,paM,own,zlf,hkl,hp,hw,g,zg,zf,zH,hzz]
theorem zO7{m:zD}{zs:List Zon}{ss:List Sgn}(hf:zmq m zs ss):∀q∈zs,∀p∈q.parts,zOj p:=by
 intro q hq p hp;obtain⟨a0,a1,a2,a3,_⟩:=hf.pv q hq p hp;have:=zcX hf.qF a0;exact⟨by omega,by omega⟩
theorem zPm{m:zD}{zs:List Zon}{ss:List Sgn}(hf:zmq m zs ss){l:List Int}(hr:zdA m l=0)(hs:zN1 (zKh m zs 0 l))(hn:(zKh m zs 0 l).length<=19) :
  R L Cs zMC [.a (zf m),.c (.jb (zu l))] []=some (.w (.c (.jb (zKd (zKh m zs 0 l)))),[]):=by
 have h:=hf.qF;obtain⟨hon,hne,hl8⟩:=zg1 h hr;have hF:=zvR h hr;have g:=zOY h l hl8 hon zs hf.zd.z hf.zd.few hf.zd.BA (zO7 hf) l 0 0 [] rfl (jt _) rfl (qs _) (by omega) (by simp);have hS:=zOK (zKh m zs 0 l) hs hn (zKh m zs 0 l).length;rw[jf]at g;generalize zKh m zs 0 l=o at *;simp only[zPY,zQd,paS,paM,own,zlf,zf,zLE,zNO,jp,jg,AS]at g hF hS;rw[zUa zMO rfl];simp[zIL,zf,hF,g,hS,zg,zX]
abbrev zQ0(m:zD)(o:List Pss):Mem:=[bx 5 (zf m),gb 4,some (own 4 (zKd o))]
abbrev rpS(o:List Pss):WV:=.c (.slice 2 o.length 4 0 o.length none)
abbrev zRQ(m:zD)(l:List Int)(i z k:Nat)(o:List Pss):Env:=[(5,.w (rpS o)),(9,.w (W k)),(2,.w (Pt 0)),(1,.w (.c (.jb (zu l)))),(8,.w (W z)),(6,.w (.c (.jb (zu (zW m 0 l))))),(7,.w (W i))]
theorem zRO{m:zD}(l:List Int)(i:Nat)(hil:i<l.length)(st:Int)(his:i<(zW m 0 l).length)(hst:(zW m 0 l)[i]=st)(hsb:0<=st/\st<=100000000)(x:Int)(hx:l[i]=x)(zs:List Zon)(hzz:m.qE=zk8 zs)(z:Nat)(hz:z<zs.length)(q:Zon)(hzq:zs[z]=q)(hq:q.parts.length<=6)(hpo:∀p∈q.parts,zOj p):∀(t:List Prt) (k:Nat) (o:List Pss),q.parts.drop k=t->k<=q.parts.length->o.length<=1000+k ->
  Y L Cs zJv (some [5,9,2,1,8,6,7]) 3 (zRQ m l i z k o) (zQ0 m o) =
    some (.exit 4,(37,.w (Bo false))::zRQ m l i z q.parts.length (o++zLB st z x k t),zQ0 m (o++zLB st z x k t)):=by
 intro t;induction t with
 |nil =>
  intro k o hd hk ho;obtain rfl:=zUb hd hk;have e0:(zk8 zs)[z]'(by simpa using hz)=zdP q:=by simp[hzq]
  rw[zj zJv.eq_1];simp[zLB,zf,hzz,hz,hzq,zdP]
 |cons p t ih =>
  intro k o hd hk ho;obtain⟨hkl,hp,hd'⟩:=zL hd;have hw:=zB (i:=k) (by omega);have hok:=hpo p (by rw[<-hp];exact je hkl);have w1:IntKind.i64.wrap (st+p.lo)=st+p.lo:=zTd _ (by have:=hok.lo;omega) (by have:=hok.lo;omega);have w2:IntKind.i64.wrap (st+p.hi)=st+p.hi:=zTd _ (by have:=hok.hi;omega) (by have:=hok.hi;omega);have jX:(o.length+1)*32<=140737488355328:=by omega
  unfold zLB;by_cases c:p.lane=x
  ·have cb:(p.lane==x)=true:=by simp[c]
   rw[if_pos c];have h:=ih (k+1) (o++[⟨z,k,st+p.lo,st+p.hi⟩]) hd' hkl (by simp;omega);have e1:o++⟨z,k,st+p.lo,st+p.hi⟩::zLB st z x (k+1) t=(o++[⟨z,k,st+p.lo,st+p.hi⟩])++zLB st z x (k+1) t:=by simp
   rw[e1,<-h,zj zJv.eq_1];clear h ih e1;simp[zRQ,rpS,zQ0,own,zdP,zeB,zKF,hzz,hz,hzq,hil,hx,hkl,hp,hw,his,hst,w1,w2,c,cb,jX,zg,zf,zH]
  ·have cb:(p.lane==x)=false:=by simp[c]
   rw[if_neg c];have h:=ih (k+1) o hd' hkl (by omega);rw[<-h,zj zJv.eq_1];clear h ih;simp[zRQ,rpS,zQ0,own,zdP,zeB,zKF,hzz,hz,hzq,hil,hx,hkl,hp,hw,c,cb,zg,zf,zH]
abbrev zRX(m:zD)(l:List Int)(i z:Nat)(o:List Pss):Env:=[(5,.w (rpS o)),(2,.w (Pt 0)),(1,.w (.c (.jb (zu l)))),(8,.w (W z)),(6,.w (.c (.jb (zu (zW m 0 l))))),(7,.w (W i))]
theorem zRN{m:zD}(l:List Int)(i:Nat)(hil:i<l.length)(st:Int)(his:i<(zW m 0 l).length)(hst:(zW m 0 l)[i]=st)(hsb:0<=st/\st<=100000000)(x:Int)(hx:l[i]=x)(zs:List Zon)(hzz:m.qE=zk8 zs)(hz:zs.length<=12)(hq:∀q∈zs,q.parts.length<=6)(hpo:∀q∈zs,∀p∈q.parts,zOj p):∀(t:List Zon) (z:Nat) (o:List Pss),zs.drop z=t->z<=zs.length->o.length<=900+6*z ->
  Y L Cs zJu (some [5,2,1,8,6,7]) 3 (zRX m l i z o) (zQ0 m o)=some (.exit 2,(26,.w (Bo false))::zRX m l i zs.length (o++zLA st x z t),zQ0 m (o++zLA st x z t)):=by
 intro t;induction t with
 |nil =>
  intro z o hd hk ho;obtain rfl:=zUb hd hk;rw[zj zJu.eq_1];simp[zLA,zf,hzz]
 |cons q t ih =>
  intro z o hd hk ho;obtain⟨hkl,hp,hd'⟩:=zL hd;have hw:=zB (i:=z) (by omega);have hqm:q∈zs:=by rw[<-hp];exact je hkl
  have hp6:=hq q hqm;have hpl:=zLR st z x q.parts 0;have h1:=zRO l i hil st his hst hsb x hx zs hzz z hkl q hp hp6 (hpo q hqm) q.parts 0 o rfl (jt _) (by omega);have h:=ih (z+1) (o++zLB st z x 0 q.parts) hd' hkl (by simp;omega);unfold zLA;rw[<-jA,<-h,zj zJu.eq_1];clear h ih;generalize zLB st z x 0 q.parts=pp at *;simp only[zRQ,rpS,zQ0,own,zf,hzz,jg,zLE,zMu,ju]at h1;simp[zRX,rpS,zQ0,own,hkl,hp,hw,h1,zg,zf,hzz,zH]
abbrev zRW(m:zD)(l:List Int)(i:Nat)(o:List Pss):Env:=[(5,.w (rpS o)),(2,.w (Pt 0)),(1,.w (.c (.jb (zu l)))),(6,.w (.c (.jb (zu (zW m 0 l))))),(7,.w (W i))]
theorem zRM{m:zD}(h:zcp m)(l:List Int)(hl:l.length<=8)(hon:zj2 m l)(zs:List Zon)(hzz:m.qE=zk8 zs)(hz:zs.length<=12)(hq:∀q∈zs,q.parts.length<=6)(hpo:∀q∈zs,∀p∈q.parts,zOj p):∀(t:List Int) (i:Nat) (a:Int) (o:List Pss),l.drop i=t->i<=l.length->(zW m 0 l).drop i=zW m a t->0<=a->a<=i*1000000->o.length<=100*i ->
  Y L Cs zJt (some [5,2,1,6,7]) 3 (zRW m l i o) (zQ0 m o)=some (.exit 0,(19,.w (Bo false))::zRW m l l.length (o++zKh m zs a t),zQ0 m (o++zKh m zs a t)):=by
 intro t;induction t with
 |nil =>
  intro i a o hd hk hs h0 h1 ho;obtain rfl:=zUb hd hk;have e:(zW m 0 l).length=l.length:=zcO ..;rw[zj zJt.eq_1];simp[zKh,e]
 |cons x t ih =>
  intro i a o hd hk hs h0 h1 ho;obtain⟨hkl,hp,hd'⟩:=zL hd;have hw:=zB (i:=i) (by omega);have hx:=hon x (by rw[<-hp];exact je hkl);have hle:=zcX h hx;have e:(zW m 0 l).length=l.length:=zcO ..;have hsl:i<(zW m 0 l).length:=by rw[zcO];exact hkl
  have hsd:=ku hsl;rw[hs,zW]at hsd;simp only[List.cons.injEq]at hsd;have hzl:=zNv a x zs 0 hq;have g:=zRN l i hkl a hsl hsd.1.symm ⟨h0,by omega⟩ x hp zs hzz hz hq hpo zs 0 o rfl (jt _) (by omega);have hh:=ih (i+1) (a+z8 m x) (o++zLA a x 0 zs) hd' hkl hsd.2.symm (by omega) (by omega) (by simp;omega);unfold zKh;rw[<-jA,<-hh,zj zJt.eq_1];clear hh ih;generalize zLA a x 0 zs=pp at *;simp only[zRX,rpS,zQ0,own,zf,hzz,jg,zLE,zMu,ju]at g;simp[zRW,rpS,zQ0,own,hkl,hp,hw,g,zg,zf,hzz,zH,e]
theorem zRP(m:zD)(o:List Pss)(hs:zN1 o)(hl:o.length<=19)(i:Nat)(hi:i<o.length):Y L Cs zJs (some [12,11,5]) 3 [(12,.w (W i)),(11,.w (W i)),(5,.w (rpS o))] (zQ0 m o) =
  some (.exit 8,[(126,.w (Bo false)),(12,.w (W i)),(11,.w (W i)),(5,.w (rpS o))],zQ0 m o):=by
 cases i with
 |zero =>
  rw[zj zJs.eq_1];simp[zf]
 |succ j =>
  have h2:j<o.length:=by omega
  have hn:=hs j hi;have hw:IntKind.i64.wrap ((j:Int)+1-1)=(j:Int):=by rw[zTd _ (by omega) (by omega)];omega
  have hg:(0:Int)<(j:Int)+1:=by omega
  have hwj:IntKind.i64.wrap (j:Int)=(j:Int):=zTd _ (by omega) (by omega);have a1:(0:Int)<=(j:Int)+1:=by omega
  have a2:(j:Int)+1<(o.length:Int):=by omega
  have a3:((j:Int)+1).toNat=j+1:=by omega
  have a4:(j:Int)<(o.length:Int):=by omega
  generalize hu:o[j+1]=u at *;generalize hv:o[j]=v at *;unfold zI2 at hn;have n1:¬u.lo<v.lo:=by omega
  rw[zj zJs.eq_1];by_cases c:u.lo=v.lo
  ·have cb:(u.lo==v.lo)=true:=by simp[c]
   have n2:¬u.kD<v.kD:=by omega
   have n3:¬v.lo<v.lo:=by omega
   simp[zQ0,rpS,own,zf,hg,hw,hwj,hi,h2,a1,a2,a3,a4,hu,hv,zKF,n1,n2,n3,c]
  ·have cb:(u.lo==v.lo)=false:=by simp[c]
   simp[zQ0,rpS,own,zf,hg,hw,hwj,hi,h2,a1,a2,a3,a4,hu,hv,zKF,n1,c,cb]
theorem zRL(m:zD)(o:List Pss)(hs:zN1 o)(hl:o.length<=19):∀(n i:Nat),i+n=o.length\/(n=0/\o.length<=i)->∃i',Y L Cs zJr (some [11,5]) 3 [(11,.w (W i)),(5,.w (rpS o))] (zQ0 m o)=some (.exit 6,[(79,.w (Bo false)),(11,.w (W i')),(5,.w (rpS o))],zQ0 m o):=by
 intro n;induction n with
 |zero =>
  intro i hi;have hc:¬(i:Int)<o.length:=by omega
  have hc':¬i<o.length:=by omega
  refine⟨i,?_⟩;rw[zj zJr.eq_1];simp[rpS,hc,hc']
 |succ n ih =>
  intro i hi;have hil:i<o.length:=by omega
  have hc:(i:Int)<o.length:=by omega
  have hw:=zB (i:=i) (by omega);have hin:=zRP m o hs hl i hil;obtain⟨i',h⟩:=ih (i+1) (by omega);refine⟨i',?_⟩;rw[<-h,zj zJr.eq_1];simp only[zQ0,rpS,zf,own,zLE]at hin;simp[rpS,zQ0,zf,own,hc,hil,hw,hin]
theorem zRG{m:zD}(h:zcp m){l:List Int}(hr:zdA m l=0):R L Cs zQ4 [.a (zf m),.c (.jb (zu l))] []=some (.w (.c (.jb (zu (zW m 0 l)))),[]):=by
 obtain⟨hon,hne,hl8⟩:=zg1 h hr;have h1:=zp0 m h.small h.AP l (by omega);have h2:=zvX h (l:=l) (by omega) hon;rw[hr]at h1;simp only[zf]at h1 h2;rw[zUa zQ6 rfl];simp[zJM,zf,h1,h2,zg,zX]
theorem zRH{m:zD}{zs:List Zon}{ss:List Sgn}(hf:zmq m zs ss){l:List Int}(hr:zdA m l=0)(hs:zN1 (zKh m zs 0 l))(hn:(zKh m zs 0 l).length<=19) :
  R L Cs zQ5 [.a (zf m),.c (.jb (zu l))] []=some (.w (.c (.jb (zKd (zKh m zs 0 l)))),[]):=by
 have h:=hf.qF;obtain⟨hon,hne,hl8⟩:=zg1 h hr;have hS:=zRG h hr;have g:=zRM h l hl8 hon zs hf.zd.z hf.zd.few hf.zd.BA (zO7 hf) l 0 0 [] rfl (jt _) rfl (qs _) (by omega) (by simp);rw[jf]at g;obtain⟨i',g2⟩:=zRL m (zKh m zs 0 l) hs hn ((zKh m zs 0 l).length-1) 1 (by omega);generalize zKh m zs 0 l=o at *;have hw:IntKind.i64.wrap 1=1:=rfl;simp only[zRW,rpS,zQ0,own,zf,zLE,zNO,jp,jg,kd]at g g2 hS;rw[zUa zQ7 rfl];simp[zJN,zf,hS,g,g2,zg,zX]
set_option maxRecDepth 100000
open Go Go.Eng
def isE:Option (AV×Mem)->Bool
 |some (.w (.c (.jb [])),[])=>true
 |_=>false
theorem zLU:∀{x:Option (AV×Mem)},isE x=true->x=some (.w (.c (.jb [])),[])
 |some (.w (.c (.jb [])),[]),_=>rfl
 |none,h=>by cases h
 |some (.u,_),h=>by cases h
 |some (.t _,_),h=>by cases h
 |some (.w (.a _),_),h=>by cases h
 |some (.w (.c (.jb (_::_))),_),h=>by cases h
 |some (.w (.c (.jb [])),_::_),h=>by cases h
 |some (.w (.c (.bool _)),_),h=>by cases h
 |some (.w (.c (.int _ _)),_),h=>by cases h
 |some (.w (.c (.str _)),_),h=>by cases h
 |some (.w (.c (.ptr ..)),_),h=>by cases h
 |some (.w (.c (.ut ..)),_),h=>by cases h
 |some (.w (.c .qi),_),h=>by cases h
 |some (.w (.c (.slice ..)),_),h=>by cases h
 |some (.w (.c .jd),_),h=>by cases h
 |some (.w (.c (.fn ..)),_),h=>by cases h
 |some (.w (.c .uL),_),h=>by cases h
 |some (.w (.c (.iface ..)),_),h=>by cases h
 |some (.w (.c .k6),_),h=>by cases h
 |some (.w (.c (.yld ..)),_),h=>by cases h
def zLW(m:zD):Bool:=isE (zaH L Cs 400 zMz [.a (zf m)] [])&&isE (zaH L Cs 400 zMB [.a (zf m)] [])&&isE (zaH L Cs 400 zMW [.a (zf m)] [])&&isE (zaH L Cs 400 zMA [.a (zf m)] [])
def zMm(m:zD):Bool:=isE (zaH L Cs 400 zQ2 [.a (zf m)] [])&&isE (zaH L Cs 400 zQ3 [.a (zf m)] [])&&isE (zaH L Cs 400 zQK [.a (zf m),W 3] [])&&isE (zaH L Cs 400 zQK [.a (zf m),W 4] [])
theorem zQo(lim r o1 o2 o3 v:Int)(ws:List zCP):zLW (zq 0 lim r o1 o2 o3 v ws)=true:=by kernel_rfl
theorem zQk(lim r o1 o2 o3 v:Int)(ws:List zCP):zMm (zq 0 lim r o1 o2 o3 v ws)=true:=by kernel_rfl
theorem zQn(lim r o1 o2 o3 v:Int)(ws:List zCP):zLW (zq 3 lim r o1 o2 o3 v ws)=true:=by kernel_rfl
theorem zQj(lim r o1 o2 o3 v:Int)(ws:List zCP):zMm (zq 3 lim r o1 o2 o3 v ws)=true:=by kernel_rfl
theorem zQm(lim r o1 o2 o3 v:Int)(ws:List zCP):zLW (zq 4 lim r o1 o2 o3 v ws)=true:=by kernel_rfl
theorem zQi(lim r o1 o2 o3 v:Int)(ws:List zCP):zMm (zq 4 lim r o1 o2 o3 v ws)=true:=by kernel_rfl
theorem zQl(lim r o1 o2 o3 v:Int)(ws:List zCP):zLW (zq 5 lim r o1 o2 o3 v ws)=true:=by kernel_rfl
theorem zQh(lim r o1 o2 o3 v:Int)(ws:List zCP):zMm (zq 5 lim r o1 o2 o3 v ws)=true:=by kernel_rfl
theorem zPF(lim o1 o2 o3 v:Int)(ws:List zCP):zLW (zq 1 lim 0 o1 o2 o3 v ws)=true:=by kernel_rfl
theorem zPz(lim o1 o2 o3 v:Int)(ws:List zCP):zMm (zq 1 lim 0 o1 o2 o3 v ws)=true:=by kernel_rfl
theorem zPE(lim o1 o2 o3 v:Int)(ws:List zCP):zLW (zq 1 lim 1 o1 o2 o3 v ws)=true:=by kernel_rfl
theorem zPy(lim o1 o2 o3 v:Int)(ws:List zCP):zMm (zq 1 lim 1 o1 o2 o3 v ws)=true:=by kernel_rfl
theorem zPD(lim o1 o2 o3 v:Int)(ws:List zCP):zLW (zq 2 lim 0 o1 o2 o3 v ws)=true:=by kernel_rfl
theorem zPx(lim o1 o2 o3 v:Int)(ws:List zCP):zMm (zq 2 lim 0 o1 o2 o3 v ws)=true:=by kernel_rfl
theorem zPC(lim o1 o2 o3 v:Int)(ws:List zCP):zLW (zq 2 lim 1 o1 o2 o3 v ws)=true:=by kernel_rfl
theorem zPw(lim o1 o2 o3 v:Int)(ws:List zCP):zMm (zq 2 lim 1 o1 o2 o3 v ws)=true:=by kernel_rfl
theorem zPB(lim o1 o2 o3 v:Int)(ws:List zCP):zLW (zq 6 lim 0 o1 o2 o3 v ws)=true:=by kernel_rfl
theorem zPv(lim o1 o2 o3 v:Int)(ws:List zCP):zMm (zq 6 lim 0 o1 o2 o3 v ws)=true:=by kernel_rfl
theorem zPA(lim o1 o2 o3 v:Int)(ws:List zCP):zLW (zq 6 lim 1 o1 o2 o3 v ws)=true:=by kernel_rfl
theorem zPu(lim o1 o2 o3 v:Int)(ws:List zCP):zMm (zq 6 lim 1 o1 o2 o3 v ws)=true:=by kernel_rfl
theorem zQg(k:Nat)(hk:k<7)(lim r o1 o2 o3 v:Int)(ws:List zCP)(hr:r=0\/r=1):zLW (zq k lim r o1 o2 o3 v ws)=true/\zMm (zq k lim r o1 o2 o3 v ws)=true:=by
 match k,hk with
 |0,_=>exact⟨zQo ..,zQk ..⟩
 |1,_=>rcases hr with rfl |rfl;exact⟨zPF ..,zPz ..⟩;exact⟨zPE ..,zPy ..⟩
 |2,_=>rcases hr with rfl |rfl;exact⟨zPD ..,zPx ..⟩;exact⟨zPC ..,zPw ..⟩
 |3,_=>exact⟨zQn ..,zQj ..⟩
 |4,_=>exact⟨zQm ..,zQi ..⟩
 |5,_=>exact⟨zQl ..,zQh ..⟩
 |6,_=>rcases hr with rfl |rfl;exact⟨zPB ..,zPv ..⟩;exact⟨zPA ..,zPu ..⟩
theorem zQC{m:zD}(h:zcp m)(hf:zLW m=true):R L Cs zNA [.a (zf m)] []=some (.w (Bo true),[]):=by
 unfold zLW at hf;simp only[jl]at hf;obtain⟨⟨⟨a1,a2⟩,a3⟩,a4⟩:=hf;have h1:=zah.2 ⟨400,zLU a1⟩;have h2:=zah.2 ⟨400,zLU a2⟩;have h3:=zah.2 ⟨400,zLU a3⟩;have h4:=zah.2 ⟨400,zLU a4⟩;have h0:=h.chk;have w0:IntKind.i64.wrap 0=0:=rfl;simp only[zf]at h0 h1 h2 h3 h4;rw[zUa zNI rfl];simp[zIV,zf,h0,h1,h2,h3,h4,w0,zg]
theorem zR6{m:zD}(h:zcp m)(hf:zMm m=true):R L Cs zRe [.a (zf m)] []=some (.w (Bo true),[]):=by
 unfold zMm at hf;simp only[jl]at hf;obtain⟨⟨⟨a1,a2⟩,a3⟩,a4⟩:=hf;have h1:=zah.2 ⟨400,zLU a1⟩;have h2:=zah.2 ⟨400,zLU a2⟩;have h3:=zah.2 ⟨400,zLU a3⟩;have h4:=zah.2 ⟨400,zLU a4⟩;have h0:=h.AP;have w0:IntKind.i64.wrap 0=0:=rfl;simp only[zf]at h0 h1 h2 h3 h4;rw[zUa zRf rfl];simp[zJX,zf,h0,h1,h2,h3,h4,w0,zg]
structure zKj(m:zD)(zs:List Zon)(ss:List Sgn):Prop where
 full:zmq m zs ss
 pos:0<m.jc.length
 kE:m.kE.length<=1000
 two:zs.length<=2
 fit:zLW m=true/\zMm m=true
 srt:∀l,zdA m l=0->zN1 (zKh m zs 0 l)
 few:∀l,zdA m l=0->(zKh m zs 0 l).length<=19
theorem zOu{m:zD}{zs:List Zon}{ss:List Sgn}(hf:zmq m zs ss)(hz:zs.length<=2)(hn:∀q∈zs,q.parts.length<=4){l:List Int}(hr:zdA m l=0):(zKh m zs 0 l).length<=16:=by
 have hl:=zlP hf.ye hr;have key:∀(t:List Zon) (a x:Int) (z:Nat),(∀q∈t,q.parts.length<=4)->(zLA a x z t).length<=4*t.length:=by
  intro t;induction t with
  |nil=>intro a x z _;simp[zLA]
  |cons q t ih =>
   intro a x z h;have h1:=ih a x (z+1) fun y hy=>h y (jv _ hy)
   have h2:=zLR a z x q.parts 0;have h3:=h q (jr ..);unfold zLA;simp;omega
 have k2:∀(t:List Int) (a:Int),(zKh m zs a t).length<=8*t.length:=by
  intro t;induction t with
  |nil=>intro a;simp[zKh]
  |cons x t ih =>
   intro a;have h1:=ih (a+z8 m x);have h2:=key zs a x 0 hn;unfold zKh;simp;omega
 have:=k2 l 0;omega
def zOT:List Pss->Bool
 |a::b::r=>!decide (zI2 b a)&&zOT (b::r)
 |_=>true
theorem zMq:∀{l:List Pss},zOT l=true->zN1 l
 |[],_=>fun i h=>by simp at h
 |[_],_=>fun i h=>by simp at h
 |a::b::r,h=>by
  simp only[zOT,jl,kK,decide_eq_false_iff_not]at h;intro i hi;cases i with
  |zero=>exact h.1
  |succ i=>exact zMq h.2 i (by simpa using hi)
def zTx(m:zD)(C:List Int->Bool):Bool:=(List.range 4).all fun x=>C [(x:Int)]&&(zS m x).all fun y=>C [(x:Int),y]
theorem zQa(k:Nat)(hk:k<7)(lim r o1 o2 o3 v:Int)(ws:List zCP):zTx (zq k lim r o1 o2 o3 v ws) (fun l=>zOT (zKh (zq k lim r o1 o2 o3 v ws) (zsP k r) 0 l))=true:=match k,hk with
 |0,_=>by kernel_rfl
 |1,_=>by kernel_rfl
 |2,_=>by kernel_rfl
 |3,_=>by kernel_rfl
 |4,_=>by kernel_rfl
 |5,_=>by kernel_rfl
 |6,_=>by kernel_rfl
theorem zTp{m:zD}(hs:zmX m){C:List Int->Bool}(qH:zTx m C=true){l:List Int}(hr:zdA m l=0):C l=true:=by
 have hl:=zlP hs hr;have few:=hs.few;have qH:=jz.1 qH
 match l,hl,hr with
 |[],_,hr=>cases hr
 |[x],_,hr =>
  simp only[zdA]at hr;split at hr
  ·cases hr
  split at hr
  ·cases hr
  split at hr
  ·cases hr
  rename_i h2 h3;obtain⟨n,rfl⟩:=js (show 0<=x by omega);have:=qH n (qN.2 (by omega));rw[jl]at this;exact this.1
 |[x,y],_,hr =>
  simp only[zdA]at hr;split at hr
  ·cases hr
  split at hr
  ·cases hr
  split at hr
  ·cases hr
  rename_i h2 h3;split at hr
  ·cases hr
  split at hr
  ·rename_i hg;obtain⟨n,rfl⟩:=js (show 0<=x by omega);have:=qH n (qN.2 (by omega));rw[jl]at this;simp only[goF,jl,decide_eq_true_eq]at hg;exact jz.1 this.2 y hg.1
  ·cases hr
theorem zOQ(k:Nat)(hk:k<7)(r:Int):(zsP k r).length<=2/\∀q∈zsP k r,q.parts.length<=4:=by
 match k,hk with
 |0,_ |1,_ |2,_ |3,_ |4,_ |5,_ |6,_=>simp[zsP]
theorem zTs(k:Nat)(hk:k<7){lim r o1 o2 o3 v:Int}{ws:List zCP}(nu:zp2 k lim r o1 o2 o3 v ws):zKj (zq k lim r o1 o2 o3 v ws) (zsP k r) (ssP k r o1 o2 o3):=by
 have hf:=zCE k hk nu;obtain⟨z1,z2⟩:=zOQ k hk r;refine⟨hf,zE9 k hk _ _ _ _ _ _ _,?_,z1,zQg k hk lim r o1 o2 o3 v ws nu.r,fun l hr=>zMq (zTp hf.ye (zQa k hk lim r o1 o2 o3 v ws) hr),fun l hr=>?_⟩
 ·have:=nu.wl;show ws.length<=1000;omega
 ·have:=zOu hf z1 z2 hr;omega
theorem zN6(n:Int):∃m zs ss,zKj m zs ss/\R L Cs zY [W n] []=some (.w (.a (zf m)),[]):=by
 obtain⟨k,lim,r,o1,o2,o3,v,ws,hk,nu,hR⟩:=zA5 n;exact⟨_,_,_,zTs k hk nu,hR⟩
set_option maxRecDepth 10000
open Go Go.Eng
structure Vis where
 kD:Int
 entry:Int
 first:Pss
 last:Pss
abbrev zKw:Pss:=⟨0,0,0,0⟩
def zJ1(v:Vis):List Cl:=[I v.kD,I v.entry,I v.first.kD,I v.first.part,I v.first.lo,I v.first.hi,I v.last.kD,I v.last.part,I v.last.lo,I v.last.hi]
def zKt(l:List Vis):List (List Cl):=l.map zJ1
@[simp] theorem zJZ(l:List Vis):(zKt l).length=l.length:=by simp[zKt]
@[simp] theorem zP7:zKt []=[]:=rfl
@[simp] theorem zPS(x:Vis)(l:List Vis):zKt (x::l)=zJ1 x::zKt l:=rfl
@[simp] theorem zP8(l k:List Vis):zKt (l++k)=zKt l++zKt k:=by simp[zKt]
@[simp] theorem zPR(l:List Vis):(zKt l).take l.length=zKt l:=jG (by simp)
@[simp] theorem zPo{l:List Vis}{i:Nat}(h:i<(zKt l).length):(zKt l)[i]=zJ1 (l[i]'(by simpa using h)):=by simp[zKt]
@[simp] theorem zNp(v:Vis):(zJ1 v).length=10:=rfl
def zJ5(z:Int)(v:Vis)(p:Pss):Vis:=if p.kD=z then(if v.entry<0 then⟨v.kD,p.part,p,p⟩ else⟨v.kD,v.entry,v.first,p⟩) else v
def zKn(ps:List Pss)(z:Int):Vis:=ps.foldl (zJ5 z) ⟨z,-1,zKw,zKw⟩
def zKE(ps:List Pss):Nat->Nat->List Vis
 |_,0=>[]
 |z,n+1=>if 0<=(zKn ps z).entry then zKn ps z::zKE ps (z+1) n else zKE ps (z+1) n
abbrev jC(m:zD)(r:List Int)(len:Int)(ps:List Pss)(VS:Cl)(was now:List Cl)(SW:Cl):List Cl:=zh m r len++[.jb (zKd ps),VS]++was++now++[SW]
abbrev njE(ps:List Pss)(nz z:Nat)(id:Nat)(i:Nat):Env:=[(34,.w (W i)),(33,.w (W ps.length)),(7,.w (Pt 1)),(23,.w (W nz)),(24,.w (W z)),(32,.w (.c (.jb (zKd ps)))),(8,.w (W z)),(9,.w (Pt id))]
abbrev njM(m:zD)(r:List Int)(len:Int)(ps:List Pss)(u:Nat)(VS:Cl):Mem:=[bx 5 (zf m),bxv u 26 (jC m r len ps VS zox zox .jd)]
theorem nj1(m:zD)(r:List Int)(len:Int)(ps:List Pss)(hp:ps.length<=1000)(nz z:Nat):∀(t:List Pss) (i:Nat) (v:Vis) (w:Nat),ps.drop i=t->i<=ps.length->∃w',w<=w' /\
  Y L Cs zH8 (some [34,33,7,23,24,32,8,9]) 3 (njE ps nz z 2 i) (njM m r len ps 0 .jd++[bxv w 10 (zJ1 v)]) =
    some (.exit 2,(35,.w (Bo false))::njE ps nz z 2 ps.length,njM m r len ps 0 .jd++[bxv w' 10 (zJ1 (t.foldl (zJ5 z) v))]):=by
 intro t;induction t with
 |nil =>
  intro i v w hd hi;obtain rfl:=zUb hd hi;refine⟨w,jo _,?_⟩;rw[zj zH8.eq_1];simp
 |cons p t ih =>
  intro i v w hd hi;obtain⟨hil,hx,hd'⟩:=zL hd;have hw:=zB (i:=i) (by omega);rw[jN];by_cases c:p.kD=z
  ·have cb:(p.kD !=(z:Int))=false:=by simp[c]
   by_cases d:v.entry<0
   ·have e:zJ5 z v p=⟨v.kD,p.part,p,p⟩:=by simp[zJ5,c,d]
    obtain⟨w',h1,h⟩:=ih (i+1) ⟨v.kD,p.part,p,p⟩ (w+3) hd' hil;refine⟨w',by omega,?_⟩;rw[e,<-h,zj zH8.eq_1];clear h ih;simp[njE,njM,jC,zox,zh,zi,zf,zJ1,zKF,hil,hx,hw,c,cb,d,zg,zH]
   ·have e:zJ5 z v p=⟨v.kD,v.entry,v.first,p⟩:=by simp[zJ5,c,d]
    obtain⟨w',h1,h⟩:=ih (i+1) ⟨v.kD,v.entry,v.first,p⟩ (w+1) hd' hil;refine⟨w',by omega,?_⟩;rw[e,<-h,zj zH8.eq_1];clear h ih;simp[njE,njM,jC,zox,zh,zi,zf,zJ1,zKF,hil,hx,hw,c,cb,d,zg,zH]
  ·have cb:(p.kD !=(z:Int))=true:=by simp[c]
   have e:zJ5 z v p=v:=by simp[zJ5,c]
   obtain⟨w',h1,h⟩:=ih (i+1) v w hd' hil;refine⟨w',by omega,?_⟩;rw[e,<-h,zj zH8.eq_1];clear h ih;simp[njE,njM,jC,zox,zh,zi,zf,zJ1,zKF,hil,hx,hw,c,cb,zg,zH]
abbrev zLG(v:Vis):Option Blk:=some { box:=false,esz:=10,rows:=[zJ1 v],gen:=1,fz:=false,ver:=1 }
abbrev zKV(m:zD)(r:List Int)(len:Int)(ps:List Pss)(v0:Vis)(w0:Nat):Mem:=[bx 5 (zf m),bxv 1 26 (jC m r len ps (.slice 4 1 10 0 1 none) zox zox .jd),bxv w0 10 (zJ1 v0),zLG v0,some (own 10 [zJ1 v0])]
abbrev zMw(m:zD)(r:List Int)(len:Int)(ps:List Pss)(v0 v1:Vis)(w0 w1:Nat):Mem:=[bx 5 (zf m),bxv 2 26 (jC m r len ps (.slice 4 2 10 0 2 none) zox zox .jd),bxv w0 10 (zJ1 v0),zLG v0,some (own 10 [zJ1 v0,zJ1 v1]),bxv w1 10 (zJ1 v1),zLG v1]
theorem nj1b(m:zD)(r:List Int)(len:Int)(v0:Vis)(w0:Nat)(ps:List Pss)(hp:ps.length<=1000)(nz z:Nat):∀(t:List Pss) (i:Nat) (v:Vis) (w:Nat),ps.drop i=t->i<=ps.length->∃w',w<=w' /\
  Y L Cs zH8 (some [34,33,7,23,24,32,8,9]) 6 (njE ps nz z 5 i) (zKV m r len ps v0 w0++[bxv w 10 (zJ1 v)]) =
    some (.exit 2,(35,.w (Bo false))::njE ps nz z 5 ps.length,zKV m r len ps v0 w0++[bxv w' 10 (zJ1 (t.foldl (zJ5 z) v))]):=by
 intro t;induction t with
 |nil =>
  intro i v w hd hi;obtain rfl:=zUb hd hi;refine⟨w,jo _,?_⟩;rw[zj zH8.eq_1];simp
 |cons p t ih =>
  intro i v w hd hi;obtain⟨hil,hx,hd'⟩:=zL hd;have hw:=zB (i:=i) (by omega);rw[jN];by_cases c:p.kD=z
  ·have cb:(p.kD !=(z:Int))=false:=by simp[c]
   by_cases d:v.entry<0
   ·have e:zJ5 z v p=⟨v.kD,p.part,p,p⟩:=by simp[zJ5,c,d]
    obtain⟨w',h1,h⟩:=ih (i+1) ⟨v.kD,p.part,p,p⟩ (w+3) hd' hil;refine⟨w',by omega,?_⟩;rw[e,<-h,zj zH8.eq_1];clear h ih;simp[njE,zKV,own,jC,zox,zh,zi,zf,zJ1,zKF,hil,hx,hw,c,cb,d,zg,zH]
   ·have e:zJ5 z v p=⟨v.kD,v.entry,v.first,p⟩:=by simp[zJ5,c,d]
    obtain⟨w',h1,h⟩:=ih (i+1) ⟨v.kD,v.entry,v.first,p⟩ (w+1) hd' hil;refine⟨w',by omega,?_⟩;rw[e,<-h,zj zH8.eq_1];clear h ih;simp[njE,zKV,own,jC,zox,zh,zi,zf,zJ1,zKF,hil,hx,hw,c,cb,d,zg,zH]
  ·have cb:(p.kD !=(z:Int))=true:=by simp[c]
   have e:zJ5 z v p=v:=by simp[zJ5,c]
   obtain⟨w',h1,h⟩:=ih (i+1) v w hd' hil;refine⟨w',by omega,?_⟩;rw[e,<-h,zj zH8.eq_1];clear h ih;simp[njE,zKV,own,jC,zox,zh,zi,zf,zJ1,zKF,hil,hx,hw,c,cb,zg,zH]
abbrev zLk(nz z:Nat):Env:=[(23,.w (W nz)),(7,.w (Pt 1)),(24,.w (W z))]
theorem nj2a(m:zD)(r:List Int)(len:Int)(ps:List Pss)(hp:ps.length<=1000)(nz z:Nat)(hz:z<nz)(hn:nz<=10):∃w,
  Y L Cs zH7 (some [23,7,24]) 2 (zLk nz z) (njM m r len ps 0 .jd) =
    if 0<=(zKn ps z).entry then Y L Cs zH7 (some [23,7,24]) 2 (zLk nz (z+1)) (zKV m r len ps (zKn ps z) w) else Y L Cs zH7 (some [23,7,24]) 2 (zLk nz (z+1)) (njM m r len ps 0 .jd):=by
 have hw:=zB (i:=z) (by omega);have hzi:(z:Int)<nz:=by omega
 obtain⟨w',_,h⟩:=nj1 m r len ps hp nz z ps 0 ⟨z,-1,zKw,zKw⟩ 1 rfl (jt _);refine⟨w',?_⟩;rw[show ps.foldl (zJ5 z) ⟨z,-1,zKw,zKw⟩=zKn ps z from rfl]at h;generalize zKn ps z=v at *;simp only[njE,njM,jC,zox,zh,zi,zf,zJ1,jh,jf,jg]at h;by_cases c:0<=v.entry
 ·rw[if_pos c,zj zH7.eq_1];simp (maxSteps:=1000000) [zLk,njM,zKV,zLG,own,jC,zox,zh,zi,zf,zJ1,hzi,hz,hw,h,c,zg,zH]
 ·rw[if_neg c,zj zH7.eq_1];simp (maxSteps:=1000000) [zLk,njM,zKV,zLG,own,jC,zox,zh,zi,zf,zJ1,hzi,hz,hw,h,c,zg,zH]
theorem nj2b(m:zD)(r:List Int)(len:Int)(ps:List Pss)(v0:Vis)(w0:Nat)(hp:ps.length<=1000)(nz z:Nat)(hz:z<nz)(hn:nz<=10):∃w,
  Y L Cs zH7 (some [23,7,24]) 2 (zLk nz z) (zKV m r len ps v0 w0) =
    if 0<=(zKn ps z).entry then Y L Cs zH7 (some [23,7,24]) 2 (zLk nz (z+1)) (zMw m r len ps v0 (zKn ps z) w0 w) else Y L Cs zH7 (some [23,7,24]) 2 (zLk nz (z+1)) (zKV m r len ps v0 w0++[bxv w 10 (zJ1 (zKn ps z))]):=by
 have hw:=zB (i:=z) (by omega);have hzi:(z:Int)<nz:=by omega
 obtain⟨w',_,h⟩:=nj1b m r len v0 w0 ps hp nz z ps 0 ⟨z,-1,zKw,zKw⟩ 1 rfl (jt _);refine⟨w',?_⟩;rw[show ps.foldl (zJ5 z) ⟨z,-1,zKw,zKw⟩=zKn ps z from rfl]at h;generalize zKn ps z=v at *;simp only[njE,zKV,zLG,own,jC,zox,zh,zi,zf,zJ1,jh,jf,jg,jk,jp]at h;by_cases c:0<=v.entry
 ·rw[if_pos c,zj zH7.eq_1];simp (maxSteps:=1000000) [zLk,zMw,zKV,zLG,own,jC,zox,zh,zi,zf,zJ1,hzi,hz,hw,h,c,zg,zH]
 ·rw[if_neg c,zj zH7.eq_1];simp (maxSteps:=1000000) [zLk,zMw,zKV,zLG,own,jC,zox,zh,zi,zf,zJ1,hzi,hz,hw,h,c,zg,zH]
abbrev zJ3(m:zD)(r:List Int)(len:Int)(ps:List Pss)(vs:List Vis)(u:Nat)(was now:List Cl)(SW:Cl):Mem :=
 if vs=[] then [bxv u 26 (jC m r len ps .jd was now SW)] else [bxv u 26 (jC m r len ps (.slice 1 vs.length 10 0 vs.length none) was now SW),some (own 10 (zKt vs))]
theorem zLF(nz:Nat)(M:Mem):Y L Cs zH7 (some [23,7,24]) 2 (zLk nz nz) M=some (.exit 0,[(25,.w (Bo false)),(7,.w (Pt 1)),(23,.w (W nz)),(24,.w (W nz))],M):=by
 rw[zj zH7.eq_1];simp
theorem zMM{m:zD}{zs:List Zon}{ss:List Sgn}(hF:zKj m zs ss){r:List Int}(hr:zdA m r=0)(len:Int) :
  ∃u,R L Cs zMn [.a (zf m),.c (.jb (zu r)),W len] []=some (.w (.c (.ptr 0 0 0 0)),zJ3 m r len (zKh m zs 0 r) (zKE (zKh m zs 0 r) 0 zs.length) u zox zox .jd):=by
 have hf:=hF.full;have hz:=hF.two;have hA:=zB9 hf.qF hr len;have hP:=zPm hf hr (hF.srt r hr) (hF.few r hr);have hp:=hF.few r hr;have hzz:=hf.zd.z;generalize zKh m zs 0 r=ps at *;rw[zUa zMp rfl];have n2:((2:Nat):Int)=2:=rfl
 match zs,hz,hzz with
 |[],_,hzz =>
  refine⟨0,?_⟩;have Ah:m.qE=[]:=hzz;have h:=zLF 0 (njM m r len ps 0 .jd);rw[show zKE ps 0 ([]:List Zon).length=[] from rfl];simp only[zLk,njM,zKV,zMw,zLG,own,jC,zox,zh,zi,zf,zJ1,Ah,jh,jf,jk,jp,jg,kd,n2]at h hA hP;simp (maxSteps:=1000000) [zID,zJ3,jC,zox,zf,zh,zi,hA,hP,Ah,h,zJ1,own,zg,zX]
 |[z0],_,hzz =>
  have Ah:m.qE=[zdP z0]:=hzz;obtain⟨w,h1⟩:=nj2a m r len ps (by omega) 1 0 (by omega) (by omega);rw[show [z0].length=1 from rfl];by_cases c:0<=(zKn ps 0).entry
  ·refine⟨1,?_⟩;have e:=zLF 1 (zKV m r len ps (zKn ps 0) w);simp only[jg,c,if_true]at h1;rw[e]at h1;have hv:zKE ps 0 1=[zKn ps 0]:=by simp[zKE,c]
   rw[hv];clear hv e;generalize zKn ps 0=v at *;simp only[zLk,njM,zKV,zMw,zLG,own,jC,zox,zh,zi,zf,zJ1,Ah,jh,jf,jk,jp,jg,kd,n2]at h1 hA hP;simp (maxSteps:=1000000) [zID,zJ3,jC,zox,zf,zh,zi,hA,hP,Ah,h1,zJ1,own,zg,zX]
  ·refine⟨0,?_⟩;have e:=zLF 1 (njM m r len ps 0 .jd);simp only[jg,c,if_false]at h1;rw[e]at h1;have hv:zKE ps 0 1=[]:=by simp[zKE,c]
   rw[hv];clear hv e;simp only[zLk,njM,zKV,zMw,zLG,own,jC,zox,zh,zi,zf,zJ1,Ah,jh,jf,jk,jp,jg,kd,n2]at h1 hA hP;simp (maxSteps:=1000000) [zID,zJ3,jC,zox,zf,zh,zi,hA,hP,Ah,h1,zJ1,own,zg,zX]
 |[z0,z1],_,hzz =>
  have Ah:m.qE=[zdP z0,zdP z1]:=hzz;obtain⟨w,h1⟩:=nj2a m r len ps (by omega) 2 0 (by omega) (by omega);rw[show [z0,z1].length=2 from rfl];by_cases c:0<=(zKn ps 0).entry
  ·simp only[jg,c,if_true]at h1;obtain⟨w2,h2⟩:=nj2b m r len ps (zKn ps 0) w (by omega) 2 1 (by omega) (by omega);by_cases d:0<=(zKn ps 1).entry
   ·refine⟨2,?_⟩;have e:=zLF 2 (zMw m r len ps (zKn ps 0) (zKn ps 1) w w2);simp only[kd,d,if_true]at h2;rw[h2,e]at h1;have hv:zKE ps 0 2=[zKn ps 0,zKn ps 1]:=by simp[zKE,c,d]
    rw[hv];clear hv e h2;generalize zKn ps 0=v at *;generalize zKn ps 1=v1 at *;simp only[zLk,njM,zKV,zMw,zLG,own,jC,zox,zh,zi,zf,zJ1,Ah,jh,jf,jk,jp,jg,kd,n2]at h1 hA hP;simp (maxSteps:=1000000) [zID,zJ3,jC,zox,zf,zh,zi,hA,hP,Ah,h1,zJ1,own,zg,zX]
   ·refine⟨1,?_⟩;have e:=zLF 2 (zKV m r len ps (zKn ps 0) w++[bxv w2 10 (zJ1 (zKn ps 1))]);simp only[kd,d,if_false]at h2;rw[h2,e]at h1;have hv:zKE ps 0 2=[zKn ps 0]:=by simp[zKE,c,d]
    rw[hv];clear hv e h2;generalize zKn ps 0=v at *;generalize zKn ps 1=v1 at *;simp only[zLk,njM,zKV,zMw,zLG,own,jC,zox,zh,zi,zf,zJ1,Ah,jh,jf,jk,jp,jg,kd,n2]at h1 hA hP;simp (maxSteps:=1000000) [zID,zJ3,jC,zox,zf,zh,zi,hA,hP,Ah,h1,zJ1,own,zg,zX]
  ·simp only[jg,c,if_false]at h1;obtain⟨w2,h2⟩:=nj2a m r len ps (by omega) 2 1 (by omega) (by omega);by_cases d:0<=(zKn ps 1).entry
   ·refine⟨1,?_⟩;have e:=zLF 2 (zKV m r len ps (zKn ps 1) w2);simp only[kd,d,if_true]at h2;rw[h2,e]at h1;have hv:zKE ps 0 2=[zKn ps 1]:=by simp[zKE,c,d]
    rw[hv];clear hv e h2;generalize zKn ps 1=v1 at *;simp only[zLk,njM,zKV,zMw,zLG,own,jC,zox,zh,zi,zf,zJ1,Ah,jh,jf,jk,jp,jg,kd,n2]at h1 hA hP;simp (maxSteps:=1000000) [zID,zJ3,jC,zox,zf,zh,zi,hA,hP,Ah,h1,zJ1,own,zg,zX]
   ·refine⟨0,?_⟩;have e:=zLF 2 (njM m r len ps 0 .jd);simp only[kd,d,if_false]at h2;rw[h2,e]at h1;have hv:zKE ps 0 2=[]:=by simp[zKE,c,d]
    rw[hv];clear hv e h2;simp only[zLk,njM,zKV,zMw,zLG,own,jC,zox,zh,zi,zf,zJ1,Ah,jh,jf,jk,jp,jg,kd,n2]at h1 hA hP;simp (maxSteps:=1000000) [zID,zJ3,jC,zox,zf,zh,zi,hA,hP,Ah,h1,zJ1,own,zg,zX]
@[simp] theorem zOb(p:Swp):(swC p).length=4:=rfl
theorem zO6(l:List Pss)(hl:l.length<=100000000000)(fnv:Cl)(f:Pss->Bool)(M:Mem)(hc:∀p∈l,zx (R L Cs) ⟨true⟩ (.c fnv) [.a (zKF p)] M=some (.w (Bo (f p)),M,.no)) :
  ∃k:Int,R L Cs zLd [.c (.jb (zKd l)),.c fnv] M=some (.w (W k),M)/\(decide (0<=k)=l.any f):=by
 have htk:∀p:Pss,List.take (zKF p).length (zKF p)=zKF p:=fun p=>vM
 have h:=zxf (L:=L) (Cs:=Cs) (b:=zHw) (live:=some [7,1,0,8]) (n0:=M.length) l (fun i=>[(7,.w (W l.length)),(1,.w (.c fnv)),(0,.w (.c (.jb (zKd l)))),(8,.w (W i))]) M f (fun i=>(.ret,[(4,.w (W i))],M)) (.exit 0,[(9,.w (Bo false)),(0,.w (.c (.jb (zKd l)))),(1,.w (.c fnv)),(7,.w (W l.length)),(8,.w (W l.length))],M) ?_ ?_ ?_
 ·cases hq:l.findIdx? f with
  |none =>
   rw[hq]at h;refine⟨-1,?_,?_⟩
   ·simp only[jg]at h;rw[zUa zKB rfl];simp[zHI,h]
   ·rw[kh]at hq;have:l.any f=false:=by simpa using hq
    rw[this];decide
  |some k =>
   rw[hq]at h;refine⟨k,?_,?_⟩
   ·simp only[jg]at h;rw[zUa zKB rfl];simp[zHI,h]
   ·obtain⟨h1,h2,_⟩:=jQ.1 hq;have:l.any f=true:=kx.2 ⟨_,je h1,h2⟩;rw[this];simp
 ·intro i hi hp;have hw:=zB (i:=i) (by omega);have hcc:=hc l[i] (je hi);have ht:=htk l[i];simp only[zNu]at ht;rw[hp]at hcc;rw[zj zHw.eq_1];simp[hi,hw,hcc,ht,-zx]
 ·intro i hi hp;have hcc:=hc l[i] (je hi);have ht:=htk l[i];simp only[zNu]at ht;rw[hp]at hcc;rw[zj zHw.eq_1];simp[hi,hcc,ht,-zx]
 ·rw[zj zHw.eq_1];simp
theorem zOz(l:List Swp)(hl:l.length<=100000000000)(fnv:Cl)(f:Swp->Bool)(M:Mem)(hc:∀p∈l,zx (R L Cs) ⟨true⟩ (.c fnv) [.a (swC p)] M=some (.w (Bo (f p)),M,.no)) :
  ∃k:Int,R L Cs zLa [.c (.jb (zbf l)),.c fnv] M=some (.w (W k),M)/\(decide (0<=k)=l.any f):=by
 have htk:∀p:Swp,List.take (swC p).length (swC p)=swC p:=fun p=>vM
 have h:=zxf (L:=L) (Cs:=Cs) (b:=zHr) (live:=some [7,1,0,8]) (n0:=M.length) l (fun i=>[(7,.w (W l.length)),(1,.w (.c fnv)),(0,.w (.c (.jb (zbf l)))),(8,.w (W i))]) M f (fun i=>(.ret,[(4,.w (W i))],M)) (.exit 0,[(9,.w (Bo false)),(0,.w (.c (.jb (zbf l)))),(1,.w (.c fnv)),(7,.w (W l.length)),(8,.w (W l.length))],M) ?_ ?_ ?_
 ·cases hq:l.findIdx? f with
  |none =>
   rw[hq]at h;refine⟨-1,?_,?_⟩
   ·simp only[jg]at h;rw[zUa zKy rfl];simp[zHG,h]
   ·rw[kh]at hq;have:l.any f=false:=by simpa using hq
    rw[this];decide
  |some k =>
   rw[hq]at h;refine⟨k,?_,?_⟩
   ·simp only[jg]at h;rw[zUa zKy rfl];simp[zHG,h]
   ·obtain⟨h1,h2,_⟩:=jQ.1 hq;have:l.any f=true:=kx.2 ⟨_,je h1,h2⟩;rw[this];simp
 ·intro i hi hp;have hw:=zB (i:=i) (by omega);have hcc:=hc l[i] (je hi);have ht:=htk l[i];simp only[zOb]at ht;rw[hp]at hcc;rw[zj zHr.eq_1];simp[hi,hw,hcc,ht,-zx]
 ·intro i hi hp;have hcc:=hc l[i] (je hi);have ht:=htk l[i];simp only[zOb]at ht;rw[hp]at hcc;rw[zj zHr.eq_1];simp[hi,hcc,ht,-zx]
 ·rw[zj zHr.eq_1];simp
theorem zOy(l:List Vis)(hl:l.length<=100000000000)(fnv:Cl)(f:Vis->Bool)(M:Mem)(hc:∀p∈l,zx (R L Cs) ⟨true⟩ (.c fnv) [.a (zJ1 p)] M=some (.w (Bo (f p)),M,.no)) :
  ∃k:Int,R L Cs zKm [.c (.jb (zKt l)),.c fnv] M=some (.w (W k),M)/\(decide (0<=k)=l.any f):=by
 have htk:∀p:Vis,List.take (zJ1 p).length (zJ1 p)=zJ1 p:=fun p=>vM
 have h:=zxf (L:=L) (Cs:=Cs) (b:=zHq) (live:=some [7,1,0,8]) (n0:=M.length) l (fun i=>[(7,.w (W l.length)),(1,.w (.c fnv)),(0,.w (.c (.jb (zKt l)))),(8,.w (W i))]) M f (fun i=>(.ret,[(4,.w (W i))],M)) (.exit 0,[(9,.w (Bo false)),(0,.w (.c (.jb (zKt l)))),(1,.w (.c fnv)),(7,.w (W l.length)),(8,.w (W l.length))],M) ?_ ?_ ?_
 ·cases hq:l.findIdx? f with
  |none =>
   rw[hq]at h;refine⟨-1,?_,?_⟩
   ·simp only[jg]at h;rw[zUa zKb rfl];simp[zHF,h]
   ·rw[kh]at hq;have:l.any f=false:=by simpa using hq
    rw[this];decide
  |some k =>
   rw[hq]at h;refine⟨k,?_,?_⟩
   ·simp only[jg]at h;rw[zUa zKb rfl];simp[zHF,h]
   ·obtain⟨h1,h2,_⟩:=jQ.1 hq;have:l.any f=true:=kx.2 ⟨_,je h1,h2⟩;rw[this];simp
 ·intro i hi hp;have hw:=zB (i:=i) (by omega);have hcc:=hc l[i] (je hi);have ht:=htk l[i];simp only[zNp]at ht;rw[hp]at hcc;rw[zj zHq.eq_1];simp[hi,hw,hcc,ht,-zx]
 ·intro i hi hp;have hcc:=hc l[i] (je hi);have ht:=htk l[i];simp only[zNp]at ht;rw[hp]at hcc;rw[zj zHq.eq_1];simp[hi,hcc,ht,-zx]
 ·rw[zj zHq.eq_1];simp
abbrev juM(m:zD)(r:List Int)(len:Int)(ps:List Pss)(vs:List Vis)(u:Nat)(was now:zci)(sw:List Swp):Mem:=zJ3 m r len ps vs u (zG was) (zG now) (.jb (zbf sw))
abbrev J0:WV:=.c (.ptr 0 0 0 0)
def onW(m:zD)(r:List Int)(now:zci):Int:=if zmd m 0 r<now.ego.shi then 3 else 0
theorem zNc(m:zD)(r:List Int)(len:Int)(ps:List Pss)(vs:List Vis)(u:Nat)(was now:zci)(sw:List Swp) :
  R L Cs zJ6 [J0] (juM m r len ps vs u was now sw)=some (.w (W (onW m r now)),juM m r len ps vs u was now sw):=by
 rw[zUa zLu rfl];unfold onW;by_cases hv:vs=[]<;>by_cases c:zmd m 0 r<now.ego.shi<;>simp[zHV,juM,zJ3,hv,jC,zh,zi,zf,zG,c,zg,zH,own]
def zMt(m:zD)(r:List Int)(now:zci):Int:=if max (zNU m now.ego.slo now.ego.shi now.tick 0 (-1) r) 0<now.ego.vhi then 2 else 0
theorem zPf{m:zD}(h:zcp m)(hwk:m.kE.length<=1000)(r:List Int)(hl:r.length<=1000)(hon:zj2 m r)(len:Int)(ps:List Pss)(vs:List Vis)(u:Nat)(was now:zci)(hn:0<=now.ego.slo/\now.ego.slo<=10000000000/\0<=now.ego.shi/\now.ego.shi<=10000000000)(sw:List Swp) :
  R L Cs zKc [J0] (juM m r len ps vs u was now sw)=some (.w (W (zMt m r now)),juM m r len ps vs u was now sw):=by
 have hL:=zPh h hwk r hl hon len now.ego.slo now.ego.shi now.tick (by omega) (by omega);rw[zUa zL2 rfl];unfold zMt;generalize max (zNU m now.ego.slo now.ego.shi now.tick 0 (-1) r) 0=q at *;simp only[zh,zi,jh,jf]at hL;by_cases hv:vs=[]<;>by_cases c:q<now.ego.vhi<;>simp[zIk,juM,zJ3,hv,jC,zh,zi,zf,zG,hL,c,zg,zH,own]
structure zPI(m:zD)(s:Swp):Prop where
 lane:0<=s.lane/\s.lane<m.jc.length
 lo:0<=s.lo/\s.lo<=1000000
 hi:0<=s.hi/\s.hi<=1000000
def apP(m:zD)(r:List Int)(shi:Int)(s:Swp):Bool:=match zgo r s.lane with
 |some i=>!s.cap&&decide (ki m r i+s.lo<=shi)
 |none=>false
def zMF(m:zD)(r:List Int)(now:zci)(sw:List Swp):Int:=if now.ego.vhi=0 then 0 else if sw.any (apP m r now.ego.shi) then 4 else 0
abbrev apE(sw:List Swp)(i:Nat):Env:=[(17,.w (W sw.length)),(16,.w (.c (.jb (zbf sw)))),(0,.w J0),(18,.w (W i))]
theorem zNY{m:zD}(h:zcp m)(r:List Int)(hl:r.length<=8)(hon:zj2 m r)(len:Int)(ps:List Pss)(vs:List Vis)(u:Nat)(was now:zci)(sw:List Swp)(hs:sw.length<=100000000000)(hok:∀s∈sw,zPI m s)(n0:Nat)(hn0:n0=(juM m r len ps vs u was now sw).length) :
  (sw.any (apP m r now.ego.shi)=true->∃s,Y L Cs zHR (some [17,16,0,18]) n0 (apE sw 0) (juM m r len ps vs u was now sw)=some (.ret,[(2,.w (W 4))],juM m r len ps vs u was now sw++[bxv 1 4 (swC s)])) /\
  (sw.any (apP m r now.ego.shi)=false->Y L Cs zHR (some [17,16,0,18]) n0 (apE sw 0) (juM m r len ps vs u was now sw)=some (.exit 0,[(19,.w (Bo false)),(0,.w J0),(16,.w (.c (.jb (zbf sw)))),(17,.w (W sw.length)),(18,.w (W sw.length))],juM m r len ps vs u was now sw)):=by
 subst hn0;have hly:ziO m r 0:=⟨h,hl,hon,by omega⟩;have key:=zxf (L:=L) (Cs:=Cs) (b:=zHR) (live:=some [17,16,0,18]) (n0:=(juM m r len ps vs u was now sw).length) sw (fun i=>apE sw i) (juM m r len ps vs u was now sw) (apP m r now.ego.shi) (fun i=>(.ret,[(2,.w (W 4))],juM m r len ps vs u was now sw++[bxv 1 4 (swC (sw.getD i zpa))])) (.exit 0,[(19,.w (Bo false)),(0,.w J0),(16,.w (.c (.jb (zbf sw)))),(17,.w (W sw.length)),(18,.w (W sw.length))],juM m r len ps vs u was now sw) ?_ ?_ ?_
 ·rw[key];cases hq:sw.findIdx? (apP m r now.ego.shi)with
  |none =>
   rw[kh]at hq;have:sw.any (apP m r now.ego.shi)=false:=by simpa using hq
   rw[this];exact⟨fun h=>(by cases h),fun _=>rfl⟩
  |some k =>
   obtain⟨h1,h2,_⟩:=jQ.1 hq;have:sw.any (apP m r now.ego.shi)=true:=kx.2 ⟨_,je h1,h2⟩;rw[this];exact⟨fun _=>⟨_,rfl⟩,fun h=>(by cases h)⟩
 ·intro i hi hp;have hw:=zB (i:=i) (by omega);have hx:=zoq r sw[i].lane (by omega);have hso:=hok sw[i] (je hi);generalize hsi:sw[i]=s at *;unfold apP at hp;rw[zj zHR.eq_1];cases hL:zgo r s.lane with
  |none =>
   rw[hL]at hx;simp only[zbe]at hx;by_cases hv:vs=[]<;>simp[apE,juM,zJ3,hv,jC,zh,zi,zf,zG,swC,hi,hsi,hw,hx,zg,zH,own]
  |some j =>
   obtain⟨hjl,_⟩:=zfT hL;have hsl:j<(zW m 0 r).length:=by rw[zcO];exact hjl
   have hst:(zW m 0 r)[j]=ki m r j:=by simp[ki,hsl]
   have hsb:=zmA hly hjl;have hlo:=hso.lo;have w2:=kg (ki m r j+s.lo);have hj0:(0:Int)<=(j:Int):=by omega
   rw[hL]at hx hp;simp only[zbe]at hx;cases hc:s.cap with
   |true=>by_cases hv:vs=[]<;>simp[apE,juM,zJ3,hv,jC,zh,zi,zf,zG,swC,hi,hsi,hw,hx,hc,hj0,zg,zH,own]
   |false =>
    simp only[hc,Aa,uO,decide_eq_false_iff_not]at hp;by_cases hv:vs=[]<;>simp[apE,juM,zJ3,hv,jC,zh,zi,zf,zG,swC,hi,hsi,hw,hx,hc,hj0,hsl,hst,w2,hp,zg,zH,own]
 ·intro i hi hp;have hx:=zoq r sw[i].lane (by omega);have hso:=hok sw[i] (je hi);have hgd:sw.getD i zpa=sw[i]:=by simp[jm,hi]
  rw[hgd];clear hgd;generalize hsi:sw[i]=s at *;unfold apP at hp;rw[zj zHR.eq_1];cases hL:zgo r s.lane with
  |none=>rw[hL]at hp;cases hp
  |some j =>
   obtain⟨hjl,_⟩:=zfT hL;have hsl:j<(zW m 0 r).length:=by rw[zcO];exact hjl
   have hst:(zW m 0 r)[j]=ki m r j:=by simp[ki,hsl]
   have hsb:=zmA hly hjl;have hlo:=hso.lo;have w2:=kg (ki m r j+s.lo);have hj0:(0:Int)<=(j:Int):=by omega
   rw[hL]at hx hp;simp only[zbe]at hx;simp only[jl,kK,decide_eq_true_eq]at hp;by_cases hv:vs=[]<;>simp[apE,juM,zJ3,hv,jC,zh,zi,zf,zG,swC,hi,hsi,hx,hp.1,hj0,hsl,hst,w2,hp.2,zg,zH,own]
 ·rw[zj zHR.eq_1];by_cases hv:vs=[]<;>simp[apE,juM,zJ3,hv]
theorem zOh{m:zD}(h:zcp m)(r:List Int)(hl:r.length<=8)(hon:zj2 m r)(len:Int)(ps:List Pss)(vs:List Vis)(u:Nat)(was now:zci)(sw:List Swp)(hs:sw.length<=100000000000)(hok:∀s∈sw,zPI m s) :
  R L Cs zJ9 [J0] (juM m r len ps vs u was now sw)=some (.w (W (zMF m r now sw)),juM m r len ps vs u was now sw):=by
 obtain⟨g1,g2⟩:=zNY h r hl hon len ps vs u was now sw hs hok _ rfl;rw[zUa zLM rfl];unfold zMF;by_cases c:now.ego.vhi=0
 ·have cb:(now.ego.vhi==0)=true:=by simp[c]
  by_cases hv:vs=[]<;>simp[zIa,juM,zJ3,hv,jC,zh,zi,zf,zG,c,cb,zg,zH,own]
 ·have cb:(now.ego.vhi==0)=false:=by simp[c]
  cases hq:sw.any (apP m r now.ego.shi)with
  |true =>
   obtain⟨s,g⟩:=g1 hq;clear g1 g2;by_cases hv:vs=[]
   ·simp only[apE,juM,zJ3,hv,jC,zh,zi,zf,zG,swC,if_true,jh,jf,jg,jk,jp]at g;simp[zIa,juM,zJ3,hv,jC,zh,zi,zf,zG,swC,c,cb,g,zg,zH,own]
   ·simp only[apE,juM,zJ3,hv,jC,zh,zi,zf,zG,swC,own,zJZ,if_false,jh,jf,jg,jk,jp]at g;simp[zIa,juM,zJ3,hv,jC,zh,zi,zf,zG,swC,c,cb,g,zg,zH,own]
  |false =>
   have g:=g2 hq;clear g1 g2;by_cases hv:vs=[]
   ·simp only[apE,juM,zJ3,hv,jC,zh,zi,zf,zG,if_true,jh,jf,jg,jk,jp]at g;simp[zIa,juM,zJ3,hv,jC,zh,zi,zf,zG,c,cb,g,zg,zH,own]
   ·simp only[apE,juM,zJ3,hv,jC,zh,zi,zf,zG,own,zJZ,if_false,jh,jf,jg,jk,jp]at g;simp[zIa,juM,zJ3,hv,jC,zh,zi,zf,zG,c,cb,g,zg,zH,own]
def inS(p:Prt)(s:Swp):Bool:=!s.cap&&decide (s.lane=p.lane)&&decide (s.lo<=p.hi)&&decide (p.lo<=s.hi)
theorem zOH(p:Prt)(s:Swp):R L Cs zKG [.a (swC s),.c (.ptr 0 0 0 0)] [bxv 1 4 (zeB p)]=some (.w (Bo (inS p s)),[bxv 1 4 (zeB p)]):=by
 rw[zUa zLt rfl];unfold inS;cases hc:s.cap with
 |true=>simp[zHU,swC,zeB,hc,zg,zH]
 |false =>
  by_cases c1:s.lane=p.lane
  ·have b1:(s.lane==p.lane)=true:=by simp[c1]
   by_cases c2:s.lo<=p.hi<;>by_cases c3:p.lo<=s.hi<;>simp[zHU,swC,zeB,hc,c1,b1,c2,c3,zg,zH]
  ·have b1:(s.lane==p.lane)=false:=by simp[c1]
   simp[zHU,swC,zeB,hc,c1,b1,zg,zH]
abbrev zPL:Cl:=.fn zKG [] [.ptr 0 0 0 0]
theorem zNk(p:Prt)(sw:List Swp)(hs:sw.length<=100000000000):R L Cs zKR [.c (.jb (zbf sw)),.c zPL] [bxv 1 4 (zeB p)]=some (.w (Bo (sw.any (inS p))),[bxv 1 4 (zeB p)]):=by
 obtain⟨k,h1,h2⟩:=zOz sw hs zPL (inS p) [bxv 1 4 (zeB p)] (fun s _=>by
  have h:=zOH p s;simp only[zeB,swC]at h;simp[h,zeB,swC])
 rw[zUa zKU rfl];simp only[zeB]at h1;simp[zHt,h1,h2,zeB]
def zNK(sw:List Swp)(entry:Int):Nat->List Prt->Bool
 |_,[]=>false
 |i,p::r=>(decide ((i:Int)≠entry)&&sw.any (inS p))||zNK sw entry (i+1) r
abbrev tkM(m:zD)(r:List Int)(len:Int)(ps:List Pss)(vs:List Vis)(u:Nat)(was now:zci)(sw:List Swp)(v:Vis):Mem:=juM m r len ps vs u was now sw++[bx 10 (zJ1 v)]
abbrev tkE(n:Nat)(q:Zon)(i:Nat):Env:=[(19,.w (W q.parts.length)),(18,.w (.c (.jb (zkl q.parts)))),(3,.w (Pt n)),(0,.w J0),(20,.w (W i))]
theorem zNJ(m:zD)(r:List Int)(len:Int)(ps:List Pss)(vs:List Vis)(u:Nat)(was now:zci)(sw:List Swp)(hs:sw.length<=100000000000)(v:Vis)(q:Zon)(hq:q.parts.length<=6)(n:Nat)(hn:n=(juM m r len ps vs u was now sw).length):∀(t:List Prt) (i:Nat),q.parts.drop i=t->i<=q.parts.length ->
  (zNK sw v.entry i t=true->∃X,Y L Cs zHP (some [19,18,3,0,20]) (n+1) (tkE n q i) (tkM m r len ps vs u was now sw v)=some (.ret,[(4,.w (Bo true))],tkM m r len ps vs u was now sw v++[bxv 1 4 (zeB X)])) /\
  (zNK sw v.entry i t=false->Y L Cs zHP (some [19,18,3,0,20]) (n+1) (tkE n q i) (tkM m r len ps vs u was now sw v)=some (.exit 0,[(21,.w (Bo false)),(0,.w J0),(3,.w (Pt n)),(18,.w (.c (.jb (zkl q.parts)))),(19,.w (W q.parts.length)),(20,.w (W q.parts.length))],tkM m r len ps vs u was now sw v)):=by
 intro t;induction t with
 |nil =>
  intro i hd hi;obtain rfl:=zUb hd hi;refine⟨fun h=>(by cases h),fun _=>?_⟩;subst hn;rw[zj zHP.eq_1];by_cases hv:vs=[]<;>simp[tkE,tkM,juM,zJ3,hv]
 |cons p t ih =>
  intro i hd hi;obtain⟨hil,hp,hd'⟩:=zL hd;have hw:=zB (i:=i) (by omega);obtain⟨i1,i2⟩:=ih (i+1) hd' hil;have hC:=zNk p sw hs;have hnn:n=if vs=[] then 1 else 2:=by
   rw[hn];unfold juM zJ3;split<;>rfl
  have step:(decide ((i:Int)≠v.entry)&&sw.any (inS p))=false->Y L Cs zHP (some [19,18,3,0,20]) (n+1) (tkE n q i) (tkM m r len ps vs u was now sw v)=Y L Cs zHP (some [19,18,3,0,20]) (n+1) (tkE n q (i+1)) (tkM m r len ps vs u was now sw v):=by
   intro hf;clear i1 i2 ih;simp only[zeB]at hC;rw[zj zHP.eq_1];by_cases c:(i:Int)=v.entry
   ·have cb:((i:Int)==v.entry)=true:=by simp[c]
    have cb':((i:Int) !=v.entry)=false:=by simp[c]
    by_cases hv:vs=[]
    ·rw[if_pos hv]at hnn;subst hnn;simp[tkE,tkM,juM,zJ3,hv,jC,zh,zi,zf,zG,zJ1,zeB,hil,hp,hw,cb',zg,zH,own]
    ·rw[if_neg hv]at hnn;subst hnn;simp[tkE,tkM,juM,zJ3,hv,jC,zh,zi,zf,zG,zJ1,zeB,hil,hp,hw,cb',zg,zH,own]
   ·have cb':((i:Int) !=v.entry)=true:=by simp[c]
    have hf':sw.any (inS p)=false:=by simpa [c]using hf
    rw[hf']at hC;by_cases hv:vs=[]
    ·rw[if_pos hv]at hnn;subst hnn;simp[tkE,tkM,juM,zJ3,hv,jC,zh,zi,zf,zG,zJ1,zeB,hil,hp,hw,cb',hC,zg,zH,own]
    ·rw[if_neg hv]at hnn;subst hnn;simp[tkE,tkM,juM,zJ3,hv,jC,zh,zi,zf,zG,zJ1,zeB,hil,hp,hw,cb',hC,zg,zH,own]
  have hit:(decide ((i:Int)≠v.entry)&&sw.any (inS p))=true->Y L Cs zHP (some [19,18,3,0,20]) (n+1) (tkE n q i) (tkM m r len ps vs u was now sw v)=some (.ret,[(4,.w (Bo true))],tkM m r len ps vs u was now sw v++[bxv 1 4 (zeB p)]):=by
   intro hf;clear i1 i2 ih step;simp only[jl,decide_eq_true_eq]at hf;have cb':((i:Int) !=v.entry)=true:=by simp[hf.1]
   rw[hf.2]at hC;simp only[zeB]at hC;rw[zj zHP.eq_1];by_cases hv:vs=[]
   ·rw[if_pos hv]at hnn;subst hnn;simp[tkE,tkM,juM,zJ3,hv,jC,zh,zi,zf,zG,zJ1,zeB,hil,hp,hw,cb',hC,zg,zH,own]
   ·rw[if_neg hv]at hnn;subst hnn;simp[tkE,tkM,juM,zJ3,hv,jC,zh,zi,zf,zG,zJ1,zeB,hil,hp,hw,cb',hC,zg,zH,own]
  unfold zNK;cases hb:(decide ((i:Int)≠v.entry)&&sw.any (inS p))with
  |true=>exact⟨fun _=>⟨p,hit hb⟩,fun h=>by simp at h⟩
  |false =>
   rw[step hb,k8];exact⟨i1,i2⟩
def zMh(zs:List Zon)(z:Int):List Prt:=((zs[z.toNat]?).map Zon.parts).getD []
structure zKN(zs:List Zon)(v:Vis):Prop where
 z:0<=v.kD/\v.kD<zs.length
 few:(zMh zs v.kD).length<=6
 en:0<=v.entry/\v.entry<(zMh zs v.kD).length
def zNf(zs:List Zon)(sw:List Swp)(v:Vis):Bool:=zNK sw v.entry 0 (zMh zs v.kD)
theorem zPJ{m:zD}{zs:List Zon}(hz:m.qE=zk8 zs)(r:List Int)(len:Int)(ps:List Pss)(vs:List Vis)(u:Nat)(was now:zci)(sw:List Swp)(hs:sw.length<=100000000000)(v:Vis)(hv:zKN zs v) :
  R L Cs zLI [J0,.a (zJ1 v)] (juM m r len ps vs u was now sw)=some (.w (Bo (zNf zs sw v)),juM m r len ps vs u was now sw):=by
 obtain⟨z,hzz⟩:=js hv.z.1;have hzl:z<zs.length:=by have:=hv.z.2;omega
 have hzi:(z:Int)<zs.length:=by omega
 have hzp:zMh zs v.kD=zs[z].parts:=by rw[hzz];simp[zMh,hzl]
 have hq:=hv.few;rw[hzp]at hq;unfold zNf;rw[hzp];have key:∀n,n=(juM m r len ps vs u was now sw).length->_:=fun n hn=>zNJ m r len ps vs u was now sw hs v zs[z] hq n hn zs[z].parts 0 rfl (jt _)
 rw[zUa zLL rfl];by_cases h0:vs=[]
 ·obtain⟨g1,g2⟩:=key 1 (by simp[juM,zJ3,h0]);cases hb:zNK sw v.entry 0 zs[z].parts with
  |true =>
   obtain⟨X,g⟩:=g1 hb;clear g1 g2 key;simp only[tkE,tkM,juM,zJ3,h0,jC,zh,zi,zf,zG,zJ1,zeB,hzz,hz,if_true,jh,jf,jg]at g;simp[zH9,juM,zJ3,h0,jC,zh,zi,zf,zG,zJ1,zeB,zdP,hz,hzz,hzl,hzi,g,zg,zH,own]
  |false =>
   have g:=g2 hb;clear g1 g2 key;simp only[tkE,tkM,juM,zJ3,h0,jC,zh,zi,zf,zG,zJ1,zeB,hzz,hz,if_true,jh,jf,jg]at g;simp[zH9,juM,zJ3,h0,jC,zh,zi,zf,zG,zJ1,zeB,zdP,hz,hzz,hzl,hzi,g,zg,zH,own]
 ·obtain⟨g1,g2⟩:=key 2 (by simp[juM,zJ3,h0]);cases hb:zNK sw v.entry 0 zs[z].parts with
  |true =>
   obtain⟨X,g⟩:=g1 hb;clear g1 g2 key;simp only[tkE,tkM,juM,zJ3,h0,jC,zh,zi,zf,zG,zJ1,zeB,hzz,hz,own,zJZ,if_false,jh,jf,jg]at g;simp[zH9,juM,zJ3,h0,jC,zh,zi,zf,zG,zJ1,zeB,zdP,hz,hzz,hzl,hzi,g,zg,zH,own]
  |false =>
   have g:=g2 hb;clear g1 g2 key;simp only[tkE,tkM,juM,zJ3,h0,jC,zh,zi,zf,zG,zJ1,zeB,hzz,hz,own,zJZ,if_false,jh,jf,jg]at g;simp[zH9,juM,zJ3,h0,jC,zh,zi,zf,zG,zJ1,zeB,zdP,hz,hzz,hzl,hzi,g,zg,zH,own]
def zM4(z high low:Int)(p:Pss):Bool:=decide (p.kD=z)&&decide (p.lo<=high)&&decide (low<=p.hi)
abbrev alM(v:Vis)(high low:Int):Mem:=[bxv 1 10 (zJ1 v),bxv 1 1 [I high],bxv 1 1 [I low]]
abbrev zQB:Cl:=.fn zKH [] [.ptr 0 0 0 0,.ptr 1 0 0 0,.ptr 2 0 0 0]
theorem zOL(v:Vis)(high low:Int)(p:Pss):R L Cs zKH [.a (zKF p),.c (.ptr 0 0 0 0),.c (.ptr 1 0 0 0),.c (.ptr 2 0 0 0)] (alM v high low)=some (.w (Bo (zM4 v.kD high low p)),alM v high low):=by
 rw[zUa zLv rfl];unfold zM4;by_cases c1:p.kD=v.kD
 ·have b1:(p.kD==v.kD)=true:=by simp[c1]
  by_cases c2:p.lo<=high<;>by_cases c3:low<=p.hi<;>simp[zHX,zJ1,zKF,c1,b1,c2,c3,zg,zH]
 ·have b1:(p.kD==v.kD)=false:=by simp[c1]
  simp[zHX,zJ1,zKF,c1,b1,zg,zH]
theorem zNl(v:Vis)(high low:Int)(ps:List Pss)(hs:ps.length<=100000000000):R L Cs zKY [.c (.jb (zKd ps)),.c zQB] (alM v high low)=some (.w (Bo (ps.any (zM4 v.kD high low))),alM v high low):=by
 obtain⟨k,h1,h2⟩:=zO6 ps hs zQB (zM4 v.kD high low) (alM v high low) (fun p _=>by
  have h:=zOL v high low p;simp only[alM,zKF,zJ1]at h;simp[h,alM,zKF,zJ1])
 rw[zUa zK2 rfl];simp only[alM,zJ1]at h1;simp[zHz,h1,h2,alM,zJ1]
def alP(zs:List Zon)(ps:List Pss)(sw:List Swp)(high low:Int)(v:Vis):Bool:=ps.any (zM4 v.kD high low)&&zNf zs sw v
abbrev aoM(m:zD)(r:List Int)(len:Int)(ps:List Pss)(vs:List Vis)(u:Nat)(was now:zci)(sw:List Swp)(low high:Int):Mem:=[bxv u 26 (jC m r len ps (.slice 1 vs.length 10 0 vs.length none) (zG was) (zG now) (.jb (zbf sw))),some (own 10 (zKt vs)),bxv 1 1 [I low],bxv 1 1 [I high]]
abbrev aoE(vs:List Vis)(i:Nat):Env:=[(30,.w (W vs.length)),(29,.w (.c (.slice 1 vs.length 10 0 vs.length none))),(3,.w (Pt 2)),(4,.w (Pt 3)),(0,.w J0),(31,.w (W i))]
theorem zNZ{m:zD}{zs:List Zon}(hz:m.qE=zk8 zs)(r:List Int)(len:Int)(ps:List Pss)(hp:ps.length<=1000)(vs:List Vis)(hv0:vs≠[])(hvl:vs.length<=100)(hvo:∀v∈vs,zKN zs v)(u:Nat)(was now:zci)(sw:List Swp)(hs:sw.length<=100000000000)(low high:Int):∀(t:List Vis) (i:Nat),vs.drop i=t->i<=vs.length ->
  (t.any (alP zs ps sw high low)=true->∃X,Y L Cs zHS (some [30,29,3,4,0,31]) 4 (aoE vs i) (aoM m r len ps vs u was now sw low high)=some (.ret,[(2,.w (W 5))],aoM m r len ps vs u was now sw low high++[bxv 1 10 (zJ1 X)])) /\
  (t.any (alP zs ps sw high low)=false->Y L Cs zHS (some [30,29,3,4,0,31]) 4 (aoE vs i) (aoM m r len ps vs u was now sw low high)=some (.exit 0,[(32,.w (Bo false)),(0,.w J0),(4,.w (Pt 3)),(3,.w (Pt 2)),(29,.w (.c (.slice 1 vs.length 10 0 vs.length none))),(30,.w (W vs.length)),(31,.w (W vs.length))],aoM m r len ps vs u was now sw low high)):=by
 intro t;induction t with
 |nil =>
  intro i hd hi;obtain rfl:=zUb hd hi;refine⟨fun h=>(by cases h),fun _=>?_⟩;rw[zj zHS.eq_1];simp[aoE,aoM]
 |cons v t ih =>
  intro i hd hi;obtain⟨hil,hx,hd'⟩:=zL hd;have hw:=zB (i:=i) (by omega);obtain⟨i1,i2⟩:=ih (i+1) hd' hil;have hC:=zNl v high low ps (by omega);have hT:=zPJ hz r len ps vs u was now sw hs v (hvo v (by rw[<-hx];exact je hil));simp only[alM,zJ1,juM,zJ3,hv0,jC,zh,zi,zf,zG,own,zJZ,if_false,jh,jf]at hC hT;have step:alP zs ps sw high low v=false->Y L Cs zHS (some [30,29,3,4,0,31]) 4 (aoE vs i) (aoM m r len ps vs u was now sw low high)=Y L Cs zHS (some [30,29,3,4,0,31]) 4 (aoE vs (i+1)) (aoM m r len ps vs u was now sw low high):=by
   intro hf;clear i1 i2 ih;unfold alP at hf;rw[zj zHS.eq_1];cases hc:ps.any (zM4 v.kD high low)with
   |false =>
    rw[hc]at hC;simp[aoE,aoM,jC,zh,zi,zf,zG,zJ1,hil,hx,hw,hC,zg,zH,own]
   |true =>
    have ht:zNf zs sw v=false:=by simpa [hc]using hf
    rw[hc]at hC;rw[ht]at hT;simp[aoE,aoM,jC,zh,zi,zf,zG,zJ1,hil,hx,hw,hC,hT,zg,zH,own]
  have hit:alP zs ps sw high low v=true->Y L Cs zHS (some [30,29,3,4,0,31]) 4 (aoE vs i) (aoM m r len ps vs u was now sw low high)=some (.ret,[(2,.w (W 5))],aoM m r len ps vs u was now sw low high++[bxv 1 10 (zJ1 v)]):=by
   intro hf;clear i1 i2 ih step;unfold alP at hf;rw[jl]at hf;rw[hf.1]at hC;rw[hf.2]at hT;rw[zj zHS.eq_1];simp[aoE,aoM,jC,zh,zi,zf,zG,zJ1,hil,hx,hw,hC,hT,zg,zH,own]
  rw[uN];cases hb:alP zs ps sw high low v with
  |true=>exact⟨fun _=>⟨v,hit hb⟩,fun h=>by simp at h⟩
  |false =>
   rw[step hb,k8];exact⟨i1,i2⟩
def zMG(zs:List Zon)(len:Int)(ps:List Pss)(vs:List Vis)(was now:zci)(sw:List Swp):Int:=if vs.any (alP zs ps sw now.ego.shi (was.ego.slo-len)) then 5 else 0
theorem zOi{m:zD}{zs:List Zon}(hz:m.qE=zk8 zs)(r:List Int)(len:Int)(hlen:0<=len/\len<=100000)(ps:List Pss)(hp:ps.length<=1000)(vs:List Vis)(hvl:vs.length<=100)(hvo:∀v∈vs,zKN zs v)(u:Nat)(was now:zci)(hws:0<=was.ego.slo/\was.ego.slo<=1000000000000000)(sw:List Swp)(hs:sw.length<=100000000000) :
  R L Cs zKa [J0] (juM m r len ps vs u was now sw)=some (.w (W (zMG zs len ps vs was now sw)),juM m r len ps vs u was now sw):=by
 have w1:=kg (was.ego.slo-len);unfold zMG;by_cases h0:vs=[]
 ·subst h0;have g:∀E M,Y L Cs zHS (some [30,29,3,4,0,31]) 3 [(30,.w (W 0)),(29,E),(3,.w (Pt 1)),(4,.w (Pt 2)),(0,.w J0),(31,.w (W 0))] M=some (.exit 0,[(32,.w (Bo false)),(0,.w J0),(4,.w (Pt 2)),(3,.w (Pt 1)),(29,E),(30,.w (W 0)),(31,.w (W 0))],M):=by
   intro E M;rw[zj zHS.eq_1];simp
  rw[zUa zK3 rfl];simp[zIb,juM,zJ3,jC,zh,zi,zf,zG,g,w1,zg,zH,own]
 ·obtain⟨g1,g2⟩:=zNZ hz r len ps hp vs h0 hvl hvo u was now sw hs (was.ego.slo-len) now.ego.shi vs 0 rfl (jt _);rw[zUa zK3 rfl];cases hb:vs.any (alP zs ps sw now.ego.shi (was.ego.slo-len))with
  |true =>
   obtain⟨X,g⟩:=g1 hb;clear g1 g2;simp only[aoE,aoM,jC,zh,zi,zf,zG,zJ1,own,zJZ,jh,jf,jg]at g;simp[zIb,juM,zJ3,h0,jC,zh,zi,zf,zG,zJ1,g,w1,zg,zH,own]
  |false =>
   have g:=g2 hb;clear g1 g2;simp only[aoE,aoM,jC,zh,zi,zf,zG,zJ1,own,zJZ,jh,jf,jg]at g;simp[zIb,juM,zJ3,h0,jC,zh,zi,zf,zG,zJ1,g,w1,zg,zH,own]
def zPp(zs:List Zon)(z:Int):Int:=((zs[z.toNat]?).map Zon.qc).getD 0
def zPX(zs:List Zon)(z e:Int):Int:=(((zMh zs z)[e.toNat]?).map Prt.lane).getD 0
def zP0(zs:List Zon)(ss:List Sgn)(v:Vis)(tick:Int):Bool:=zfA (ss.getD (zPp zs v.kD-1).toNat ztn) (zPX zs v.kD v.entry) tick
def zP1(zs:List Zon)(shi slo:Int)(v:Vis):Bool:=decide (0<zPp zs v.kD)&&decide (v.first.lo<=shi)&&decide (slo<v.first.lo)
def zNj(zs:List Zon)(ss:List Sgn)(shi slo tick:Int)(v:Vis):Bool:=zP1 zs shi slo v && !zP0 zs ss v tick
abbrev awM(m:zD)(r:List Int)(len:Int)(ps:List Pss)(vs:List Vis)(u:Nat)(was now:zci)(sw:List Swp):Mem:=[bxv u 26 (jC m r len ps (.slice 1 vs.length 10 0 vs.length none) (zG was) (zG now) (.jb (zbf sw))),some (own 10 (zKt vs))]
abbrev awE(vs:List Vis)(i:Nat):Env:=[(11,.w (W vs.length)),(10,.w (.c (.slice 1 vs.length 10 0 vs.length none))),(0,.w J0),(12,.w (W i))]
theorem zN0{m:zD}{zs:List Zon}{ss:List Sgn}(hf:zmq m zs ss)(r:List Int)(len:Int)(ps:List Pss)(vs:List Vis)(hv0:vs≠[])(hvl:vs.length<=100)(hvo:∀v∈vs,zKN zs v)(u:Nat)(was now:zci)(sw:List Swp):∀(t:List Vis) (i:Nat),vs.drop i=t->i<=vs.length ->
  (t.any (zNj zs ss now.ego.shi was.ego.slo was.tick)=true->∃X Z,Y L Cs zHL (some [11,10,0,12]) 2 (awE vs i) (awM m r len ps vs u was now sw)=some (.ret,[(2,.w (W 6))],awM m r len ps vs u was now sw++[bxv 1 10 (zJ1 X),bxv 1 2 (zdP Z)])) /\
  (t.any (zNj zs ss now.ego.shi was.ego.slo was.tick)=false->Y L Cs zHL (some [11,10,0,12]) 2 (awE vs i) (awM m r len ps vs u was now sw)=some (.exit 0,[(13,.w (Bo false)),(0,.w J0),(10,.w (.c (.slice 1 vs.length 10 0 vs.length none))),(11,.w (W vs.length)),(12,.w (W vs.length))],awM m r len ps vs u was now sw)):=by
 have hz:=hf.zd.z;have hsg:=hf.zd.s;intro t;induction t with
 |nil =>
  intro i hd hi;obtain rfl:=zUb hd hi;refine⟨fun h=>(by cases h),fun _=>?_⟩;rw[zj zHL.eq_1];simp[awE,awM]
 |cons v t ih =>
  intro i hd hi;obtain⟨hil,hx,hd'⟩:=zL hd;have hw:=zB (i:=i) (by omega);obtain⟨i1,i2⟩:=ih (i+1) hd' hil;have hv:=hvo v (by rw[<-hx];exact je hil);obtain⟨z,hzz⟩:=js hv.z.1;have hzl:z<zs.length:=by have:=hv.z.2;omega
  have hzi:(z:Int)<zs.length:=by omega
  have hzp:zMh zs v.kD=zs[z].parts:=by rw[hzz];simp[zMh,hzl]
  have hzg:zPp zs v.kD=zs[z].qc:=by rw[hzz];simp[zPp,hzl]
  have hen:=hv.en;rw[hzp]at hen;obtain⟨e,he⟩:=js hen.1;have hel:e<zs[z].parts.length:=by omega
  have hei:(e:Int)<zs[z].parts.length:=by omega
  have hpl:zPX zs v.kD v.entry=zs[z].parts[e].lane:=by unfold zPX;rw[hzp,he];simp[hel]
  have hsig:=hf.zd.sig zs[z] (je hzl);have hsf:=hf.zd.Cc;have step:zNj zs ss now.ego.shi was.ego.slo was.tick v=false->Y L Cs zHL (some [11,10,0,12]) 2 (awE vs i) (awM m r len ps vs u was now sw)=Y L Cs zHL (some [11,10,0,12]) 2 (awE vs (i+1)) (awM m r len ps vs u was now sw):=by
   intro hff;clear i1 i2 ih;unfold zNj zP1 zP0 at hff;rw[hzg,hpl]at hff;rw[zj zHL.eq_1];by_cases c1:0<zs[z].qc
   ·by_cases c2:v.first.lo<=now.ego.shi
    ·by_cases c3:was.ego.slo<v.first.lo
     ·obtain⟨j,hj⟩:∃j:Nat,zs[z].qc=j+1:=⟨(zs[z].qc-1).toNat,by omega⟩;have hjl:j<ss.length:=by omega
      have hji:(j:Int)<ss.length:=by omega
      have wj:IntKind.i64.wrap (zs[z].qc-1)=j:=by rw[hj];rw[zTd _ (by omega) (by omega)];omega
      have hgd:ss.getD (zs[z].qc-1).toNat ztn=ss[j]:=by
       rw[show(zs[z].qc-1).toNat=j by omega];simp[jm,hjl]
      have hG:=zAP ss[j] zs[z].parts[e].lane was.tick (hf.zd.ph _ (je hjl));rw[hgd]at hff;have hg:zfA ss[j] zs[z].parts[e].lane was.tick=true:=by simpa [c1,c2,c3]using hff
      rw[hg]at hG;simp only[zeq]at hG;simp[awE,awM,jC,zh,zi,zf,zG,zJ1,zdP,zeB,zeq,hz,hsg,hzz,hzl,hzi,he,hel,hei,hil,hx,hw,c1,c2,c3,wj,hjl,hji,hG,zg,zH,own]
     ·simp[awE,awM,jC,zh,zi,zf,zG,zJ1,zdP,zeB,hz,hzz,hzl,hzi,hil,hx,hw,c1,c2,c3,zg,zH,own]
    ·simp[awE,awM,jC,zh,zi,zf,zG,zJ1,zdP,zeB,hz,hzz,hzl,hzi,hil,hx,hw,c1,c2,zg,zH,own]
   ·simp[awE,awM,jC,zh,zi,zf,zG,zJ1,zdP,zeB,hz,hzz,hzl,hzi,hil,hx,hw,c1,zg,zH,own]
  have hit:zNj zs ss now.ego.shi was.ego.slo was.tick v=true->Y L Cs zHL (some [11,10,0,12]) 2 (awE vs i) (awM m r len ps vs u was now sw)=some (.ret,[(2,.w (W 6))],awM m r len ps vs u was now sw++[bxv 1 10 (zJ1 v),bxv 1 2 (zdP zs[z])]):=by
   intro hff;clear i1 i2 ih step;unfold zNj zP1 zP0 at hff;rw[hzg,hpl]at hff;simp only[jl,decide_eq_true_eq,kK]at hff;obtain⟨⟨⟨c1,c2⟩,c3⟩,c4⟩:=hff;obtain⟨j,hj⟩:∃j:Nat,zs[z].qc=j+1:=⟨(zs[z].qc-1).toNat,by omega⟩;have hjl:j<ss.length:=by omega
   have hji:(j:Int)<ss.length:=by omega
   have wj:IntKind.i64.wrap (zs[z].qc-1)=j:=by rw[hj];rw[zTd _ (by omega) (by omega)];omega
   have hgd:ss.getD (zs[z].qc-1).toNat ztn=ss[j]:=by
    rw[show(zs[z].qc-1).toNat=j by omega];simp[jm,hjl]
   have hG:=zAP ss[j] zs[z].parts[e].lane was.tick (hf.zd.ph _ (je hjl));rw[hgd]at c4;rw[c4]at hG;simp only[zeq]at hG;rw[zj zHL.eq_1];simp[awE,awM,jC,zh,zi,zf,zG,zJ1,zdP,zeB,zeq,hz,hsg,hzz,hzl,hzi,he,hel,hei,hil,hx,hw,c1,c2,c3,wj,hjl,hji,hG,zg,zH,own]
  rw[uN];cases hb:zNj zs ss now.ego.shi was.ego.slo was.tick v with
  |true=>exact⟨fun _=>⟨v,_,hit hb⟩,fun h=>by simp at h⟩
  |false =>
   rw[step hb,k8];exact⟨i1,i2⟩
def zMH(zs:List Zon)(ss:List Sgn)(vs:List Vis)(was now:zci):Int:=if vs.any (zNj zs ss now.ego.shi was.ego.slo was.tick) then 6 else 0
theorem zNd{m:zD}{zs:List Zon}{ss:List Sgn}(hf:zmq m zs ss)(r:List Int)(len:Int)(ps:List Pss)(vs:List Vis)(hvl:vs.length<=100)(hvo:∀v∈vs,zKN zs v)(u:Nat)(was now:zci)(sw:List Swp) :
  R L Cs zJ7 [J0] (juM m r len ps vs u was now sw)=some (.w (W (zMH zs ss vs was now)),juM m r len ps vs u was now sw):=by
 unfold zMH;by_cases h0:vs=[]
 ·subst h0;have g:∀E M,Y L Cs zHL (some [11,10,0,12]) 1 [(11,.w (W 0)),(10,E),(0,.w J0),(12,.w (W 0))] M=some (.exit 0,[(13,.w (Bo false)),(0,.w J0),(10,E),(11,.w (W 0)),(12,.w (W 0))],M):=by
   intro E M;rw[zj zHL.eq_1];simp
  rw[zUa zKJ rfl];simp[zHY,juM,zJ3,jC,zh,zi,zf,zG,g,zg,zH,own]
 ·obtain⟨g1,g2⟩:=zN0 hf r len ps vs h0 hvl hvo u was now sw vs 0 rfl (jt _);rw[zUa zKJ rfl];cases hb:vs.any (zNj zs ss now.ego.shi was.ego.slo was.tick)with
  |true =>
   obtain⟨X,Z,g⟩:=g1 hb;clear g1 g2;simp only[awE,awM,jC,zh,zi,zf,zG,zJ1,zdP,own,zJZ,jh,jf,jg]at g;simp[zHY,juM,zJ3,h0,jC,zh,zi,zf,zG,zJ1,zdP,g,zg,zH,own]
  |false =>
   have g:=g2 hb;clear g1 g2;simp only[awE,awM,jC,zh,zi,zf,zG,zJ1,zdP,own,zJZ,jh,jf,jg]at g;simp[zHY,juM,zJ3,h0,jC,zh,zi,zf,zG,zJ1,zdP,g,zg,zH,own]
def zKq(NW:List Cl)(SW:Cl):Prop:=(NW=zox/\SW=.jd)\/∃k x,NW=zG k/\SW=.jb x
def zJY(ok:Bool)(at' why:Int):List Cl:=[.bool ok,I at',I why]
abbrev ghJ(q:Nat)(s:Int)(v:Nat):Option Blk:=some { box:=true,esz:=4,rows:=[[I s,.ptr 1 0 0 0,.ptr q 0 0 0,.ptr (q+1) 0 0 0]],gen:=0,fz:=false,ver:=v }
abbrev zOE:Option Blk:=some { box:=true,esz:=1,rows:=[[.fn zJ6 [.ptr 2 0 0 0] []],[.fn zKc [.ptr 2 0 0 0] []],[.fn zJ9 [.ptr 2 0 0 0] []],[.fn zKa [.ptr 2 0 0 0] []],[.fn zJ7 [.ptr 2 0 0 0] []]],gen:=5,fz:=false,ver:=5 }
def zKs:List Int->Int
 |[]=>0
 |a::l=>if a=0 then zKs l else a
abbrev zTv:List Nat:=[zJ6,zKc,zJ9,zKa,zJ7]
abbrev rdA(m:zD)(r:List Int)(len:Int)(ps:List Pss)(vs:List Vis)(s:Int)(gv u:Nat)(was:zci)(NW:List Cl)(SW:Cl)(w:Nat)(n:Int)(fv:Nat)(F:List Cl):Mem:=[ghJ 4 s gv,bx 1 [.ptr 2 0 0 0],bxv u 26 (jC m r len ps (.slice 3 vs.length 10 0 vs.length none) (zG was) NW SW),some (own 10 (zKt vs)),bxv w 1 [I n],bxv fv 3 F]
abbrev rdB(m:zD)(r:List Int)(len:Int)(ps:List Pss)(vs:List Vis)(s:Int)(gv u:Nat)(was:zci)(NW:List Cl)(SW:Cl)(w:Nat)(n:Int)(fv:Nat)(F:List Cl):Mem:=[ghJ 3 s gv,bx 1 [.ptr 2 0 0 0],bxv u 26 (jC m r len ps .jd (zG was) NW SW),bxv w 1 [I n],bxv fv 3 F]
abbrev rdG(qq:Nat)(m:zD)(r:List Int)(len:Int)(ps:List Pss)(vs:List Vis)(s:Int)(gv u:Nat)(was:zci)(NW:List Cl)(SW:Cl)(w:Nat)(n:Int)(fv:Nat)(F:List Cl):Mem:=if qq=0 then rdB m r len ps vs s gv u was NW SW w n fv F else rdA m r len ps vs s gv u was NW SW w n fv F
theorem zVW{α:Sort _}{qq:Nat}{vs:List Vis}(h:qq=0/\vs=[]\/qq=1/\vs≠[])(a b:α):(if vs=[] then a else b)=if qq=0 then a else b:=by
 rcases h with⟨rfl,h⟩ |⟨rfl,h⟩
 ·rw[if_pos h,if_pos rfl]
 ·rw[if_neg h,if_neg (by decide)]
abbrev aMG(qq:Nat)(m:zD)(r:List Int)(len:Int)(ps:List Pss)(vs:List Vis)(gv u:Nat)(was now:zci)(sw:List Swp)(w:Nat)(n:Int)(fv:Nat)(F:List Cl):Mem:=rdG qq m r len ps vs 1 gv u was (zG now) (.jb (zbf sw)) w n fv F++[bxv 1 6 (zG now),zOE]
abbrev aEG(qq:Nat)(i:Nat):Env:=[(47,.w (W 5)),(10,.w (Pt (qq+5))),(4,.w (Pt 1)),(46,.w (.c (.slice (qq+6) 5 1 0 5 none))),(48,.w (W i)),(9,.w (Pt (qq+3))),(8,.w (Pt (qq+4)))]
theorem zV4(i j:Nat)(hi:i<5)(hj:j=i+1)(m:zD)(r:List Int)(len:Int)(ps:List Pss)(vs:List Vis)(qq:Nat)(hq0:qq=0/\vs=[]\/qq=1/\vs≠[])(gv u:Nat)(was now:zci)(sw:List Swp)(w:Nat)(n:Int)(a:Int)
  (hR:R L Cs (zTv.getD i 0) [J0] (juM m r len ps vs u was now sw)=some (.w (W a),juM m r len ps vs u was now sw)) :
  Y L Cs zHE (some [47,10,4,46,48,9,8]) (qq+7) (aEG qq i) (aMG qq m r len ps vs gv u was now sw w n 0 (zJY false 0 0)) =
    if a=0 then Y L Cs zHE (some [47,10,4,46,48,9,8]) (qq+7) (aEG qq j) (aMG qq m r len ps vs gv u was now sw w n 0 (zJY false 0 0)) else some (.ret,[],aMG qq m r len ps vs gv u was now sw w n 1 (zJY false n a)):=by
 subst hj;have cb:¬a=0->(a==0)=false/\(a !=0)=true:=fun c=>by simp[c]
 simp only[zTv,juM,zJ3,zVW hq0,jC,zh,zi,zf,zG,own,zJZ,jh,jf]at hR;rw[zj zHE.eq_1];have hw:∀x:Int,0<=x->x<=9->IntKind.i64.wrap x=x:=fun x _ _=>kg x
 match i,hi with
 |0,_ |1,_ |2,_ |3,_ |4,_ =>
  simp only[kZ,List.getD_cons_succ]at hR;by_cases c:a=0
  ·rw[if_pos c];subst c;rcases hq0 with⟨rfl,-⟩ |⟨rfl,-⟩<;>simp only[jI,↓reduceIte,jB,Nat.reduceAdd]at hR<;>simp (maxSteps:=1000000) [aEG,aMG,rdG,rdA,rdB,jC,zh,zi,zf,zG,zJY,own,hw,hR,zg,zH]
  ·rw[if_neg c];rcases hq0 with⟨rfl,-⟩ |⟨rfl,-⟩<;>simp only[jI,↓reduceIte,jB,Nat.reduceAdd]at hR<;>simp (maxSteps:=1000000) [aEG,aMG,rdG,rdA,rdB,jC,zh,zi,zf,zG,zJY,own,hw,hR,c,(cb c).1,(cb c).2,zg,zH]
theorem zV3(m:zD)(r:List Int)(len:Int)(ps:List Pss)(vs:List Vis)(qq:Nat)(hq0:qq=0/\vs=[]\/qq=1/\vs≠[])(gv u:Nat)(was now:zci)(sw:List Swp)(w:Nat)(n:Int) :
  Y L Cs zHE (some [47,10,4,46,48,9,8]) (qq+7) (aEG qq 5) (aMG qq m r len ps vs gv u was now sw w n 0 (zJY false 0 0))=some (.exit 2,[(49,.w (Bo false)),(46,.w (.c (.slice (qq+6) 5 1 0 5 none))),(4,.w (Pt 1)),(10,.w (Pt (qq+5))),(47,.w (W 5)),(48,.w (W 5)),(9,.w (Pt (qq+3))),(8,.w (Pt (qq+4)))],aMG qq m r len ps vs gv u was now sw w n 0 (zJY false 0 0)):=by
 rw[zj zHE.eq_1];rcases hq0 with⟨rfl,-⟩ |⟨rfl,-⟩<;>simp[aEG,aMG,rdG,rdA,rdB]
theorem zVZ(m:zD)(r:List Int)(len:Int)(ps:List Pss)(vs:List Vis)(qq:Nat)(hq0:qq=0/\vs=[]\/qq=1/\vs≠[])(gv u:Nat)(was now:zci)(sw:List Swp)(w:Nat)(n:Int)(a b c d e:Int)
  (hA:R L Cs zJ6 [J0] (juM m r len ps vs u was now sw)=some (.w (W a),juM m r len ps vs u was now sw))
  (hB:a=0->R L Cs zKc [J0] (juM m r len ps vs u was now sw)=some (.w (W b),juM m r len ps vs u was now sw))
  (hC:R L Cs zJ9 [J0] (juM m r len ps vs u was now sw)=some (.w (W c),juM m r len ps vs u was now sw))
  (hD:R L Cs zKa [J0] (juM m r len ps vs u was now sw)=some (.w (W d),juM m r len ps vs u was now sw))
  (hE:R L Cs zJ7 [J0] (juM m r len ps vs u was now sw)=some (.w (W e),juM m r len ps vs u was now sw)) :
  Y L Cs zHE (some [47,10,4,46,48,9,8]) (qq+7) (aEG qq 0) (aMG qq m r len ps vs gv u was now sw w n 0 (zJY false 0 0)) =
    some (if zKs [a,b,c,d,e]=0 then(.exit 2,[(49,.w (Bo false)),(46,.w (.c (.slice (qq+6) 5 1 0 5 none))),(4,.w (Pt 1)),(10,.w (Pt (qq+5))),(47,.w (W 5)),(48,.w (W 5)),(9,.w (Pt (qq+3))),(8,.w (Pt (qq+4)))],aMG qq m r len ps vs gv u was now sw w n 0 (zJY false 0 0)) else(.ret,[],aMG qq m r len ps vs gv u was now sw w n 1 (zJY false n (zKs [a,b,c,d,e])))):=by
 rw[zV4 0 1 (by decide) rfl m r len ps vs qq hq0 gv u was now sw w n a hA];by_cases c0:a=0
 ·rw[if_pos c0,zV4 1 2 (by decide) rfl m r len ps vs qq hq0 gv u was now sw w n b (hB c0)];by_cases c1:b=0
  ·rw[if_pos c1,zV4 2 3 (by decide) rfl m r len ps vs qq hq0 gv u was now sw w n c hC];by_cases c2:c=0
   ·rw[if_pos c2,zV4 3 4 (by decide) rfl m r len ps vs qq hq0 gv u was now sw w n d hD];by_cases c3:d=0
    ·rw[if_pos c3,zV4 4 5 (by decide) rfl m r len ps vs qq hq0 gv u was now sw w n e hE];by_cases c4:e=0
     ·rw[if_pos c4,zV3 m r len ps vs qq hq0 gv u was now sw w n];simp only[zKs,c0,c1,c2,c3,c4,if_true]
     ·rw[if_neg c4];simp only[zKs,c0,c1,c2,c3,c4,if_true,if_false]
    ·rw[if_neg c3];simp only[zKs,c0,c1,c2,c3,if_true,if_false]
   ·rw[if_neg c2];simp only[zKs,c0,c1,c2,if_true,if_false]
  ·rw[if_neg c1];simp only[zKs,c0,c1,if_true,if_false]
 ·rw[if_neg c0];simp only[zKs,c0,if_false]
abbrev rsh:List (Nat×Bool×Nat):=[(4,false,1),(9,false,1),(8,false,1)]
theorem zVY(m:zD)(r:List Int)(len:Int)(ps:List Pss)(vs:List Vis)(qq:Nat)(hq0:qq=0/\vs=[]\/qq=1/\vs≠[])(gv u:Nat)(was:zci)(NW:List Cl)(now:zci)(SW:Cl)(hSW:zKq NW SW)(sw:List Swp)(w:Nat)(n:Int) :
  X L Cs (sQ (rG 1 [o1 0 10 (.box 0 6 (.k (.a [(I 0),.jd,(I 0),(I 0),(I 0),(I 0)]))),o0 1 (.store 6 (.s 10) (.s 24))] [25,10,4,9,8]) (rG 0 [mS 0 11 25] [11,10,4,9,8])) (zv3 [24,25] [.a (zG now),.c (.jb (zbf sw))]++[(4,.w (Pt 1)),(9,.w (Pt (qq+3))),(8,.w (Pt (qq+4)))]) (rdG qq m r len ps vs 0 gv u was NW SW w n 0 (zJY false 0 0)) =
    some (.normal,[(11,.w (.c (.jb (zbf sw)))),(10,.w (Pt (qq+5))),(4,.w (Pt 1)),(9,.w (Pt (qq+3))),(8,.w (Pt (qq+4)))],rdG qq m r len ps vs 0 gv u was NW SW w n 0 (zJY false 0 0)++[bxv 1 6 (zG now)]):=by
 rcases hq0 with⟨rfl,-⟩ |⟨rfl,-⟩<;>rcases hSW with⟨rfl,rfl⟩ |⟨k0,x,rfl,rfl⟩<;>simp[zv3,rdG,rdA,rdB,jC,zox,zh,zi,zf,zG,zJY,own,zg,zH]
theorem zV7(m:zD)(r:List Int)(len:Int)(ps:List Pss)(vs:List Vis)(qq:Nat)(hq0:qq=0/\vs=[]\/qq=1/\vs≠[])(gv u:Nat)(was:zci)(NW:List Cl)(now:zci)(SW:Cl)(hSW:zKq NW SW)(sw:List Swp)(w n:Nat)(hn:n<1000)(why:Int)
  (g:Y L Cs zHE (some [47,10,4,46,48,9,8]) (qq+7) (aEG qq 0) (aMG qq m r len ps vs gv (u+1+1) was now sw (w+1) (n+1) 0 (zJY false 0 0)) =
   some (if why=0 then(.exit 2,[(49,.w (Bo false)),(46,.w (.c (.slice (qq+6) 5 1 0 5 none))),(4,.w (Pt 1)),(10,.w (Pt (qq+5))),(47,.w (W 5)),(48,.w (W 5)),(9,.w (Pt (qq+3))),(8,.w (Pt (qq+4)))],aMG qq m r len ps vs gv (u+1+1) was now sw (w+1) (n+1) 0 (zJY false 0 0)) else(.ret,[],aMG qq m r len ps vs gv (u+1+1) was now sw (w+1) (n+1) 1 (zJY false (n+1) why)))) :
  ∃E,X L Cs zHO.code [(11,.w (.c (.jb (zbf sw)))),(10,.w (Pt (qq+5))),(4,.w (Pt 1)),(9,.w (Pt (qq+3))),(8,.w (Pt (qq+4)))] (rdG qq m r len ps vs 1 gv u was NW SW w n 0 (zJY false 0 0)++[bxv 1 6 (zG now)]) =
   some (if why=0 then(.normal,E,aMG qq m r len ps vs gv (u+1+1+1) now now sw (w+1) (n+1) 0 (zJY false 0 0)) else(.ret,[],aMG qq m r len ps vs gv (u+1+1) was now sw (w+1) (n+1) 1 (zJY false (n+1) why))):=by
 have hw:=zB (i:=n) (by omega);have n0:((0:Nat):Int)=0:=rfl;refine⟨[],?_⟩;by_cases c:why=0
 ·rw[if_pos c];rw[if_pos c]at g;rcases hq0 with⟨rfl,-⟩ |⟨rfl,-⟩<;>simp only[jI,↓reduceIte,jB,Nat.reduceAdd,aEG,aMG,rdG,rdA,rdB,jC,zh,zi,zf,zG,zJY,own,zJZ,jh,jf,n0]at g<;>rcases hSW with⟨rfl,rfl⟩ |⟨k0,x,rfl,rfl⟩<;>simp (maxSteps:=1000000) [zHO,aEG,aMG,rdG,rdA,rdB,jC,zox,zh,zi,zf,zG,zJY,own,zg,zH,zi2,okW,hw,g]
 ·rw[if_neg c];rw[if_neg c]at g;rcases hq0 with⟨rfl,-⟩ |⟨rfl,-⟩<;>simp only[jI,↓reduceIte,jB,Nat.reduceAdd,aEG,aMG,rdG,rdA,rdB,jC,zh,zi,zf,zG,zJY,own,zJZ,jh,jf,n0]at g<;>rcases hSW with⟨rfl,rfl⟩ |⟨k0,x,rfl,rfl⟩<;>simp (maxSteps:=1000000) [zHO,aEG,aMG,rdG,rdA,rdB,jC,zox,zh,zi,zf,zG,zJY,own,zg,zH,zi2,okW,hw,g]
theorem zV5(m:zD)(r:List Int)(len:Int)(ps:List Pss)(vs:List Vis)(qq:Nat)(hq0:qq=0/\vs=[]\/qq=1/\vs≠[])(gv u:Nat)(was:zci)(NW:List Cl)(now:zci)(SW:Cl)(hSW:zKq NW SW)(sw:List Swp)(w n:Nat)(hn:n<1000)(why:Int)
  (g:Y L Cs zHE (some [47,10,4,46,48,9,8]) (qq+7) (aEG qq 0) (aMG qq m r len ps vs (gv+1) (u+1+1) was now sw (w+1) (n+1) 0 (zJY false 0 0)) =
   some (if why=0 then(.exit 2,[(49,.w (Bo false)),(46,.w (.c (.slice (qq+6) 5 1 0 5 none))),(4,.w (Pt 1)),(10,.w (Pt (qq+5))),(47,.w (W 5)),(48,.w (W 5)),(9,.w (Pt (qq+3))),(8,.w (Pt (qq+4)))],aMG qq m r len ps vs (gv+1) (u+1+1) was now sw (w+1) (n+1) 0 (zJY false 0 0)) else(.ret,[],aMG qq m r len ps vs (gv+1) (u+1+1) was now sw (w+1) (n+1) 1 (zJY false (n+1) why)))) :
  R L Cs zJ0 [.c (.yld 0 zJ0 rsh),.a (zG now),.c (.jb (zbf sw))] (rdG qq m r len ps vs 0 gv u was NW SW w n 0 (zJY false 0 0)) =
    some (if why=0 then(.w (Bo true),rdG qq m r len ps vs 0 (gv+1+1) (u+1+1+1) now (zG now) (.jb (zbf sw)) (w+1) (n+1) 0 (zJY false 0 0)) else(.w (Bo false),rdG qq m r len ps vs 2 (gv+1+1) (u+1+1) was (zG now) (.jb (zbf sw)) (w+1) (n+1) 1 (zJY false (n+1) why))):=by
 obtain⟨E,hc⟩:=zV7 m r len ps vs qq hq0 (gv+1) u was NW now SW hSW sw w n hn why g;have hp:=zVY m r len ps vs qq hq0 gv u was NW now SW hSW sw w n;by_cases c:why=0
 ·rw[if_pos c]at hc ⊢;exact zOg (cells:=[.ptr 1 0 0 0,.ptr (qq+3) 0 0 0,.ptr (qq+4) 0 0 0]) (M2:=rdG qq m r len ps vs 1 (gv+1) u was NW SW w n 0 (zJY false 0 0)++[bxv 1 6 (zG now)]) (M4:=rdG qq m r len ps vs 0 (gv+1+1) (u+1+1+1) now (zG now) (.jb (zbf sw)) (w+1) (n+1) 0 (zJY false 0 0)++[bxv 1 6 (zG now),zOE]) zKg rfl rfl (by rcases hq0 with⟨rfl,-⟩ |⟨rfl,-⟩<;>simp[Eng.ki,rdG,rdA,rdB]) (by rcases hq0 with⟨rfl,-⟩ |⟨rfl,-⟩<;>simp[zxb,rdG,rdA,rdB]) (by rcases hq0 with⟨rfl,-⟩ |⟨rfl,-⟩<;>rfl) hp (by rcases hq0 with⟨rfl,-⟩ |⟨rfl,-⟩<;>simp[zsR,rdG,rdA,rdB]) hc (by rcases hq0 with⟨rfl,-⟩ |⟨rfl,-⟩<;>simp[zsR,zxZ,rdG,rdA,rdB,aMG]) (by rcases hq0 with⟨rfl,-⟩ |⟨rfl,-⟩<;>simp[finish,zH,rdG,rdA,rdB,jC,zh,zi,zf,zG,zJY,own])
 ·rw[if_neg c]at hc ⊢;exact zOg (cells:=[.ptr 1 0 0 0,.ptr (qq+3) 0 0 0,.ptr (qq+4) 0 0 0]) (M2:=rdG qq m r len ps vs 1 (gv+1) u was NW SW w n 0 (zJY false 0 0)++[bxv 1 6 (zG now)]) (M4:=rdG qq m r len ps vs 2 (gv+1+1) (u+1+1) was (zG now) (.jb (zbf sw)) (w+1) (n+1) 1 (zJY false (n+1) why)++[bxv 1 6 (zG now),zOE]) zKg rfl rfl (by rcases hq0 with⟨rfl,-⟩ |⟨rfl,-⟩<;>simp[Eng.ki,rdG,rdA,rdB]) (by rcases hq0 with⟨rfl,-⟩ |⟨rfl,-⟩<;>simp[zxb,rdG,rdA,rdB]) (by rcases hq0 with⟨rfl,-⟩ |⟨rfl,-⟩<;>rfl) hp (by rcases hq0 with⟨rfl,-⟩ |⟨rfl,-⟩<;>simp[zsR,rdG,rdA,rdB]) hc (by rcases hq0 with⟨rfl,-⟩ |⟨rfl,-⟩<;>simp[zsR,zxZ,rdG,rdA,rdB,aMG]) (by rcases hq0 with⟨rfl,-⟩ |⟨rfl,-⟩<;>simp[finish,zH,rdG,rdA,rdB,jC,zh,zi,zf,zG,zJY,own])
theorem zEI{m:zD}{r:List Int}{len:Int}{k:zci}{act:Int}(h:zm6 m r len k act=0):zdf m k=0/\zdA m r=0/\(300<=len/\len<=20000)/\k.tick≠1099511627776/\(zaN m r k.ego act).shi<=1099511627776:=by
 unfold zm6 at h;split at h
 ·rename_i h1;split at h
  ·rename_i h2;split at h
   ·rename_i h3;exact⟨h1,h2,h3⟩
   ·cases h
  ·cases h
 ·rename_i h1;exact absurd h h1
structure KOk(k:zci):Prop where
 len:k.j8.length<=100000000000
 ok:∀b∈k.j8,OKB b
theorem zFp{m:zD}(h:zcp m)(hs:zmX m){k:zci}(hc:zdf m k=0):KOk k :=
 ⟨j9 (zvx h hs hc) (by decide),fun b hb=>zFo h (zxJ h hc b hb)⟩
abbrev zEt(m:zD)(zs:List Zon)(ss:List Sgn)(r:List Int)(len:Int)(signals:Bool)(k:zci)(a:Int):zci:=zpg m zs ss r len k (zaN m r k.ego a) signals
theorem zFh{m:zD}{zs:List Zon}{ss:List Sgn}(hf:zmq m zs ss){r:List Int}{len:Int}{k:zci}{act:Int}(h:zm6 m r len k act=0)(signals:Bool):zdf m (zEt m zs ss r len signals k act)=0:=by
 obtain⟨h1,h2,_,h4,h5⟩:=zEI h;exact zEH hf h2 len k act signals h1 h4 h5
theorem zFs{p b:zk}(h:¬zmM p b):Apt p b:=by
 unfold zmM at h;unfold Apt;omega
theorem zEO{m:zD}(h:zcp m):∀(r:List zk) (p:zk),zls m p r=0->r.Pairwise Apt/\∀b∈r,Apt p b
 |[],p,_=>⟨List.Pairwise.nil,by simp⟩
 |x::r,p,hc=>by
  unfold zls at hc;split at hc
  ·rename_i h1;exact absurd hc h1
  ·rename_i h1;have h1:zer m p x=0:=by simpa using h1
   obtain⟨a1,a2,a3,a4,a5,a6,a7,a8,a9,a10,_,a12⟩:=zui h h1;have hx:=zFs a12;obtain⟨i1,i2⟩:=zEO h r x hc;refine⟨jZ.2 ⟨i2,i1⟩,fun b hb=>?_⟩;rcases jy.1 hb with rfl|hb
   ·exact hx
   ·have:=i2 b hb;unfold Apt at this hx ⊢;omega
theorem zFn{m:zD}(h:zcp m){k:zci}(hc:zdf m k=0):k.j8.Pairwise Apt:=by
 unfold zdf at hc;split at hc
 ·cases hc
 ·exact(zEO h _ _ hc).1
abbrev zFC:Sh:=.st [zmN,zmN,zmN,zmN,zmN,zmN]
theorem zE2:∀{rows:List (List Cl)},(∀r∈rows,zfo zFC r)->∃l,rows=zDS l/\∀b∈l,zk0 b.hold
 |[],_=>⟨[],rfl,by simp⟩
 |r::rows,h=>by
  have h1:=h r (jr ..);simp only[zfo,znD]at h1;obtain⟨_,_,rfl,⟨a1,rfl,q1⟩,_,_,rfl,⟨a2,rfl,q2⟩,_,_,rfl,⟨a3,rfl,q3⟩,_,_,rfl,⟨a4,rfl,q4⟩,_,_,rfl,⟨a5,rfl,q5⟩,_,_,rfl,⟨a6,rfl,q6⟩,rfl⟩:=h1;obtain⟨l,rfl,hl⟩:=zE2 fun x hx=>h x (jv _ hx)
  refine⟨⟨a1,a2,a3,a4,a5,a6⟩::l,rfl,fun x hx=>?_⟩;rcases jy.1 hx with rfl|hx
  ·exact q6
  ·exact hl x hx
theorem zO4{l:List Swp}{s:Swp}(h:s∈zlg l):s∈l:=(zsK l).mem_iff.1 h
structure KJ(m:zD)(k:zci):Prop where
 vb:∀b∈k.j8,VB m b
 apt:k.j8.Pairwise Apt
 ego:znd k.ego
theorem zN7{m:zD}(h:zcp m)(hs:zmX m){k:zci}(hk:KJ m k):k.j8.length<=200000000:=by
 have hc:zls m zqY k.j8=0:=zED _ _ hk.vb hk.apt fun b hb=>by
  have:=(hk.vb b hb).lane;simp only[zmM,zqY];omega
 have:=zvw h _ _ hc (show(-1:Int)<_ by omega) (show(0:Int)<=_ by omega);have:=hs.few;simp only[zqY]at *;omega
theorem zPP{m:zD}(h:zcp m){k:zci}(hc:zdf m k=0):KJ m k:=⟨zxJ h hc,zFn h hc,(zte hc).1⟩
theorem zLs{m:zD}(h:zcp m){r:List Int}(hr:zdA m r=0){e:Ego}(he:znd e)(act:Int) :
  0<=(zaN m r e act).slo/\(zaN m r e act).slo<=(zaN m r e act).shi/\(zaN m r e act).shi<=e.shi+2000/\0<=(zaN m r e act).vlo/\(zaN m r e act).vlo<=(zaN m r e act).vhi/\(zaN m r e act).vhi<=2000:=by
 obtain⟨hon,hne,_⟩:=zg1 h hr;obtain⟨x0,r',rfl⟩:∃x r',r=x::r':=by cases r with|nil=>exact absurd rfl hne|cons x r'=>exact⟨x,r',rfl⟩
 have hx0:=hon x0 (jr ..);have s1:=zge h r' hx0 act e.vlo;have s2:=zge h r' hx0 act e.vhi;have hes:=he.s;have hev:=he.v;have s3:=zEJ m (x0::r') act hev.2.1;simp only[zaN];omega
theorem zNm{m:zD}{zs:List Zon}{ss:List Sgn}(hf:zmq m zs ss){r:List Int}(hr:zdA m r=0)(len:Int)(signals:Bool){k:zci}(hk:KJ m k)(act:Int)(hs:(zEt m zs ss r len signals k act).ego.shi<=1099511627776):KJ m (zEt m zs ss r len signals k act):=by
 obtain⟨j1,j2⟩:=zEl _ (zE4 hf r len k (zaN m r k.ego act) signals hk.vb);have hd:=zLs hf.qF hr hk.ego act;have hs':(zaN m r k.ego act).shi<=1099511627776:=hs;exact⟨ztK _ _ _ _ j1,zFg _ _ _ _ _ j2,⟨⟨hd.1,hd.2.1,hs'⟩,⟨hd.2.2.2.1,hd.2.2.2.2.1,hd.2.2.2.2.2⟩⟩⟩
abbrev zKu(m:zD)(zs:List Zon)(ss:List Sgn)(r:List Int)(len:Int)(signals:Bool)(k:zci)(a:Int):List Swp:=zhp (zlg (zfV m zs ss r len k (zaN m r k.ego a) signals))
theorem zNq{m:zD}{zs:List Zon}{ss:List Sgn}(hf:zmq m zs ss){r:List Int}(hr:zdA m r=0)(len:Int)(signals:Bool){k:zci}(hk:KJ m k)(a:Int):(zKu m zs ss r len signals k a).length<=100000000000:=by
 have hr2:=zlP hf.ye hr;have h4:=zoA hf.ye zs ss r (zfx len (zaN m r k.ego a)) (zaN m r k.ego a).slo len k signals (zkr m k.ego len r k.j8);have h5:=zij m k.ego len hr2 k.j8;have h0:=zN7 hf.qF hf.ye hk;obtain⟨_,_,_,_,_,_,h6,_⟩:=zrS (zlg (zfV m zs ss r len k (zaN m r k.ego a) signals)) (by rw[zhh];unfold zfV;omega) 0;rw[zhh]at h6;unfold zfV at h6;unfold zKu zfV;omega
theorem zOm{m:zD}{zs:List Zon}{ss:List Sgn}(hf:zmq m zs ss)(r:List Int)(len:Int)(k:zci)(e:Ego)(signals:Bool)(hvb:∀b∈k.j8,VB m b):∀s∈zfV m zs ss r len k e signals,zPI m s:=by
 have h:=hf.qF;intro s hs;unfold zfV zhM at hs;obtain⟨b,hb,hx⟩:=qf.1 hs;obtain⟨z,hz,rfl⟩:=ko.1 hx;have hv:=ztK k.ego len r k.j8 hvb b hb;have hbd:=zwE h zs ss k signals hv;unfold zn0 at hz;split at hz
 ·have ho:=zBF h r (zfx len e) e.slo (mvF m zs ss k signals b) (by rw[hbd.1];exact hv.lane) _ _ _ z hz;have h1:=zcX h ho.on;have h2:=ho.lo;have h3:=ho.le;have h4:=ho.hi;exact⟨ho.on,by show 0<=z.1.lo/\z.1.lo<=1000000;omega,by show 0<=z.1.hi/\z.1.hi<=1000000;omega⟩
 ·cases hz
theorem zOa{m:zD}{zs:List Zon}{ss:List Sgn}(hf:zmq m zs ss)(r:List Int)(len:Int)(signals:Bool){k:zci}(hk:KJ m k)(a:Int):∀s∈zKu m zs ss r len signals k a,zPI m s:=fun s hs =>
 zOm hf r len k _ signals hk.vb s (zO4 ((zrs _ _).1 hs))
def zMi(m:zD)(zs:List Zon)(ss:List Sgn)(r:List Int)(len:Int)(ps:List Pss)(vs:List Vis)(was now:zci)(sw:List Swp):Int :=
 zKs [onW m r now,zMt m r now,zMF m r now sw,zMG zs len ps vs was now sw,zMH zs ss vs was now]
def zKr(m:zD)(zs:List Zon)(ss:List Sgn)(r:List Int)(len:Int)(ps:List Pss)(vs:List Vis)(signals:Bool):List Int->Nat->zci->Option (Nat×Int)×zci
 |[],n,k=>(none,k)
 |a::t,n,k=>if zMi m zs ss r len ps vs k (zEt m zs ss r len signals k a) (zKu m zs ss r len signals k a)=0 then zKr m zs ss r len ps vs signals t (n+1) (zEt m zs ss r len signals k a) else(some (n+1,zMi m zs ss r len ps vs k (zEt m zs ss r len signals k a) (zKu m zs ss r len signals k a)),k)
theorem zNe{m:zD}{zs:List Zon}{ss:List Sgn}{r:List Int}{len:Int}{ps:List Pss}{vs:List Vis}{was now:zci}{sw:List Swp}(h:zMi m zs ss r len ps vs was now sw=0):now.ego.shi<=zmd m 0 r:=by
 have ho:onW m r now=0:=by
  unfold zMi at h;rw[zKs]at h;by_cases c:onW m r now=0
  ·exact c
  ·rw[if_neg c]at h;exact absurd h c
 unfold onW at ho;split at ho
 ·cases ho
 ·omega
def zV2(m:zD)(r:List Int)(tick:Int)(e:Ego)(a:Int):Prop:=1099511627776<=tick\/1099511627776<(zaN m r e a).shi
instance(m:zD)(r:List Int)(tick:Int)(e:Ego)(a:Int):Decidable (zV2 m r tick e a):=by unfold zV2;infer_instance
def fbF(m:zD)(r:List Int):List Int->Int->Ego->Option Nat
 |[],_,_=>none
 |a::t,tk,e=>if zV2 m r tk e a then some 0 else if zmd m 0 r<(zaN m r e a).shi then none else(fbF m r t (tk+1) (zaN m r e a)).map (· + 1)
theorem zO8(m:zD)(r:List Int):∀(t:List Int) (tk:Int) (e:Ego) (b:Nat),fbF m r t tk e=some b->b<t.length
 |[],_,_,_,h=>by cases h
 |a::t,tk,e,b,h=>by
  unfold fbF at h;split at h
  ·cases h;simp
  ·split at h
   ·cases h
   ·rw[ja]at h;obtain⟨b',h1,rfl⟩:=h;have:=zO8 m r t _ _ _ h1;simp;omega
theorem zLX(m:zD)(r:List Int):∀(t:List Int) (tk:Int) (e:Ego) (n:Nat),fbF m r (t.take n) tk e=(fbF m r t tk e).bind fun b=>if b<n then some b else none
 |[],_,_,n=>by simp[fbF]
 |a::t,tk,e,0=>by
  rw[List.take_zero,show fbF m r [] tk e=none from rfl];cases fbF m r (a::t) tk e<;>simp
 |a::t,tk,e,n+1=>by
  rw[List.take_succ_cons];unfold fbF;split
  ·simp
  ·split
   ·rfl
   ·rw[zLX m r t _ _ n];cases fbF m r t (tk+1) (zaN m r e a)with
    |none=>rfl
    |some b =>
     by_cases h:b<n
     ·simp[h]
     ·simp[h]
def zKX(x:Bool×Int×Int):Option Nat->Bool×Int×Int
 |none=>x
 |some b=>if 0<x.2.1/\x.2.1<=b/\x.2.2≠7 then x else(false,0,1)
end Go.TrRun
