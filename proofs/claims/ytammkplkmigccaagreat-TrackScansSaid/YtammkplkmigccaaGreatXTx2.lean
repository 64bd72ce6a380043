/- This text proves what functions of this seat's program answer, run by the evaluator; no condition. -/
import Derived.Test.YtammkplkmigccaaGreatXTx1
set_option maxHeartbeats 8000000
set_option linter.unusedVariables false
set_option linter.unusedSimpArgs false
set_option linter.unusedSectionVars false
set_option maxRecDepth 10000
namespace Go.TrRun
open Go Go.Eng
theorem zqr(k key:Nat)(l:List (List Int)):(ziS k key l).Perm l:=by
 obtain⟨⟨h1,h2,h3⟩,_⟩:=znh k key l;unfold ziS;generalize Go.Sort.pdq (ltZ k key) l.toArray 0 l.length (zsn l.length) true true=d at *;have e1:d.size=l.length:=by simpa using h1
 have e2:d.extract 0 l.length=d:=by rw[<-e1];simp
 have e3:l.toArray.extract 0 l.length=l.toArray:=by simp
 rw[e2,e3]at h3;simpa using h3
theorem ztv(k key:Nat)(l:List (List Int)):(ziS k key l).Pairwise fun x y=>ltZ k key y x=false:=by
 obtain⟨⟨h1,h2,h3⟩,h4⟩:=znh k key l;unfold ziS;generalize Go.Sort.pdq (ltZ k key) l.toArray 0 l.length (zsn l.length) true true=d at *;have e1:d.size=l.length:=by simpa using h1
 rw[qA];intro i j hi hj hij;have hj':j<d.size:=by simpa using hj
 have hi':i<d.size:=by simpa using hi
 have:=h4 i j (jE _) hij (by omega);rw[getElem!_pos d i hi',getElem!_pos d j hj']at this;simpa using this
def Fnd.ints(f:Fnd):List Int:=[f.lane,f.lo,f.hi,f.v1,f.v2]
def zYR(l:List Int):Fnd:=⟨l.getD 0 0,l.getD 1 0,l.getD 2 0,l.getD 3 0,l.getD 4 0⟩
def zYJ(l:List Fnd):List Fnd:=(ziS 5 1 (l.map Fnd.ints)).map zYR
theorem zZa(l:List Fnd):(zYJ l).Perm l:=by
 have:=(zqr 5 1 (l.map Fnd.ints)).map zYR;simpa [zYJ,yq,Function.comp_def,Fnd.ints,zYR]using this
theorem Zk(l:List Fnd):(zYJ l).Pairwise fun x y=>x.lo<=y.lo:=by
 unfold zYJ;rw[List.pairwise_map];refine(ztv 5 1 _).imp fun {x y} h=>?_
 simp[ltZ]at h;simpa [zYR]using h
theorem zX5(l:List Fnd):(zYJ l).length=l.length:=(zZa l).length_eq
theorem z09(l:List Fnd):zv2 5 1 (zWw l)=some (l.map Fnd.ints):=by
 induction l with
 |nil=>rfl
 |cons f l ih=>simp[zv2,zuC,zWN,ih,Fnd.ints,zgk]
theorem z0U(z:List Int):zsl 5 1 z=zWN (zYR z):=by simp[zsl,zWN,zYR,List.range,List.range.loop,zjS,zgk]
theorem z0K(l:List Fnd):(ziS 5 1 (l.map Fnd.ints)).map (zsl 5 1)=zWw (zYJ l):=by
 simp[zYJ,zWw,yq,Function.comp_def,z0U]
theorem zZV:List.lookup zWy Cs=some (0,64*zWr+41,false):=by kernel_rfl
theorem z0m:L.lookup zWy=none:=by kernel_rfl
theorem zZS(w:Nat):R L Cs zWy [.c (oS 0 []),.c (.fn zWr [] [])] [oB w []]=some (.t [],[oB w []]):=by
 rw[zrP z0m];unfold vA;rw[zZV];have e1:(64*zWr+41) / 64=zWr:=by decide
 simp[e1,zqs]
theorem z1u(l:List Fnd)(hl:l.length<=100000)(h0:l≠[])(w:Nat):R L Cs zWy [.c (oS 0 l),.c (.fn zWr [] [])] [oB w l]=some (.t [],[oB (w+1) (zYJ l)]):=by
 rw[zrP z0m];unfold vA;rw[zZV];have e1:(64*zWr+41) / 64=zWr:=by decide
 have e2:(64*zWr+41) / 8 % 8=5:=by decide
 have e3:(64*zWr+41) % 8=1:=by decide
 have h1:l.length≠0:=by simpa using h0
 have h2:l.length<4611686018427387904:=by omega
 have hz:=z09 l;have hr:=z0K l;have hd:List.drop l.length (zWw l)=[]:=uU (by simp);simp[e1,e2,e3,zqs,h0,h1,h2,hz,hr,hd,zX5]
def zkr(m:zD)(e:Ego)(len:Int)(l:List Int)(bs:List zk):List zk:=if e.shi-len<=e.slo then zpO m e len 0 l bs else bs
theorem zxN{m:zD}(h:zcp m)(l:List Int)(hl:l.length<=8)(hon:zj2 m l)(len:Int)(e:Ego)(he:-1000000000000000<=e.slo/\e.slo<=1000000000000000/\-1000000000000000<=e.shi/\e.shi<=1000000000000000)(hn:0<=len/\len<=20000)(bs:List zk)(hbb:bs.length*2 ^ l.length<=100000000000) :
  R L Cs zl8 [.a (zf m),.c (.jc (zu l)),W len,.c (.jc (zI bs)),.a (zch e)] []=some (.w (.c (.jc (zI (zkr m e len l bs)))),[]):=by
 have hw0:=kQ (e.shi-len);have ho:=zya h l hl hon len e he hn l 0 bs 0 rfl (jE _) rfl (by omega) (by omega) hbb;have hbg:=zvX h (by omega) hon;simp only[zf,ji,zch]at ho hbg ⊢;rw[zUa zmr rfl,zkr];by_cases c:e.shi-len<=e.slo
 ·have c':¬(e.slo<e.shi-len):=by omega
  simp[zdW,hbg,ho,c,c',zg,hw0]
 ·have c':e.slo<e.shi-len:=by omega
  simp[zdW,c,c',zg,hw0]
theorem zlP{m:zD}(hs:zmX m){l:List Int}(hr:zdA m l=0):l.length<=2:=by
 match l,hr with
 |[],_=>simp
 |[_],_=>simp
 |[_,_],_=>simp
 |x::y::z::t,hr =>
  exfalso;have hg:goF m x (y::z::t)=true:=by
   cases hg:goF m x (y::z::t)with
   |true=>rfl
   |false=>simp[zdA,hg]at hr
  simp only[goF,jg,decide_eq_true_eq]at hg;have h1:y∈zS m x:=hg.1;have h2:z∈zS m y:=hg.2.1;rw[hs.leaf x y h1]at h2;cases h2
theorem zxI{m:zD}(h:zcp m):∀(r:List zk) (p:zk),zls m p r=0->∀b∈r,VB m b
 |[],_,_,b,hb=>by cases hb
 |x::r,p,hc,b,hb=>by
  unfold zls at hc;split at hc
  ·rename_i h1;exact absurd hc h1
  ·rename_i h1;have h1:zer m p x=0:=by simpa using h1
   rcases js.1 hb with rfl|hb
   ·obtain⟨a1,a2,a3,a4,a5,a6,a7,a8,a9,a10,_,_⟩:=zui h h1;exact⟨⟨a1,a2⟩,a3,a4,a5,a6,a7,a8,⟨a9,a10⟩⟩
   ·exact zxI h r x hc b hb
theorem zxJ{m:zD}(h:zcp m){k:zci}(hc:zdf m k=0):∀b∈k.jJ,VB m b:=by
 unfold zdf at hc;split at hc
 ·cases hc
 ·exact zxI h _ _ hc
theorem zBO{m:zD}{x fr to:Int}{b:zk}(hb:VB m b):∀z∈zoX x fr to b,VB m z:=by
 intro z hz;unfold zoX at hz;split at hz
 ·simp only[jh]at hz;subst hz;exact hb
 ·rename_i hc;have a1:=hb.lo;have a2:=hb.le;have a3:=hb.hi;rcases jm.1 hz with hz|hz
  ·split at hz
   ·simp only[jh]at hz;subst hz;exact⟨hb.lane,hb.lo,by show b.lo<=fr-1;omega,by show fr-1<=z8 m b.lane;omega,hb.vlo,hb.vle,hb.vhi,hb.hold⟩
   ·cases hz
  ·split at hz
   ·simp only[jh]at hz;subst hz;exact⟨hb.lane,by show 0<=to+1;omega,by show to+1<=b.hi;omega,hb.hi,hb.vlo,hb.vle,hb.vhi,hb.hold⟩
   ·cases hz
theorem zxH{m:zD}{x fr to:Int}:∀(l:List zk),(∀b∈l,VB m b)->∀z∈zhn x fr to l,VB m z
 |[],_,z,hz=>by cases hz
 |b::l,h,z,hz=>by
  unfold zhn at hz;rcases jm.1 hz with hz|hz
  ·exact zBO (h b (jr ..)) z hz
  ·exact zxH l (fun y hy=>h y (jp _ hy)) z hz
theorem zxu{m:zD}(e:Ego)(len:Int):∀(r:List Int) (a:Int) (l:List zk),(∀b∈l,VB m b)->∀z∈zpO m e len a r l,VB m z
 |[],_,l,h,z,hz=>h z hz
 |x::r,a,l,h,z,hz=>zxu e len r _ _ (zxH l h) z hz
theorem ztK{m:zD}(e:Ego)(len:Int)(r:List Int)(l:List zk)(h:∀b∈l,VB m b):∀z∈zkr m e len r l,VB m z:=by
 unfold zkr;split
 ·exact zxu e len r 0 l h
 ·exact h
theorem zij(m:zD)(e:Ego)(len:Int){r:List Int}(hr:r.length<=2)(l:List zk):(zkr m e len r l).length<=l.length*4:=by
 unfold zkr;split
 ·refine kd (zuX m e len r 0 l) (Nat.mul_le_mul_left _ ?_);exact Nat.pow_le_pow_right (by decide) hr
 ·omega
theorem zvw{m:zD}(h:zcp m):∀(r:List zk) (p:zk),zls m p r=0->p.lane<m.jf.length->p.hi<=1000000->(r.length:Int)+(p.lane*1000002+p.hi+1)<=m.jf.length*1000002
 |[],p,_,h1,h2=>by simp only[jB];omega
 |x::r,p,hc,h1,h2=>by
  unfold zls at hc;split at hc
  ·rename_i hx;exact absurd hc hx
  ·rename_i hx;have hx:zer m p x=0:=by simpa using hx
   obtain⟨a1,a2,a3,a4,a5,a6,a7,a8,a9,a10,a11,a12⟩:=zui h hx;have ih:=zvw h r x hc a2 (by omega);simp only[zmM,not_or,not_and,Int.not_lt,Int.not_le]at a12;simp only[jw];by_cases e:x.lane=p.lane
   ·have:=a12.2 e;rw[e]at ih;omega
   ·omega
theorem zqS(m:zD)(x:Int):∀(t:List zfn) (i:Nat),x∈zbK m i t<->∃j:Nat,j<t.length/\x=((i+j:Nat):Int)/\zes x 0 m.jf=[]
 |[],i=>by simp[zbK]
 |l::t,i=>by
  have ih:=zqS m x t (i+1);have step:(∃j:Nat,j<(l::t).length/\x=((i+j:Nat):Int)/\zes x 0 m.jf=[])<->(x=(i:Int)/\zes x 0 m.jf=[])\/x∈zbK m (i+1) t:=by
   rw[ih];constructor
   ·rintro⟨j,h1,h2,h3⟩;cases j with
    |zero=>exact .inl ⟨by simpa using h2,h3⟩
    |succ j=>exact .inr ⟨j,by simpa using h1,by rw[h2];congr 1;omega,h3⟩
   ·rintro(⟨h1,h2⟩ |⟨j,h1,h2,h3⟩)
    ·exact⟨0,by simp,by simpa using h1,h2⟩
    ·exact⟨j+1,by simp;omega,by rw[h2];congr 1;omega,h3⟩
  rw[step,zbK];split
  ·next hb =>
   rw[js];constructor
   ·rintro(h|h)
    ·exact .inl ⟨h,by rw[h];exact hb⟩
    ·exact .inr h
   ·rintro(⟨h,_⟩|h)
    ·exact .inl h
    ·exact .inr h
  ·next hb =>
   constructor
   ·exact .inr
   ·rintro(⟨h,h2⟩|h)
    ·rw[h]at h2;exact absurd h2 hb
    ·exact h
abbrev sN(N k:Nat):WV:=.c (.slice 0 N 6 0 k none)
abbrev cB:WV:=fn1 zdc
def swp(l:List zk)(i j:Nat):List zk:=(l.set i (l.getD j z9)).set j (l.getD i z9)
@[simp] theorem zDr(l:List zk)(i j:Nat):(swp l i j).length=l.length:=by simp[swp]
def zxj(f:FuncId)(N k:Nat)(rest:List Int)(l l':List zk):Prop:=∀v,∃v',v<=v'/\(v'=v->l'=l)/\R L Cs f (sN N k::(rest.map W++[cB])) [blk v l]=some (.t [],[blk v' l'])
theorem zrm{f:FuncId}{N k:Nat}{a b:Int}{l l':List zk}(h:zxj f N k [a,b] l l')(hl:l.length=N)(hl':l'.length=N)(v:Nat) :
  ∃v' fp,v<=v'/\(v'=v->l'=l)/\zx (R L Cs) ⟨false⟩ (fn1 f) [.c (.slice 0 N 6 0 k none),W a,W b,fn1 zdc] [some { box:=false,esz:=6,rows:=zI l,gen:=N,fz:=false,ver:=v }]=some (.t [],[some { box:=false,esz:=6,rows:=zI l',gen:=N,fz:=false,ver:=v' }],fp):=by
 obtain⟨v',h1,h2,h3⟩:=h v;simp only[blk,hl,hl',List.map,kf,jH]at h3;by_cases hv:v'=v
 ·have:=h2 hv;subst hv this;exact⟨v',.no,h1,h2,by simp[h3]⟩
 ·exact⟨v',.wr [(0,0,whole)],h1,h2,by simp[h3,hv]⟩
theorem zfi{f:FuncId}{N k:Nat}{a b c:Int}{l l':List zk}(h:zxj f N k [a,b,c] l l')(hl:l.length=N)(hl':l'.length=N)(v:Nat) :
  ∃v' fp,v<=v'/\(v'=v->l'=l)/\zx (R L Cs) ⟨false⟩ (fn1 f) [.c (.slice 0 N 6 0 k none),W a,W b,W c,fn1 zdc] [some { box:=false,esz:=6,rows:=zI l,gen:=N,fz:=false,ver:=v }]=some (.t [],[some { box:=false,esz:=6,rows:=zI l',gen:=N,fz:=false,ver:=v' }],fp):=by
 obtain⟨v',h1,h2,h3⟩:=h v;simp only[blk,hl,hl',List.map,kf,jH]at h3;by_cases hv:v'=v
 ·have:=h2 hv;subst hv this;exact⟨v',.no,h1,h2,by simp[h3]⟩
 ·exact⟨v',.wr [(0,0,whole)],h1,h2,by simp[h3,hv]⟩
def swR(a b:Nat):Nat->Nat->List zk->List zk
 |_,0,l=>l
 |i,m+1,l=>swR a b (i+1) m (swp l (a+i) (b+i))
@[simp] theorem zBg(a b:Nat):∀(m i:Nat) (l:List zk),(swR a b i m l).length=l.length
  |0,_,_=>rfl
  |m+1,i,l=>by rw[swR,zBg a b m];simp
theorem zv8(N k a b n:Nat)(hk:k<=N)(hN:N<=900000000000)(ha:a+n<=k)(hb:b+n<=k):∀(m i:Nat) (l:List zk) (v:Nat),i+m=n->l.length=N->∃v',v<=v'/\(v'=v->swR a b i m l=l) /\
  Y L Cs zbo (some [10,3,2,0,1]) 1 [(10,.w (W i)),(3,.w (W n)),(2,.w (W b)),(0,.w (sN N k)),(1,.w (W a))] [some { box:=false,esz:=6,rows:=zI l,gen:=N,fz:=false,ver:=v }] =
    some (.exit 0,[(13,.w (Bo false)),(10,.w (W n)),(3,.w (W n)),(2,.w (W b)),(0,.w (sN N k)),(1,.w (W a))],[some { box:=false,esz:=6,rows:=zI (swR a b i m l),gen:=N,fz:=false,ver:=v' }]):=by
 intro m;induction m with
 |zero =>
  intro i l v hi hl;have:i=n:=by omega
  subst this;refine⟨v,jk _,fun _=>rfl,?_⟩;rw[zj zbo.eq_1];simp[swR]
 |succ m ih =>
  intro i l v hi hl;obtain⟨v',h1,h2,h3⟩:=ih (i+1) (swp l (a+i) (b+i)) (v+1+1) (by omega) (by simp[hl]);refine⟨v',by omega,fun hv=>by omega,?_⟩;rw[swR,<-h3,zj zbo.eq_1];have hw:=zB (i:=i) (by omega);have hwa:IntKind.i64.wrap ((a:Int)+(i:Int))=((a+i:Nat):Int):=by rw[zTd _ (by omega) (by omega)];omega
  have hwb:IntKind.i64.wrap ((b:Int)+(i:Int))=((b+i:Nat):Int):=by rw[zTd _ (by omega) (by omega)];omega
  have a1:a+i<k:=by omega
  have a2:b+i<k:=by omega
  have a3:a+i<N:=by omega
  have a4:b+i<N:=by omega
  have a5:a+i<l.length:=by omega
  have a6:b+i<l.length:=by omega
  have hin:i<n:=by omega
  have hs1:=zeg l (a+i) l[b+i];have hs2:=zeg (l.set (a+i) l[b+i]) (b+i) l[a+i];have hsw:swp l (a+i) (b+i)=(l.set (a+i) l[b+i]).set (b+i) l[a+i]:=by simp[swp,a5,a6]
  have e1:(((a+i:Nat):Int)).toNat=a+i:=by omega
  have e2:(((b+i:Nat):Int)).toNat=b+i:=by omega
  simp only[ze]at hs1 hs2;clear ih h3 h1 h2;simp[hin,hw,hwa,hwb,a1,a2,a3,a4,a5,a6,hl,hs1,hs2,hsw,ze,e1,e2,zy3,-Int.natCast_add]
theorem zmn(N k a b n:Nat)(hk:k<=N)(hN:N<=900000000000)(ha:a+n<=k)(hb:b+n<=k)(l:List zk)(hl:l.length=N):zxj zg5 N k [(a:Int),(b:Int),(n:Int)] l (swR a b 0 n l):=by
 intro v;obtain⟨v',h1,h2,h3⟩:=zv8 N k a b n hk hN ha hb n 0 l v (by omega) hl;refine⟨v',h1,h2,?_⟩;simp only[ji]at h3;rw[zUa zhc rfl];simp[zcH,h3,hl,blk]
def zkm(m:Nat):Nat->Nat->Nat->List zk->Nat×List zk
 |0,i,j,l=>(i,l)
 |f+1,i,j,l=>if i=j then(i,l) else if j<i then zkm m f (i-j) j (swR (m-i) m 0 j l) else zkm m f i (j-i) (swR (m-i) (m+j-i) 0 i l)
theorem znR(m:Nat):∀(f i j:Nat) (l:List zk),(zkm m f i j l).2.length=l.length/\(0<i->0<j->i+j<=f->0<(zkm m f i j l).1/\(zkm m f i j l).1<=i/\(zkm m f i j l).1<=j)
 |0,i,j,l=>⟨rfl,fun _ _ _=>by omega⟩
 |f+1,i,j,l=>by
  rw[zkm];split
  ·exact⟨rfl,fun _ _ _=>by dsimp;omega⟩
  ·split
   ·obtain⟨h1,h2⟩:=znR m f (i-j) j (swR (m-i) m 0 j l);exact⟨by rw[h1];simp,fun a b c=>by have:=h2 (by omega) b (by omega);omega⟩
   ·obtain⟨h1,h2⟩:=znR m f i (j-i) (swR (m-i) (m+j-i) 0 i l);exact⟨by rw[h1];simp,fun a b c=>by have:=h2 a (by omega) (by omega);omega⟩
theorem zzB(N k m:Nat)(hk:k<=N)(hN:N<=900000000000):∀(f i j:Nat) (l:List zk) (v:Nat),i+j<=f->0<i->0<j->i<=m->m+j<=k->l.length=N->∃v' j',v<=v'/\(v'=v->(zkm m f i j l).2=l) /\
  Y L Cs zbc (some [10,0,2,4,11]) 1 [(10,.w (W i)),(0,.w (sN N k)),(2,.w (W m)),(4,.w cB),(11,.w (W j))] [some { box:=false,esz:=6,rows:=zI l,gen:=N,fz:=false,ver:=v }] =
    some (.exit 0,[(20,.w (Bo false)),(10,.w (W (zkm m f i j l).1)),(0,.w (sN N k)),(2,.w (W m)),(4,.w cB),(11,.w (W j'))],[some { box:=false,esz:=6,rows:=zI (zkm m f i j l).2,gen:=N,fz:=false,ver:=v' }]):=by
 intro f;induction f with
 |zero=>intro i j l v h1 h2;omega
 |succ f ih =>
  intro i j l v hf hi hj him hmj hl;rw[zkm];by_cases c:i=j
  ·subst c;refine⟨v,i,jk _,fun _=>by rw[if_pos rfl],?_⟩;rw[if_pos rfl,zj zbc.eq_1];simp
  ·rw[if_neg c];have hne:((i:Int) !=(j:Int))=true:=by simp;omega
   have hne2:((i:Int)==(j:Int))=false:=by simp;omega
   have hw1:IntKind.i64.wrap ((m:Int)-(i:Int))=((m-i:Nat):Int):=by rw[zTd _ (by omega) (by omega)];omega
   by_cases c2:j<i
   ·rw[if_pos c2];have hd:=zmn N k (m-i) m j hk hN (by omega) (by omega) l hl;obtain⟨v1,fp,q1,q2,q3⟩:=zfi hd hl (by simp[hl]) v;obtain⟨v',j',h1,h2,h3⟩:=ih (i-j) j (swR (m-i) m 0 j l) v1 (by omega) (by omega) hj (by omega) hmj (by simp[hl]);refine⟨v',j',by omega,fun hv=>by rw[h2 (by omega),q2 (by omega)],?_⟩;rw[<-h3,zj zbc.eq_1];have hw2:IntKind.i64.wrap ((i:Int)-(j:Int))=((i-j:Nat):Int):=by rw[zTd _ (by omega) (by omega)];omega
    have hc:(j:Int)<(i:Int):=by omega
    clear ih h3 hd;simp[hne,hne2,c,c2,hc,hw1,hw2,q3,-zx]
   ·rw[if_neg c2];have hd:=zmn N k (m-i) (m+j-i) i hk hN (by omega) (by omega) l hl;obtain⟨v1,fp,q1,q2,q3⟩:=zfi hd hl (by simp[hl]) v;obtain⟨v',j',h1,h2,h3⟩:=ih i (j-i) (swR (m-i) (m+j-i) 0 i l) v1 (by omega) hi (by omega) him (by omega) (by simp[hl]);refine⟨v',j',by omega,fun hv=>by rw[h2 (by omega),q2 (by omega)],?_⟩;rw[<-h3,zj zbc.eq_1];have hw2:IntKind.i64.wrap ((j:Int)-(i:Int))=((j-i:Nat):Int):=by rw[zTd _ (by omega) (by omega)];omega
    have hw3:IntKind.i64.wrap ((m:Int)+(j:Int))=((m+j:Nat):Int):=by rw[zTd _ (by omega) (by omega)];omega
    have hw4:IntKind.i64.wrap (((m+j:Nat):Int)-(i:Int))=((m+j-i:Nat):Int):=by rw[zTd _ (by omega) (by omega)];omega
    have hc:¬(j:Int)<(i:Int):=by omega
    clear ih h3 hd;simp[hne,hne2,c,c2,hc,hw1,hw2,hw3,hw4,q3,-zx,-Int.natCast_add]
def ztB(a m b:Nat)(l:List zk):List zk:=swR (m-(zkm m (b-a) (m-a) (b-m) l).1) m 0 (zkm m (b-a) (m-a) (b-m) l).1 (zkm m (b-a) (m-a) (b-m) l).2
@[simp] theorem zDj(a m b:Nat)(l:List zk):(ztB a m b l).length=l.length:=by simp[ztB,(znR m _ _ _ l).1]
theorem zAQ(N k a m b:Nat)(hk:k<=N)(hN:N<=900000000000)(ha:a<m)(hm:m<b)(hb:b<=k)(l:List zk)(hl:l.length=N):zxj ze4 N k [(a:Int),(m:Int),(b:Int)] l (ztB a m b l):=by
 intro v;obtain⟨v1,j',h1,h2,h3⟩:=zzB N k m hk hN (b-a) (m-a) (b-m) l v (by omega) (by omega) (by omega) (by omega) (by omega) hl;obtain⟨g1,g2⟩:=znR m (b-a) (m-a) (b-m) l;have g3:=g2 (by omega) (by omega) (by omega);unfold ztB;generalize zkm m (b-a) (m-a) (b-m) l=q at *;obtain⟨i,l1⟩:=q;dsimp only at *;have hd:=zmn N k (m-i) m i hk hN (by omega) (by omega) l1 (by omega);obtain⟨v2,fp,q1,q2,q3⟩:=zfi hd (by omega) (by simp;omega) v1;refine⟨v2,by omega,fun hv=>by rw[q2 (by omega),h2 (by omega)],?_⟩;rw[zUa zh9 rfl];have hw1:IntKind.i64.wrap ((m:Int)-(a:Int))=((m-a:Nat):Int):=by rw[zTd _ (by omega) (by omega)];omega
 have hw2:IntKind.i64.wrap ((b:Int)-(m:Int))=((b-m:Nat):Int):=by rw[zTd _ (by omega) (by omega)];omega
 have hw3:IntKind.i64.wrap ((m:Int)-(i:Int))=((m-i:Nat):Int):=by rw[zTd _ (by omega) (by omega)];omega
 simp[zdk,h3,hl,blk,g1,hw1,hw2,hw3,q3,-zx]
def bsF(p:Nat->Bool):Nat->Nat->Nat->Nat
 |0,i,_=>i
 |f+1,i,j=>if i<j then(if p ((i+j) / 2) then bsF p f ((i+j) / 2+1) j else bsF p f i ((i+j) / 2)) else i
theorem zju(p:Nat->Bool):∀(f i j:Nat),i<=j->i<=bsF p f i j/\bsF p f i j<=j
 |0,i,j,h=>⟨jk _,h⟩
 |f+1,i,j,h=>by
  rw[bsF];split
  ·split
   ·have:=zju p f ((i+j) / 2+1) j (by omega);omega
   ·have:=zju p f i ((i+j) / 2) (by omega);omega
  ·omega
theorem ztp(n:Nat)(h:n<4000000000000):IntKind.u64.wrap (n:Int)=(n:Int):=by
 simp[IntKind.wrap,IntKind.signed,IntKind.bits];omega
theorem zqe(n:Nat):Int.fdiv (n:Int) (2 ^ min 1 IntKind.u64.bits)=((n / 2:Nat):Int):=by
 show Int.fdiv (n:Int) 2=_;rw[Int.fdiv_eq_ediv_of_nonneg _ (by omega)];omega
theorem zqd(n:Nat)(h:n<4000000000000):IntKind.i64.wrap (n:Int)=(n:Int):=zTd _ (by omega) (by omega)
def pA(l:List zk)(a h:Nat):Bool:=decide (ziK (l.getD h z9) (l.getD a z9)<0)
def pB(l:List zk)(m h:Nat):Bool:=!decide (ziK (l.getD m z9) (l.getD h z9)<0)
def pC(l:List zk)(p c:Nat):Bool:=!decide (ziK (l.getD (p-c) z9) (l.getD c z9)<0)
theorem zxW(N k a:Nat)(hk:k<=N)(hN:N<=900000000000)(ha:a<k)(l:List zk)(hl:l.length=N)(v:Nat):∀(f i j:Nat),j-i<=f->i<=j->j<=k ->
  Y L Cs zaC (some [10,11,4,0,1]) 1 [(10,.w (W i)),(11,.w (W j)),(4,.w cB),(0,.w (sN N k)),(1,.w (W a))] [some { box:=false,esz:=6,rows:=zI l,gen:=N,fz:=false,ver:=v }] =
    some (.exit 0,[(33,.w (Bo false)),(10,.w (W (bsF (pA l a) f i j))),(11,.w (W (bsF (pA l a) f i j))),(4,.w cB),(0,.w (sN N k)),(1,.w (W a))],[some { box:=false,esz:=6,rows:=zI l,gen:=N,fz:=false,ver:=v }]):=by
 intro f;induction f with
 |zero =>
  intro i j hf hi hj;have:i=j:=by omega
  subst this;rw[bsF,zj zaC.eq_1];simp
 |succ f ih =>
  intro i j hf hi hj;rw[bsF];by_cases c:i<j
  ·rw[if_pos c];have hw1:IntKind.i64.wrap ((i:Int)+(j:Int))=((i+j:Nat):Int):=by rw[zTd _ (by omega) (by omega)];omega
   have hu:=ztp (i+j) (by omega);have hh:=zqe (i+j);generalize hhh:(i+j) / 2=h at *;have hi1:=zqd h (by omega);have hks:h<k:=by omega
   have hNs:h<N:=by omega
   have hls:h<l.length:=by omega
   have haN:a<N:=by omega
   have hal:a<l.length:=by omega
   have hc:=zop l[h] l[a];have hwh:=zB (i:=h) (by omega);have hp:pA l a h=decide (ziK l[h] l[a]<0):=by simp[pA,hls,hal]
   rw[hp];simp only[ze]at hc;by_cases q:ziK l[h] l[a]<0
   ·rw[if_pos (by simpa using q),<-ih (h+1) j (by omega) (by omega) hj,zj zaC.eq_1];clear ih;simp[c,hw1,hu,hh,hi1,hks,hNs,hls,haN,hal,hc,q,hwh,hl,ha,ze,-Int.natCast_add]
   ·rw[if_neg (by simpa using q),<-ih i h (by omega) (by omega) (by omega),zj zaC.eq_1];clear ih;simp[c,hw1,hu,hh,hi1,hks,hNs,hls,haN,hal,hc,q,hwh,hl,ha,ze,-Int.natCast_add]
  ·rw[if_neg c];have:i=j:=by omega
   subst this;rw[zj zaC.eq_1];simp
theorem zxU(N k m:Nat)(hk:k<=N)(hN:N<=900000000000)(ha:m<k)(l:List zk)(hl:l.length=N)(v:Nat):∀(f i j:Nat),j-i<=f->i<=j->j<=k ->
  Y L Cs zaB (some [14,15,4,2,0]) 1 [(14,.w (W i)),(15,.w (W j)),(4,.w cB),(2,.w (W m)),(0,.w (sN N k))] [some { box:=false,esz:=6,rows:=zI l,gen:=N,fz:=false,ver:=v }] =
    some (.exit 4,[(85,.w (Bo false)),(14,.w (W (bsF (pB l m) f i j))),(15,.w (W (bsF (pB l m) f i j))),(4,.w cB),(2,.w (W m)),(0,.w (sN N k))],[some { box:=false,esz:=6,rows:=zI l,gen:=N,fz:=false,ver:=v }]):=by
 intro f;induction f with
 |zero =>
  intro i j hf hi hj;have:i=j:=by omega
  subst this;rw[bsF,zj zaB.eq_1];simp
 |succ f ih =>
  intro i j hf hi hj;rw[bsF];by_cases c:i<j
  ·rw[if_pos c];have hw1:IntKind.i64.wrap ((i:Int)+(j:Int))=((i+j:Nat):Int):=by rw[zTd _ (by omega) (by omega)];omega
   have hu:=ztp (i+j) (by omega);have hh:=zqe (i+j);generalize hhh:(i+j) / 2=h at *;have hi1:=zqd h (by omega);have hks:h<k:=by omega
   have hNs:h<N:=by omega
   have hls:h<l.length:=by omega
   have haN:m<N:=by omega
   have hal:m<l.length:=by omega
   have hc:=zop l[m] l[h];have hwh:=zB (i:=h) (by omega);have hp:pB l m h = !decide (ziK l[m] l[h]<0):=by simp[pB,hls,hal]
   rw[hp];simp only[ze]at hc;by_cases q:ziK l[m] l[h]<0
   ·rw[if_neg (by simpa using q),<-ih i h (by omega) (by omega) (by omega),zj zaB.eq_1];clear ih;simp[c,hw1,hu,hh,hi1,hks,hNs,hls,haN,hal,hc,q,hwh,hl,ha,ze,-Int.natCast_add]
   ·rw[if_pos (by simpa using q),<-ih (h+1) j (by omega) (by omega) hj,zj zaB.eq_1];clear ih;simp[c,hw1,hu,hh,hi1,hks,hNs,hls,haN,hal,hc,q,hwh,hl,ha,ze,-Int.natCast_add]
  ·rw[if_neg c];have:i=j:=by omega
   subst this;rw[zj zaB.eq_1];simp
abbrev e5(b mid a m n p:Nat)(N k i j:Nat):Env:=[(20,.w (W i)),(3,.w (W b)),(18,.w (W mid)),(1,.w (W a)),(2,.w (W m)),(19,.w (W n)),(21,.w (W j)),(4,.w cB),(22,.w (W p)),(0,.w (sN N k))]
theorem zxS(N k b mid a m n p:Nat)(hk:k<=N)(hN:N<=900000000000)(hp1:p<=2000000000000)(l:List zk)(hl:l.length=N)(v:Nat):∀(f i j:Nat),j-i<=f->i<=j->j<=k->j<=p+1->p<k+i ->
  Y L Cs zaA (some [20,3,18,1,2,19,21,4,22,0]) 1 (e5 b mid a m n p N k i j) [some { box:=false,esz:=6,rows:=zI l,gen:=N,fz:=false,ver:=v }] =
    some (.exit 8,(151,.w (Bo false))::e5 b mid a m n p N k (bsF (pC l p) f i j) (bsF (pC l p) f i j),[some { box:=false,esz:=6,rows:=zI l,gen:=N,fz:=false,ver:=v }]):=by
 intro f;induction f with
 |zero =>
  intro i j hf hi hj hjp hpi;have:i=j:=by omega
  subst this;rw[bsF,zj zaA.eq_1];simp
 |succ f ih =>
  intro i j hf hi hj hjp hpi;rw[bsF];by_cases c:i<j
  ·rw[if_pos c];have hw1:IntKind.i64.wrap ((i:Int)+(j:Int))=((i+j:Nat):Int):=by rw[zTd _ (by omega) (by omega)];omega
   have hu:=ztp (i+j) (by omega);have hh:=zqe (i+j);generalize hhh:(i+j) / 2=h at *;have hi1:=zqd h (by omega);have hks:h<k:=by omega
   have hNs:h<N:=by omega
   have hls:h<l.length:=by omega
   have hw2:IntKind.i64.wrap ((p:Int)-(h:Int))=((p-h:Nat):Int):=by rw[zTd _ (by omega) (by omega)];omega
   have hkp:p-h<k:=by omega
   have hNp:p-h<N:=by omega
   have hlp:p-h<l.length:=by omega
   have hc:=zop l[p-h] l[h];have hwh:=zB (i:=h) (by omega);have hp:pC l p h = !decide (ziK l[p-h] l[h]<0):=by simp[pC,hls,hlp]
   rw[hp];simp only[ze]at hc;by_cases q:ziK l[p-h] l[h]<0
   ·rw[if_neg (by simpa using q),<-ih i h (by omega) (by omega) (by omega) (by omega) (by omega),zj zaA.eq_1];clear ih;simp[c,hw1,hu,hh,hi1,hks,hNs,hls,hw2,hkp,hNp,hlp,hc,q,hwh,hl,ze,-Int.natCast_add]
   ·rw[if_pos (by simpa using q),<-ih (h+1) j (by omega) (by omega) hj (by omega) (by omega),zj zaA.eq_1];clear ih;simp[c,hw1,hu,hh,hi1,hks,hNs,hls,hw2,hkp,hNp,hlp,hc,q,hwh,hl,ze,-Int.natCast_add]
  ·rw[if_neg c];have:i=j:=by omega
   subst this;rw[zj zaA.eq_1];simp
def upF:Nat->Nat->List zk->List zk
 |_,0,l=>l
 |k,c+1,l=>upF (k+1) c (swp l k (k+1))
def dnF:Nat->Nat->List zk->List zk
 |_,0,l=>l
 |k,c+1,l=>dnF (k-1) c (swp l k (k-1))
@[simp] theorem zBf:∀(c k:Nat) (l:List zk),(upF k c l).length=l.length
  |0,_,_=>rfl
  |c+1,k,l=>by rw[upF,zBf c];simp
@[simp] theorem zBN:∀(c k:Nat) (l:List zk),(dnF k c l).length=l.length
  |0,_,_=>rfl
  |c+1,k,l=>by rw[dnF,zBN c];simp
theorem zxV(N k i:Nat)(hk:k<=N)(hN:N<=900000000000)(hi0:0<i)(hi:i<=k):∀(c q:Nat) (l:List zk) (v:Nat),q+c=i-1->l.length=N->∃v',v<=v'/\(v'=v->upF q c l=l) /\
  Y L Cs zbv (some [13,10,0]) 1 [(13,.w (W q)),(10,.w (W i)),(0,.w (sN N k))] [some { box:=false,esz:=6,rows:=zI l,gen:=N,fz:=false,ver:=v }] =
    some (.exit 2,[(58,.w (Bo false)),(13,.w (W ((i-1:Nat):Int))),(10,.w (W i)),(0,.w (sN N k))],[some { box:=false,esz:=6,rows:=zI (upF q c l),gen:=N,fz:=false,ver:=v' }]):=by
 intro c;have hw0:IntKind.i64.wrap ((i:Int)-1)=((i-1:Nat):Int):=by rw[zTd _ (by omega) (by omega)];omega
 induction c with
 |zero =>
  intro q l v hq hl;have:q=i-1:=by omega
  subst this;refine⟨v,jk _,fun _=>rfl,?_⟩;rw[zj zbv.eq_1];simp[upF,hw0]
 |succ c ih =>
  intro q l v hq hl;obtain⟨v',h1,h2,h3⟩:=ih (q+1) (swp l q (q+1)) (v+1+1) (by omega) (by simp[hl]);refine⟨v',by omega,fun hv=>by omega,?_⟩;rw[upF,<-h3,zj zbv.eq_1];have hw:=zB (i:=q) (by omega);have a1:q<k:=by omega
  have a2:q+1<k:=by omega
  have a3:q<N:=by omega
  have a4:q+1<N:=by omega
  have a5:q<l.length:=by omega
  have a6:q+1<l.length:=by omega
  have hin:q<i-1:=by omega
  have hs1:=zeg l q l[q+1];have hs2:=zeg (l.set q l[q+1]) (q+1) l[q];have hsw:swp l q (q+1)=(l.set q l[q+1]).set (q+1) l[q]:=by simp[swp,a5,a6]
  have e2:(((q+1:Nat):Int)).toNat=q+1:=by omega
  simp only[ze]at hs1 hs2;clear ih h3 h1 h2;simp[hin,hw,hw0,a1,a2,a3,a4,a5,a6,hl,hs1,hs2,hsw,ze,e2,-Int.natCast_add]
theorem zxT(N k i:Nat)(hk:k<=N)(hN:N<=900000000000):∀(c q:Nat) (l:List zk) (v:Nat),i+c=q->q<k->l.length=N->∃v',v<=v'/\(v'=v->dnF q c l=l) /\
  Y L Cs zbu (some [17,14,0]) 1 [(17,.w (W q)),(14,.w (W i)),(0,.w (sN N k))] [some { box:=false,esz:=6,rows:=zI l,gen:=N,fz:=false,ver:=v }] =
    some (.exit 6,[(110,.w (Bo false)),(17,.w (W i)),(14,.w (W i)),(0,.w (sN N k))],[some { box:=false,esz:=6,rows:=zI (dnF q c l),gen:=N,fz:=false,ver:=v' }]):=by
 intro c;induction c with
 |zero =>
  intro q l v hq hqk hl;have:q=i:=by omega
  subst this;refine⟨v,jk _,fun _=>rfl,?_⟩;rw[zj zbu.eq_1];simp[dnF]
 |succ c ih =>
  intro q l v hq hqk hl;obtain⟨q,rfl⟩:∃r,q=r+1:=⟨q-1,by omega⟩;obtain⟨v',h1,h2,h3⟩:=ih q (swp l (q+1) q) (v+1+1) (by omega) (by omega) (by simp[hl]);refine⟨v',by omega,fun hv=>by omega,?_⟩;rw[dnF,Nat.add_sub_cancel,<-h3,zj zbu.eq_1];have hw:IntKind.i64.wrap (((q+1:Nat):Int)-1)=(q:Int):=by rw[zTd _ (by omega) (by omega)];omega
  have a1:q<k:=by omega
  have a2:q+1<k:=by omega
  have a3:q<N:=by omega
  have a4:q+1<N:=by omega
  have a5:q<l.length:=by omega
  have a6:q+1<l.length:=by omega
  have hin:i<q+1:=by omega
  have hs1:=zeg l (q+1) l[q];have hs2:=zeg (l.set (q+1) l[q]) q l[q+1];have hsw:swp l (q+1) q=(l.set (q+1) l[q]).set q l[q+1]:=by simp[swp,a5,a6]
  have e2:(((q+1:Nat):Int)).toNat=q+1:=by omega
  simp only[ze]at hs1 hs2;clear ih h3 h1 h2;simp[hin,hw,a1,a2,a3,a4,a5,a6,hl,hs1,hs2,hsw,ze,e2,-Int.natCast_add]
def zbS(a b:Nat):Nat:=(a+b) / 2
def loS(a m b:Nat):Nat:=if zbS a b<m then zbS a b+m-b else a
def hiS(a m b:Nat):Nat:=if zbS a b<m then zbS a b else m
def stS(a m b:Nat)(l:List zk):Nat:=bsF (pC l (zbS a b+m-1)) (hiS a m b-loS a m b) (loS a m b) (hiS a m b)
def enS(a m b:Nat)(l:List zk):Nat:=zbS a b+m-stS a m b l
def zjz(a m b:Nat)(l:List zk):List zk:=if stS a m b l<m/\m<enS a m b l then ztB (stS a m b l) m (enS a m b l) l else l
def zlI:Nat->Nat->Nat->Nat->List zk->List zk
 |0,_,_,_,l=>l
 |f+1,a,m,b,l =>
  if m-a=1 then upF a (bsF (pA l a) (b-m) m b-1-a) l
  else if b-m=1 then dnF m (m-bsF (pB l m) (m-a) a m) l
  else
   let l2:=if a<stS a m b l/\stS a m b l<zbS a b then zlI f a (stS a m b l) (zbS a b) (zjz a m b l) else zjz a m b l
   if zbS a b<enS a m b l/\enS a m b l<b then zlI f (zbS a b) (enS a m b l) b l2 else l2
@[simp] theorem zC6(a m b:Nat)(l:List zk):(zjz a m b l).length=l.length:=by unfold zjz;split<;>simp
@[simp] theorem zzn:∀(f a m b:Nat) (l:List zk),(zlI f a m b l).length=l.length
  |0,_,_,_,_=>rfl
  |f+1,a,m,b,l=>by
   rw[zlI];split
   ·simp
   ·split
    ·simp
    ·dsimp only;split<;>split<;>simp[zzn f]
structure Bd(a m b:Nat)(l:List zk):Prop where
 lo:loS a m b<=hiS a m b
 st:loS a m b<=stS a m b l/\stS a m b l<=hiS a m b
 hi:hiS a m b<=m/\a<=loS a m b
 en:m<=enS a m b l/\enS a m b l<=b
 mid:a<zbS a b/\zbS a b<b
 p:hiS a m b<=zbS a b+m-1+1/\zbS a b+m-1<b+loS a m b
 sm:loS a m b<4000000000000
theorem zDk{a m b:Nat}(h1:a<m)(h2:m<b)(hb:b<=900000000000)(l:List zk):Bd a m b l:=by
 have hm:zbS a b=(a+b) / 2:=rfl;have hlo:loS a m b<=hiS a m b:=by unfold loS hiS;split<;>omega
 have hst:=zju (pC l (zbS a b+m-1)) (hiS a m b-loS a m b) (loS a m b) (hiS a m b) hlo;have Bh:loS a m b<=stS a m b l/\stS a m b l<=hiS a m b:=hst;have hen:enS a m b l=zbS a b+m-stS a m b l:=rfl;have e1:hiS a m b<=m/\a<=loS a m b/\loS a m b<4000000000000:=by unfold loS hiS;split<;>omega
 have e2:hiS a m b<=zbS a b+m-1+1/\zbS a b+m-1<b+loS a m b:=by unfold loS hiS;split<;>omega
 have e3:m<=zbS a b+m-stS a m b l/\zbS a b+m-stS a m b l<=b:=by
  have h3:=Bh.1;have h4:=Bh.2;by_cases c:zbS a b<m
  ·simp only[loS,if_pos c]at h3;simp only[hiS,if_pos c]at h4;omega
  ·simp only[loS,if_neg c]at h3;simp only[hiS,if_neg c]at h4;omega
 exact⟨hlo,Bh,⟨e1.1,e1.2.1⟩,by rw[hen];exact e3,by omega,e2,e1.2.2⟩
theorem BE{P Q C A B:Prop}(h:P/\Q->C)(h':¬(P/\Q)->A/\B):(P/\Q/\C)\/(P/\¬Q/\A/\B/\True)\/(¬P/\True/\A/\B/\True):=by
 by_cases p:P
 ·by_cases q:Q
  ·exact .inl ⟨p,q,h ⟨p,q⟩⟩
  ·have:=h' fun x=>q x.2
   exact .inr (.inl ⟨p,q,this.1,this.2,trivial⟩)
 ·have:=h' fun x=>p x.1
  exact .inr (.inr ⟨p,trivial,this.1,this.2,trivial⟩)
theorem zrM(N k:Nat)(hk:k<=N)(hN:N<=900000000000):∀(f a m b:Nat) (l:List zk),b-a<=f->a<m->m<b->b<=k->l.length=N->zxj zcQ N k [(a:Int),(m:Int),(b:Int)] l (zlI f a m b l):=by
 intro f;induction f with
 |zero=>intro a m b l h1 h2 h3;omega
 |succ f ih =>
  intro a m b l hf ham hmb hbk hl v;have w1:IntKind.i64.wrap ((m:Int)-(a:Int))=((m-a:Nat):Int):=by rw[zTd _ (by omega) (by omega)];omega
  have w2:IntKind.i64.wrap ((b:Int)-(m:Int))=((b-m:Nat):Int):=by rw[zTd _ (by omega) (by omega)];omega
  rw[zlI];by_cases c1:m-a=1
  ·rw[if_pos c1];have h1:=zxW N k a hk hN (by omega) l hl v (b-m) m b (jk _) (by omega) hbk;have hb:=zju (pA l a) (b-m) m b (by omega);obtain⟨v',g1,g2,h2⟩:=zxV N k (bsF (pA l a) (b-m) m b) hk hN (by omega) (by omega) (bsF (pA l a) (b-m) m b-1-a) a l v (by omega) hl;refine⟨v',g1,g2,?_⟩;generalize bsF (pA l a) (b-m) m b=i at *;rw[zUa zcU rfl];have c1':((m-a:Nat):Int)=1:=by omega
   simp[zc,w1,c1,h1,h2,blk,hl]
  ·rw[if_neg c1];have c1':(((m-a:Nat):Int)==1)=false:=by simp;omega
   by_cases c2:b-m=1
   ·rw[if_pos c2];have h1:=zxU N k m hk hN (by omega) l hl v (m-a) a m (jk _) (by omega) (by omega);have hb:=zju (pB l m) (m-a) a m (by omega);obtain⟨v',g1,g2,h2⟩:=zxT N k (bsF (pB l m) (m-a) a m) hk hN (m-bsF (pB l m) (m-a) a m) m l v (by omega) (by omega) hl;refine⟨v',g1,g2,?_⟩;generalize bsF (pB l m) (m-a) a m=i at *;rw[zUa zcU rfl];simp[zc,w1,w2,c1',c2,h1,h2,blk,hl]
   ·rw[if_neg c2];have c2':(((b-m:Nat):Int)==1)=false:=by simp;omega
    have bd:=zDk ham hmb (by omega) l;have hL:=zxS N k b (zbS a b) a m (zbS a b+m) (zbS a b+m-1) hk hN (by have:=bd.mid;omega) l hl v (hiS a m b-loS a m b) (loS a m b) (hiS a m b) (jk _) bd.lo (by have:=bd.hi;omega) bd.p.1 (by have:=bd.p.2;omega);have eS:bsF (pC l (zbS a b+m-1)) (hiS a m b-loS a m b) (loS a m b) (hiS a m b)=stS a m b l:=rfl;rw[eS]at hL;have hen:enS a m b l=zbS a b+m-stS a m b l:=rfl;have b1:=bd.st;have b2:=bd.hi;have b3:=bd.en;have b4:=bd.mid;have hT:∃v1 fp1,v<=v1/\(v1=v->zjz a m b l=l)/\(stS a m b l<m/\m<enS a m b l->zx (R L Cs) ⟨false⟩ (fn1 ze4) [.c (.slice 0 N 6 0 k none),W (stS a m b l),W m,W (enS a m b l),fn1 zdc] [some { box:=false,esz:=6,rows:=zI l,gen:=N,fz:=false,ver:=v }]=some (.t [],[some { box:=false,esz:=6,rows:=zI (zjz a m b l),gen:=N,fz:=false,ver:=v1 }],fp1))/\(¬(stS a m b l<m/\m<enS a m b l)->zjz a m b l=l/\v1=v):=by
     by_cases c:stS a m b l<m/\m<enS a m b l
     ·have e:zjz a m b l=ztB (stS a m b l) m (enS a m b l) l:=by rw[zjz,if_pos c]
      have hd:=zAQ N k (stS a m b l) m (enS a m b l) hk hN c.1 c.2 (by omega) l hl;rw[<-e]at hd;obtain⟨v1,fp,q1,q2,q3⟩:=zfi hd hl (by simp[hl]) v;exact⟨v1,fp,q1,q2,fun _=>q3,fun h=>absurd c h⟩
     ·have e:zjz a m b l=l:=by rw[zjz,if_neg c]
      exact⟨v,.no,jk _,fun _=>e,fun h=>absurd h c,fun _=>⟨e,rfl⟩⟩
    obtain⟨v1,fp1,t1,t2,t3,t4⟩:=hT;generalize hl1:zjz a m b l=l1 at *;have hl1n:l1.length=N:=by rw[<-hl1];simp[hl]
    dsimp only;generalize hl2:(if a<stS a m b l/\stS a m b l<zbS a b then zlI f a (stS a m b l) (zbS a b) l1 else l1)=l2;have hl2n:l2.length=N:=by rw[<-hl2];split<;>simp[hl1n]
    have hA:∃v2 fp2,v1<=v2/\(v2=v1->l2=l1)/\(a<stS a m b l/\stS a m b l<zbS a b->zx (R L Cs) ⟨false⟩ (fn1 zcQ) [.c (.slice 0 N 6 0 k none),W a,W (stS a m b l),W (zbS a b),fn1 zdc] [some { box:=false,esz:=6,rows:=zI l1,gen:=N,fz:=false,ver:=v1 }]=some (.t [],[some { box:=false,esz:=6,rows:=zI l2,gen:=N,fz:=false,ver:=v2 }],fp2))/\(¬(a<stS a m b l/\stS a m b l<zbS a b)->l2=l1/\v2=v1):=by
     by_cases c:a<stS a m b l/\stS a m b l<zbS a b
     ·rw[if_pos c]at hl2;have hd:=ih a (stS a m b l) (zbS a b) l1 (by omega) c.1 c.2 (by omega) hl1n;rw[hl2]at hd;obtain⟨v2,fp,q1,q2,q3⟩:=zfi hd hl1n hl2n v1;exact⟨v2,fp,q1,q2,fun _=>q3,fun h=>absurd c h⟩
     ·rw[if_neg c]at hl2;exact⟨v1,.no,jk _,fun _=>hl2.symm,fun h=>absurd h c,fun _=>⟨hl2.symm,rfl⟩⟩
    obtain⟨v2,fp2,s1,s2,s3,s4⟩:=hA;generalize hl3:(if zbS a b<enS a m b l/\enS a m b l<b then zlI f (zbS a b) (enS a m b l) b l2 else l2)=l3;have hl3n:l3.length=N:=by rw[<-hl3];split<;>simp[hl2n]
    have hB:∃v3 fp3,v2<=v3/\(v3=v2->l3=l2)/\(zbS a b<enS a m b l/\enS a m b l<b->zx (R L Cs) ⟨false⟩ (fn1 zcQ) [.c (.slice 0 N 6 0 k none),W (zbS a b),W (enS a m b l),W b,fn1 zdc] [some { box:=false,esz:=6,rows:=zI l2,gen:=N,fz:=false,ver:=v2 }]=some (.t [],[some { box:=false,esz:=6,rows:=zI l3,gen:=N,fz:=false,ver:=v3 }],fp3))/\(¬(zbS a b<enS a m b l/\enS a m b l<b)->l3=l2/\v3=v2):=by
     by_cases c:zbS a b<enS a m b l/\enS a m b l<b
     ·rw[if_pos c]at hl3;have hd:=ih (zbS a b) (enS a m b l) b l2 (by omega) c.1 c.2 (by omega) hl2n;rw[hl3]at hd;obtain⟨v3,fp,q1,q2,q3⟩:=zfi hd hl2n hl3n v2;exact⟨v3,fp,q1,q2,fun _=>q3,fun h=>absurd c h⟩
     ·rw[if_neg c]at hl3;exact⟨v2,.no,jk _,fun _=>hl3.symm,fun h=>absurd h c,fun _=>⟨hl3.symm,rfl⟩⟩
    obtain⟨v3,fp3,r1,r2,r3,r4⟩:=hB;refine⟨v3,by omega,fun hv=>by rw[r2 (by omega),s2 (by omega),t2 (by omega)],?_⟩;have w3:IntKind.i64.wrap ((a:Int)+(b:Int))=((a+b:Nat):Int):=by rw[zTd _ (by omega) (by omega)];omega
    have w4:=ztp (a+b) (by omega);have w5:Int.fdiv ((a+b:Nat):Int) (2 ^ min 1 IntKind.u64.bits)=((zbS a b:Nat):Int):=zqe (a+b);have w6:=zqd (zbS a b) (by omega);have w7:IntKind.i64.wrap ((zbS a b:Int)+(m:Int))=((zbS a b+m:Nat):Int):=by rw[zTd _ (by omega) (by omega)];omega
    have w8:IntKind.i64.wrap (((zbS a b+m:Nat):Int)-1)=((zbS a b+m-1:Nat):Int):=by rw[zTd _ (by omega) (by omega)];omega
    have w9:IntKind.i64.wrap (((zbS a b+m:Nat):Int)-(stS a m b l:Int))=((enS a m b l:Nat):Int):=by rw[zTd _ (by omega) (by omega)];omega
    have w10:zbS a b<m->IntKind.i64.wrap (((zbS a b+m:Nat):Int)-(b:Int))=((loS a m b:Nat):Int):=fun h=>by
     have:loS a m b=zbS a b+m-b:=by rw[loS,if_pos h]
     rw[zTd _ (by omega) (by omega)];have:b<=zbS a b+m:=by have:zbS a b=(a+b) / 2:=rfl;omega
     omega
    have w11:zbS a b<m->hiS a m b=zbS a b:=fun h=>by rw[hiS,if_pos h]
    have w12:¬zbS a b<m->hiS a m b=m/\loS a m b=a:=fun h=>by rw[hiS,loS,if_neg h,if_neg h];exact⟨rfl,rfl⟩
    generalize stS a m b l=st at *;generalize enS a m b l=en at *;generalize zbS a b=mid at *;generalize loS a m b=lo at *;generalize hiS a m b=hi at *;rw[zUa zcU rfl];clear ih bd;have Ad:∀E,X L Cs zc.code E [blk v l]=X L Cs zc.code E [some { box:=false,esz:=6,rows:=zI l,gen:=N,fz:=false,ver:=v }]:=fun E=>by simp[blk,hl]
    simp only[e5]at hL;by_cases d1:mid<m
    ·rw[w11 d1]at hL;have w10:=w10 d1;rcases BE t3 t4 with⟨d2,d2b,t3⟩ |⟨d2,d2b,e1,e2,t3⟩ |⟨d2,d2b,e1,e2,t3⟩<;>(try subst e1 e2)<;>rcases BE s3 s4 with⟨d3,d3b,s3⟩ |⟨d3,d3b,e1,e2,s3⟩ |⟨d3,d3b,e1,e2,s3⟩<;>(try subst e1 e2)<;>rcases BE r3 r4 with⟨d4,d4b,r3⟩ |⟨d4,d4b,e1,e2,r3⟩ |⟨d4,d4b,e1,e2,r3⟩<;>(try subst e1 e2)<;>simp[zc,w1,w2,c1',c2',w3,w4,w5,w6,w7,w8,w9,w10,hL,d1,d2,d2b,d3,d3b,d4,d4b,t3,s3,r3,blk,hl,hl3n,-zx,-Int.natCast_add]
    ·obtain⟨e3,e4⟩:=w12 d1;rw[e3,e4]at hL;rcases BE t3 t4 with⟨d2,d2b,t3⟩ |⟨d2,d2b,e1,e2,t3⟩ |⟨d2,d2b,e1,e2,t3⟩<;>(try subst e1 e2)<;>rcases BE s3 s4 with⟨d3,d3b,s3⟩ |⟨d3,d3b,e1,e2,s3⟩ |⟨d3,d3b,e1,e2,s3⟩<;>(try subst e1 e2)<;>rcases BE r3 r4 with⟨d4,d4b,r3⟩ |⟨d4,d4b,e1,e2,r3⟩ |⟨d4,d4b,e1,e2,r3⟩<;>(try subst e1 e2)<;>simp[zc,w1,w2,c1',c2',w3,w4,w5,w6,w7,w8,w9,hL,d1,d2,d2b,d3,d3b,d4,d4b,t3,s3,r3,blk,hl,hl3n,-zx,-Int.natCast_add]
def zrH(a:Nat):Nat->List zk->List zk
 |0,l=>l
 |c+1,l=>if ziK (l.getD (a+c+1) z9) (l.getD (a+c) z9)<0 then zrH a c (swp l (a+c+1) (a+c)) else l
@[simp] theorem zAE(a:Nat):∀(c:Nat) (l:List zk),(zrH a c l).length=l.length
  |0,l=>rfl
  |c+1,l=>by
   rw[zrH];split
   ·rw[zAE a c];simp
   ·rfl
theorem zwR(N k a b i:Nat)(hk:k<=N)(hN:N<=900000000000):∀(c:Nat) (l:List zk) (v:Nat),a+c<k->l.length=N->∃v' j',v<=v'/\(v'=v->zrH a c l=l) /\
  Y L Cs zaD (some [9,3,1,2,8,0]) 1 [(9,.w (W ((a+c:Nat):Int))),(3,.w cB),(1,.w (W a)),(2,.w (W b)),(8,.w (W i)),(0,.w (sN N k))] [some { box:=false,esz:=6,rows:=zI l,gen:=N,fz:=false,ver:=v }] =
    some (.exit 2,[(34,.w (Bo false)),(9,.w (W j')),(3,.w cB),(1,.w (W a)),(2,.w (W b)),(8,.w (W i)),(0,.w (sN N k))],[some { box:=false,esz:=6,rows:=zI (zrH a c l),gen:=N,fz:=false,ver:=v' }]):=by
 intro c;induction c with
 |zero =>
  intro l v hc hl;refine⟨v,a,jk _,fun _=>rfl,?_⟩;rw[zj zaD.eq_1];simp[zrH]
 |succ c ih =>
  intro l v hc hl;have a1:a+c+1<k:=by omega
  have a2:a+c<k:=by omega
  have a3:a+c+1<N:=by omega
  have a4:a+c<N:=by omega
  have a5:a+c+1<l.length:=by omega
  have a6:a+c<l.length:=by omega
  have hg:a<a+c+1:=by omega
  have hw:IntKind.i64.wrap (((a+c+1:Nat):Int)-1)=((a+c:Nat):Int):=by rw[zTd _ (by omega) (by omega)];omega
  have e1:l.getD (a+c+1) z9=l[a+c+1]:=by simp[a5]
  have e2:l.getD (a+c) z9=l[a+c]:=by simp[a6]
  have e3:(((a+c+1:Nat):Int)).toNat=a+c+1:=by omega
  have e4:(((a+c:Nat):Int)).toNat=a+c:=by omega
  have e5:a+(c+1)=a+c+1:=by omega
  have hc2:=zop l[a+c+1] l[a+c];simp only[ze]at hc2;rw[zrH,e1,e2,e5];by_cases h:ziK l[a+c+1] l[a+c]<0
  ·obtain⟨v',j',hv1,hv2,h4⟩:=ih (swp l (a+c+1) (a+c)) (v+1+1) (by omega) (by simp[hl]);refine⟨v',j',by omega,fun hv=>by omega,?_⟩;rw[if_pos h,<-h4,zj zaD.eq_1];have hs1:=zeg l (a+c+1) l[a+c];have hs2:=zeg (l.set (a+c+1) l[a+c]) (a+c) l[a+c+1];have hsw:swp l (a+c+1) (a+c)=(l.set (a+c+1) l[a+c]).set (a+c) l[a+c+1]:=by simp[swp,a5,a6]
   simp only[ze]at hs1 hs2;clear ih h4;simp[hg,hc2,h,hw,a1,a2,a3,a4,a5,a6,e3,e4,hl,ze,hs1,hs2,hsw,-Int.natCast_add]
  ·refine⟨v,((a+c+1:Nat):Int),jk _,fun _=>by rw[if_neg h],?_⟩;rw[if_neg h,zj zaD.eq_1];clear ih;simp[hg,hc2,h,hw,a1,a2,a3,a4,a5,a6,e3,e4,hl,ze,-Int.natCast_add]
def zjJ(a:Nat):Nat->Nat->List zk->List zk
 |_,0,l=>l
 |i,m+1,l=>zjJ a (i+1) m (zrH a i l)
@[simp] theorem zAn(a:Nat):∀(m i:Nat) (l:List zk),(zjJ a i m l).length=l.length
  |0,i,l=>rfl
  |m+1,i,l=>by rw[zjJ,zAn a m];simp
theorem zwQ(N k a b:Nat)(hk:k<=N)(hN:N<=900000000000)(hb:b<=k):∀(m i:Nat) (l:List zk) (v:Nat),b-(a+i)=m->a+i<=b+1->l.length=N->∃v' i',v<=v'/\(v'=v->zjJ a i m l=l) /\
  Y L Cs za3 (some [2,1,3,8,0]) 1 [(2,.w (W b)),(1,.w (W a)),(3,.w cB),(8,.w (W ((a+i:Nat):Int))),(0,.w (sN N k))] [some { box:=false,esz:=6,rows:=zI l,gen:=N,fz:=false,ver:=v }] =
    some (.exit 0,[(14,.w (Bo false)),(3,.w cB),(1,.w (W a)),(2,.w (W b)),(8,.w (W i')),(0,.w (sN N k))],[some { box:=false,esz:=6,rows:=zI (zjJ a i m l),gen:=N,fz:=false,ver:=v' }]):=by
 intro m;induction m with
 |zero =>
  intro i l v hm hi hl;have hg:¬a+i<b:=by omega
  refine⟨v,(a+i:Nat),jk _,fun _=>rfl,?_⟩;rw[zj za3.eq_1];simp[hg,zjJ,-Int.natCast_add]
 |succ m ih =>
  intro i l v hm hi hl;have hg:a+i<b:=by omega
  have hw:=zB (i:=a+i) (by omega);obtain⟨v1,j1,q1,q2,h1⟩:=zwR N k a b (a+i) hk hN i l v (by omega) hl;obtain⟨v2,i2,q3,q4,h2⟩:=ih (i+1) (zrH a i l) v1 (by omega) (by omega) (by simp[hl]);refine⟨v2,i2,by omega,fun hv=>by rw[zjJ,q4 (by omega),q2 (by omega)],?_⟩;rw[show a+(i+1)=a+i+1 by omega]at h2;rw[zjJ,<-h2,zj za3.eq_1];clear ih h2;simp[hg,h1,hw,hl,-Int.natCast_add]
theorem zAW(N k a b:Nat)(hk:k<=N)(hN:N<=900000000000)(ha:a<=b)(hb:b<=k)(l:List zk)(hl:l.length=N):zxj zf0 N k [(a:Int),(b:Int)] l (zjJ a 1 (b-(a+1)) l):=by
 intro v;obtain⟨v',i',q1,q2,h⟩:=zwQ N k a b hk hN hb (b-(a+1)) 1 l v rfl (by omega) hl;refine⟨v',q1,q2,?_⟩;rw[zUa zgc rfl];have hw:=zB (i:=a) (by omega);simp[zce,hw,h,blk,hl,-Int.natCast_add]
def zok(bs n:Nat):Nat->Nat->List zk->Nat×List zk
 |0,a,l=>(a,l)
 |f+1,a,l=>if a+bs<=n then zok bs n f (a+bs) (zjJ a 1 (a+bs-(a+1)) l) else(a,l)
theorem zrJ(bs n:Nat):∀(f a:Nat) (l:List zk),(zok bs n f a l).2.length=l.length/\(a<=n->(zok bs n f a l).1<=n)
 |0,a,l=>⟨rfl,fun h=>h⟩
 |f+1,a,l=>by
  rw[zok];split
  ·have:=zrJ bs n f (a+bs) (zjJ a 1 (a+bs-(a+1)) l);exact⟨by rw[this.1];simp,fun _=>this.2 (by omega)⟩
  ·exact⟨rfl,fun h=>h⟩
theorem zAH(N k bs:Nat)(hk:k<=N)(hN:N<=900000000000)(h0:0<bs)(h1:bs<=900000000000):∀(f a:Nat) (l:List zk) (v:Nat),k-a<f*bs->a<=k->l.length=N->∃v' b',v<=v'/\(v'=v->(zok bs k f a l).2=l) /\
  Y L Cs zbO (some [7,8,1,0,2,6]) 1 [(7,.w (W a)),(8,.w (W ((a+bs:Nat):Int))),(1,.w (W k)),(0,.w (sN N k)),(2,.w cB),(6,.w (W bs))] [some { box:=false,esz:=6,rows:=zI l,gen:=N,fz:=false,ver:=v }] =
    some (.exit 0,[(13,.w (Bo false)),(7,.w (W (zok bs k f a l).1)),(8,.w (W b')),(1,.w (W k)),(0,.w (sN N k)),(2,.w cB),(6,.w (W bs))],[some { box:=false,esz:=6,rows:=zI (zok bs k f a l).2,gen:=N,fz:=false,ver:=v' }]):=by
 intro f;induction f with
 |zero=>intro a l v hf;omega
 |succ f ih =>
  intro a l v hf ha hl;rw[zok];by_cases c:a+bs<=k
  ·rw[if_pos c];have hd:=zAW N k a (a+bs) hk hN (by omega) c l hl;obtain⟨v1,fp,q1,q2,q3⟩:=zrm hd hl (by simp[hl]) v;obtain⟨v2,b2,q4,q5,q6⟩:=ih (a+bs) (zjJ a 1 (a+bs-(a+1)) l) v1 (by rw[kJ]at hf;omega) c (by simp[hl]);refine⟨v2,b2,by omega,fun hv=>by rw[q5 (by omega),q2 (by omega)],?_⟩;rw[<-q6,zj zbO.eq_1];have hw:IntKind.i64.wrap (((a+bs:Nat):Int)+(bs:Int))=((a+bs+bs:Nat):Int):=by rw[zTd _ (by omega) (by omega)];omega
   clear ih q6 hd;simp[c,q3,hw,-zx,-Int.natCast_add]
  ·rw[if_neg c];refine⟨v,(a+bs:Nat),jk _,fun _=>rfl,?_⟩;rw[zj zbO.eq_1];simp[c,-Int.natCast_add]
def zgP(bs n:Nat):Nat->Nat->List zk->Nat×List zk
 |0,a,l=>(a,l)
 |f+1,a,l=>if a+2*bs<=n then zgP bs n f (a+2*bs) (zlI (2*bs) a (a+bs) (a+2*bs) l) else(a,l)
theorem zqR(bs n:Nat):∀(f a:Nat) (l:List zk),(zgP bs n f a l).2.length=l.length/\(a<=n->(zgP bs n f a l).1<=n)
 |0,a,l=>⟨rfl,fun h=>h⟩
 |f+1,a,l=>by
  rw[zgP];split
  ·have:=zqR bs n f (a+2*bs) (zlI (2*bs) a (a+bs) (a+2*bs) l);exact⟨by rw[this.1];simp,fun _=>this.2 (by omega)⟩
  ·exact⟨rfl,fun h=>h⟩
theorem zzZ(N k bs:Nat)(hk:k<=N)(hN:N<=900000000000)(h0:0<bs)(h1:bs<=900000000000):∀(f a:Nat) (l:List zk) (v:Nat),k-a<f*(2*bs)->a<=k->l.length=N->∃v' b',v<=v'/\(v'=v->(zgP bs k f a l).2=l) /\
  Y L Cs zbN (some [7,8,1,0,2,6]) 1 [(7,.w (W a)),(8,.w (W ((a+2*bs:Nat):Int))),(1,.w (W k)),(0,.w (sN N k)),(2,.w cB),(6,.w (W bs))] [some { box:=false,esz:=6,rows:=zI l,gen:=N,fz:=false,ver:=v }] =
    some (.exit 4,[(35,.w (Bo false)),(7,.w (W (zgP bs k f a l).1)),(8,.w (W b')),(1,.w (W k)),(0,.w (sN N k)),(2,.w cB),(6,.w (W bs))],[some { box:=false,esz:=6,rows:=zI (zgP bs k f a l).2,gen:=N,fz:=false,ver:=v' }]):=by
 intro f;induction f with
 |zero=>intro a l v hf;omega
 |succ f ih =>
  intro a l v hf ha hl;rw[zgP];by_cases c:a+2*bs<=k
  ·rw[if_pos c];have hd:=zrM N k hk hN (2*bs) a (a+bs) (a+2*bs) l (by omega) (by omega) (by omega) c hl;obtain⟨v1,fp,q1,q2,q3⟩:=zfi hd hl (by simp[hl]) v;obtain⟨v2,b2,q4,q5,q6⟩:=ih (a+2*bs) (zlI (2*bs) a (a+bs) (a+2*bs) l) v1 (by rw[kJ]at hf;omega) c (by simp[hl]);refine⟨v2,b2,by omega,fun hv=>by rw[q5 (by omega),q2 (by omega)],?_⟩;rw[<-q6,zj zbN.eq_1];have hw0:IntKind.i64.wrap ((a:Int)+(bs:Int))=((a+bs:Nat):Int):=by rw[zTd _ (by omega) (by omega)];omega
   have hw1:IntKind.i64.wrap (2*(bs:Int))=((2*bs:Nat):Int):=by rw[zTd _ (by omega) (by omega)];omega
   have hw:IntKind.i64.wrap (((a+2*bs:Nat):Int)+((2*bs:Nat):Int))=((a+2*bs+2*bs:Nat):Int):=by rw[zTd _ (by omega) (by omega)];omega
   clear ih q6 hd;simp[c,q3,hw0,hw1,hw,-zx,-Int.natCast_add,-Int.natCast_mul]
  ·rw[if_neg c];refine⟨v,(a+2*bs:Nat),jk _,fun _=>rfl,?_⟩;rw[zj zbN.eq_1];simp[c,-Int.natCast_add,-Int.natCast_mul]
def zjE(bs n:Nat)(l:List zk):List zk :=
 if(zgP bs n (n+1) 0 l).1+bs<n then zlI (n-(zgP bs n (n+1) 0 l).1) (zgP bs n (n+1) 0 l).1 ((zgP bs n (n+1) 0 l).1+bs) n (zgP bs n (n+1) 0 l).2 else(zgP bs n (n+1) 0 l).2
@[simp] theorem zDc(bs n:Nat)(l:List zk):(zjE bs n l).length=l.length:=by
  unfold zjE;have:=(zqR bs n (n+1) 0 l).1;split<;>simp[this]
def vg(n:Nat):Nat->Nat->List zk->List zk
 |0,_,l=>l
 |f+1,bs,l=>if bs<n then vg n f (2*bs) (zjE bs n l) else l
@[simp] theorem zwz(n:Nat):∀(f bs:Nat) (l:List zk),(vg n f bs l).length=l.length
  |0,_,_=>rfl
  |f+1,bs,l=>by
   rw[vg];split
   ·rw[zwz n f];simp
   ·rfl
theorem zyk(N k:Nat)(hk:k<=N)(hN:N<=900000000000):∀(f bs:Nat) (l:List zk) (v:Nat),k<bs+f->0<bs->bs<=1800000000000->l.length=N->∃v' b',v<=v'/\(v'=v->vg k f bs l=l) /\
  Y L Cs zaO (some [1,0,2,6]) 1 [(1,.w (W k)),(0,.w (sN N k)),(2,.w cB),(6,.w (W bs))] [some { box:=false,esz:=6,rows:=zI l,gen:=N,fz:=false,ver:=v }] =
    some (.exit 2,[(30,.w (Bo false)),(1,.w (W k)),(0,.w (sN N k)),(2,.w cB),(6,.w (W b'))],[some { box:=false,esz:=6,rows:=zI (vg k f bs l),gen:=N,fz:=false,ver:=v' }]):=by
 intro f;induction f with
 |zero =>
  intro bs l v hf h0 h1 hl;refine⟨v,bs,jk _,fun _=>rfl,?_⟩;have c:¬bs<k:=by omega
  rw[vg,zj zaO.eq_1];simp[c]
 |succ f ih =>
  intro bs l v hf h0 h1 hl;rw[vg];by_cases c:bs<k
  ·rw[if_pos c];obtain⟨v1,b1,q1,q2,q3⟩:=zzZ N k bs hk hN h0 (by omega) (k+1) 0 l v (by have:k+1<=(k+1)*(2*bs):=kY _ (by omega);omega) (jE _) hl;obtain⟨g1,g2⟩:=zqR bs k (k+1) 0 l;have g2:=g2 (jE _);have hw1:IntKind.i64.wrap (2*(bs:Int))=((2*bs:Nat):Int):=by rw[zTd _ (by omega) (by omega)];omega
   have hw2:IntKind.i64.wrap ((bs:Int)*2)=((2*bs:Nat):Int):=by rw[zTd _ (by omega) (by omega)];omega
   simp only[kv,ji]at q3;by_cases d:(zgP bs k (k+1) 0 l).1+bs<k
   ·have e:zjE bs k l=zlI (k-(zgP bs k (k+1) 0 l).1) (zgP bs k (k+1) 0 l).1 ((zgP bs k (k+1) 0 l).1+bs) k (zgP bs k (k+1) 0 l).2:=by rw[zjE,if_pos d]
    have hd:=zrM N k hk hN (k-(zgP bs k (k+1) 0 l).1) (zgP bs k (k+1) 0 l).1 ((zgP bs k (k+1) 0 l).1+bs) k (zgP bs k (k+1) 0 l).2 (jk _) (by omega) d (jk _) (by omega);rw[<-e]at hd;have pl:(zjE bs k l).length=N:=by simp[hl]
    obtain⟨v2,fp,q4,q5,q6⟩:=zfi hd (by omega) pl v1;obtain⟨v3,b3,q7,q8,q9⟩:=ih (2*bs) (zjE bs k l) v2 (by omega) (by omega) (by omega) pl;refine⟨v3,b3,by omega,fun hv=>by rw[q8 (by omega),q5 (by omega),q2 (by omega)],?_⟩;rw[<-q9,zj zaO.eq_1];clear ih q9 hd e;generalize zjE bs k l=pF at *;generalize zgP bs k (k+1) 0 l=q at *;have hw0:IntKind.i64.wrap ((q.1:Int)+(bs:Int))=((q.1+bs:Nat):Int):=by rw[zTd _ (by omega) (by omega)];omega
    simp[c,d,q3,q6,hw0,hw1,hw2,-zx,-Int.natCast_add,-Int.natCast_mul]
   ·have e:zjE bs k l=(zgP bs k (k+1) 0 l).2:=by rw[zjE,if_neg d]
    obtain⟨v3,b3,q7,q8,q9⟩:=ih (2*bs) (zjE bs k l) v1 (by omega) (by omega) (by omega) (by simp[hl]);refine⟨v3,b3,by omega,fun hv=>by rw[q8 (by omega),e,q2 (by omega)],?_⟩;rw[<-q9,e,zj zaO.eq_1];clear ih q9 e q8;generalize zgP bs k (k+1) 0 l=q at *;have hw0:IntKind.i64.wrap ((q.1:Int)+(bs:Int))=((q.1+bs:Nat):Int):=by rw[zTd _ (by omega) (by omega)];omega
    simp[c,d,q3,hw0,hw1,hw2,-zx,-Int.natCast_add,-Int.natCast_mul]
  ·rw[if_neg c];refine⟨v,bs,jk _,fun _=>rfl,?_⟩;rw[zj zaO.eq_1];simp[c]
def zmz(k:Nat)(l:List zk):List zk:=vg k k 20 (zjJ (zok 20 k (k+1) 0 l).1 1 (k-((zok 20 k (k+1) 0 l).1+1)) (zok 20 k (k+1) 0 l).2)
@[simp] theorem zCc(k:Nat)(l:List zk):(zmz k l).length=l.length:=by simp[zmz,(zrJ 20 k (k+1) 0 l).1]
theorem zsp(N k:Nat)(hk:k<=N)(hN:N<=900000000000)(l:List zk)(hl:l.length=N):zxj zhA N k [] l (zmz k l):=by
 intro v;obtain⟨v1,b1,q1,q2,q3⟩:=zAH N k 20 hk hN (by decide) (by decide) (k+1) 0 l v (by omega) (jE _) hl;obtain⟨g1,g2⟩:=zrJ 20 k (k+1) 0 l;have g2:=g2 (jE _);unfold zmz;generalize zok 20 k (k+1) 0 l=q at *;have hd:=zAW N k q.1 k hk hN g2 (jk _) q.2 (by omega);obtain⟨v2,fp,q4,q5,q6⟩:=zrm hd (by omega) (by simp;omega) v1;obtain⟨v3,b3,q7,q8,q9⟩:=zyk N k hk hN k 20 (zjJ q.1 1 (k-(q.1+1)) q.2) v2 (by omega) (by decide) (by decide) (by simp;omega);have uj:v3=v->vg k k 20 (zjJ q.1 1 (k-(q.1+1)) q.2)=l:=fun hv=>by rw[q8 (by omega),q5 (by omega),q2 (by omega)]
 refine⟨v3,by omega,uj,?_⟩;have hlen:(vg k k 20 (zjJ q.1 1 (k-(q.1+1)) q.2)).length=N:=by simp;omega
 generalize zjJ q.1 1 (k-(q.1+1)) q.2=l2 at *;generalize vg k k 20 l2=l3 at *;simp only[kv,ji]at q3;rw[show((20:Nat):Int)=20 from rfl]at q3 q9;have hs:∀v0,v0=v->R L Cs zhZ [sN N k,W k,cB] [some { box:=false,esz:=6,rows:=zI l,gen:=N,fz:=false,ver:=v0 }]=some (.t [],[some { box:=false,esz:=6,rows:=zI l3,gen:=N,fz:=false,ver:=v3 }]):=by
  intro v0 h0;subst h0;rw[zUa zh8 rfl];simp[zdj,q3,q6,q9,-zx]
 have hs:=hs v rfl;rw[zUa zhK rfl];by_cases hv:v3=v
 ·have:=uj hv;subst hv this;simp[zcd,hs,blk,hl]
 ·simp[zcd,hs,blk,hl,hlen,hv]
theorem zts(P M Q:List zk)(x y:zk):swp (P++x::(M++y::Q)) P.length (P.length+1+M.length)=P++y::(M++x::Q):=by
 have e1:(P++x::(M++y::Q)).getD (P.length+1+M.length) z9=y:=by
  rw[jo,jL (by omega),show P.length+1+M.length-P.length=M.length+1 by omega,List.getElem?_cons_succ,jL (by omega)];simp
 have e2:(P++x::(M++y::Q)).getD P.length z9=x:=by
  rw[jo,jL (by omega)];simp
 rw[swp,e1,e2,km _ _ (by omega),Nat.sub_self,List.set_cons_zero,km _ _ (by omega),show P.length+1+M.length-P.length=M.length+1 by omega,List.set_cons_succ,km _ _ (by omega),Nat.sub_self,List.set_cons_zero]
theorem zzo(l:List zk)(i j:Nat)(h:i≠j):swp l i j=swp l j i:=by
 unfold swp;exact uc _ _ (qz h) |>.symm ▸ rfl
theorem zsF(a b:Nat):∀(m i:Nat) (l:List zk),swR a b (i+1) m l=swR (a+1) (b+1) i m l
 |0,i,l=>rfl
 |m+1,i,l=>by
  rw[swR,swR,zsF a b m (i+1),show a+(i+1)=a+1+i by omega,show b+(i+1)=b+1+i by omega]
theorem zp7:∀(A B P M Q:List zk),A.length=B.length->swR P.length (P.length+A.length+M.length) 0 A.length (P++(A++(M++(B++Q))))=P++(B++(M++(A++Q)))
 |[],[],P,M,Q,_=>rfl
 |x::A,y::B,P,M,Q,h=>by
  have h':A.length=B.length:=by simpa using h
  have:=zp7 A B (P++[y]) (M++[x]) Q h';rw[jw,swR,zsF];have e:swp (P++(x::A++(M++(y::B++Q)))) (P.length+0) (P.length+(A.length+1)+M.length+0)=P++(y::(A++(M++(x::(B++Q))))):=by
   have:=zts P (A++M) (B++Q) x y;simp only[jt,jA,kf]at this ⊢;rw[show P.length+(A.length+1)+M.length+0=P.length+1+(A.length+M.length) by omega,qp];exact this
  rw[e];simp only[jt,jw,jB,jA,kf,jH]at this ⊢;rw[show P.length+(A.length+1)+M.length+1=P.length+(0+1)+A.length+(M.length+(0+1)) by omega];exact this
theorem zzC:∀(f:Nat) (P A B Q:List zk) (m:Nat),m=P.length+A.length->0<A.length->0<B.length->A.length+B.length<=f ->
  swR (m-(zkm m f A.length B.length (P++(A++(B++Q)))).1) m 0 (zkm m f A.length B.length (P++(A++(B++Q)))).1 (zkm m f A.length B.length (P++(A++(B++Q)))).2=P++(B++(A++Q)):=by
 intro f;induction f with
 |zero=>intro P A B Q m hm ha hb hf;omega
 |succ f ih =>
  intro P A B Q m hm ha hb hf;rw[zkm];by_cases c:A.length=B.length
  ·rw[if_pos c];have:=zp7 A B P [] Q c;simp only[jH,jB,qp]at this;dsimp only;rw[show m-A.length=P.length by omega,hm];exact this
  ·rw[if_neg c];by_cases c2:B.length<A.length
   ·rw[if_pos c2];have hA:=jO B.length A;have l1:(A.take B.length).length=B.length:=by simp;omega
    have l2:(A.drop B.length).length=A.length-B.length:=by simp
    generalize A.take B.length=A1 at *;generalize A.drop B.length=A2 at *;have e:=zp7 A1 B P A2 Q l1;rw[l1]at e;have h2:=ih (P++B) A2 A1 Q m (by simp;omega) (by omega) (by omega) (by omega);rw[show m-A.length=P.length by omega];have hm2:m=P.length+B.length+A2.length:=by omega
    rw[<-hA,jA A1 A2];have e':swR P.length m 0 B.length (P++(A1++(A2++(B++Q))))=P++(B++(A2++(A1++Q))):=by rw[hm2];exact e
    rw[e'];simp only[jA,jt,l1,l2]at h2 ⊢;rw[<-l2]at h2 ⊢;have hs:B.length+A2.length-B.length=A2.length:=by omega
    rw[hs];exact h2
   ·rw[if_neg c2];have hB:=jO (B.length-A.length) B;have l1:(B.take (B.length-A.length)).length=B.length-A.length:=by simp
    have l2:(B.drop (B.length-A.length)).length=A.length:=by simp;omega
    generalize B.take (B.length-A.length)=B1 at *;generalize B.drop (B.length-A.length)=B2 at *;have e:=zp7 A B2 P B1 Q l2.symm;have h2:=ih P B2 B1 (A++Q) m (by omega) (by omega) (by omega) (by omega);have e':swR (m-A.length) (m+B.length-A.length) 0 A.length (P++(A++(B++Q)))=P++(B2++(B1++(A++Q))):=by
     rw[<-hB,show m-A.length=P.length by omega,show m+(B1++B2).length-A.length=P.length+A.length+B1.length by simp;omega];simp only[jA];exact e
    rw[e',<-l1,<-hB];rw[l2]at h2;simp only[jA];exact h2
theorem zzD(P A B Q:List zk)(ha:0<A.length)(hb:0<B.length):ztB P.length (P.length+A.length) (P.length+A.length+B.length) (P++(A++(B++Q)))=P++(B++(A++Q)):=by
 have:=zzC (A.length+B.length) P A B Q _ rfl ha hb (jk _);unfold ztB;rw[show P.length+A.length+B.length-P.length=A.length+B.length by omega,show P.length+A.length-P.length=A.length by omega,show P.length+A.length+B.length-(P.length+A.length)=B.length by omega];exact this
theorem zxl:∀(C P Q:List zk) (x:zk),upF P.length C.length (P++x::(C++Q))=P++(C++x::Q)
 |[],P,Q,x=>rfl
 |y::C,P,Q,x=>by
  have h:=zts P [] (C++Q) x y;have h2:=zxl C (P++[y]) Q x;simp only[jH,jB,qp]at h;rw[jw,upF,kf,h];simp only[jt,jw,jB,jA,kf,jH]at h2 ⊢;exact h2
theorem zxG:∀(n:Nat) (C P Q:List zk) (x:zk),C.length=n->dnF (P.length+C.length) C.length (P++(C++x::Q))=P++x::(C++Q)
 |0,C,P,Q,x,h=>by
  have:C=[]:=jN.1 h;subst this;rfl
 |n+1,C,P,Q,x,h=>by
  obtain⟨D,y,rfl⟩:∃D y,C=D++[y]:=by
   rcases ks C with e |⟨D,y,e⟩
   ·subst e;simp at h
   ·exact⟨D,y,by rw[e,ky]⟩
  have hD:D.length=n:=by simpa using h
  have h1:=zts (P++D) [] Q y x;have h2:=zxG n D P (y::Q) x hD;simp only[jH,jB,qp,jA,jt]at h1;simp only[jt,jw,jB,jA,kf,jH]at h2 ⊢;rw[dnF,show P.length+(D.length+(0+1))-1=P.length+D.length by omega,zzo _ _ _ (by omega),show P.length+(D.length+(0+1))=P.length+D.length+1 by omega,h1,h2]
theorem zmj(p:Nat->Bool):∀(f i j:Nat),j-i<=f->i<=j->(∀x y,i<=x->x<=y->y<j->p y=true->p x=true)->∀h,i<=h->h<j->(p h=true<->h<bsF p f i j)
 |0,i,j,hf,hi,hm,h,h1,h2=>by omega
 |f+1,i,j,hf,hi,hm,h,h1,h2=>by
  rw[bsF,if_pos (by omega)];by_cases c:p ((i+j) / 2)=true
  ·rw[if_pos c];by_cases c2:h<=(i+j) / 2
   ·have hb:=(zju p f ((i+j) / 2+1) j (by omega)).1;exact⟨fun _=>by omega,fun _=>hm h _ h1 c2 (by omega) c⟩
   ·exact zmj p f ((i+j) / 2+1) j (by omega) (by omega) (fun x y a b d e=>hm x y (by omega) b d e) h (by omega) h2
  ·rw[if_neg c];by_cases c2:(i+j) / 2<=h
   ·have hb:=(zju p f i ((i+j) / 2) (by omega)).2;exact⟨fun e=>absurd (hm _ h (by omega) c2 h2 e) c,fun _=>by omega⟩
   ·exact zmj p f i ((i+j) / 2) (by omega) (by omega) (fun x y a b d e=>hm x y a b (by omega) e) h h1 (by omega)
abbrev Srt(l:List zk):Prop:=l.Pairwise leB
theorem zw6(a b:zk):¬ziK a b<0<->leB b a:=by rw[znX,zqc]
theorem zyY{a b:zk}(h:ziK a b<0):leB a b:=zxy ((znX a b).1 h)
theorem zyX{u w x:zk}(h:leB u w)(g:ziK w x<0):ziK u x<0:=by
 rw[znX]at *;unfold leB at h;unfold ltB at *;simp at *;omega
def Mrg(P A B Q r:List zk):Prop:=∃S,r=P++(S++Q)/\S.Perm (A++B)/\Srt S
theorem zoR{A R:List zk}{h:Nat}(P:List zk)(h1:P.length<=h)(h2:h<P.length+A.length):(P++(A++R)).getD h z9=A.getD (h-P.length) z9:=by
 rw[jo,jo,jL h1,jq (by omega)]
theorem zns{A B Q:List zk}{h:Nat}(P:List zk)(h1:P.length+A.length<=h)(h2:h<P.length+A.length+B.length):(P++(A++(B++Q))).getD h z9=B.getD (h-(P.length+A.length)) z9:=by
 rw[jo,jo,jL (by omega),jL (by omega),jq (by omega),show h-P.length-A.length=h-(P.length+A.length) by omega]
theorem ziQ{A:List zk}(h:Srt A){i j:Nat}(hij:i<=j)(hj:j<A.length):leB (A.getD i z9) (A.getD j z9):=by
 rcases Nat.lt_or_eq_of_le hij with hij|rfl
 ·have:=qA.1 h i j (by omega) hj hij;simpa [jo,hj,show i<A.length by omega]using this
 ·exact .inr ⟨rfl,jQ _⟩
theorem zi3{A:List zk}{x:zk}(h:x∈A):∃i,i<A.length/\A.getD i z9=x:=by
 obtain⟨i,hi,rfl⟩:=uv h;exact⟨i,hi,by simp[hi]⟩
theorem ztr(P B Q:List zk)(x:zk)(hB:Srt B)(hb:0<B.length):Mrg P [x] B Q (upF P.length (bsF (pA (P++([x]++(B++Q))) P.length) B.length (P.length+1) (P.length+1+B.length)-1-P.length) (P++([x]++(B++Q)))):=by
 have hx:(P++([x]++(B++Q))).getD P.length z9=x:=by rw[zoR P (jk _) (by simp)];simp
 have hp:∀h,P.length+1<=h->h<P.length+1+B.length->(pA (P++([x]++(B++Q))) P.length h=true<->ziK (B.getD (h-(P.length+1)) z9) x<0):=by
  intro h h1 h2;unfold pA;rw[hx,zns P (by simpa using h1) (by simpa using h2)];simp
 have hs:=zmj (pA (P++([x]++(B++Q))) P.length) B.length (P.length+1) (P.length+1+B.length) (by omega) (by omega) (by
  intro a b h1 h2 h3 h4;rw[hp b (by omega) h3]at h4;rw[hp a h1 (by omega)];exact zyX (ziQ hB (by omega) (by omega)) h4)
 have hb1:=zju (pA (P++([x]++(B++Q))) P.length) B.length (P.length+1) (P.length+1+B.length) (by omega);generalize bsF (pA (P++([x]++(B++Q))) P.length) B.length (P.length+1) (P.length+1+B.length)=r at *;have hB2:=jO (r-(P.length+1)) B;have l1:(B.take (r-(P.length+1))).length=r-(P.length+1):=by simp;omega
 have k1:∀y∈B.take (r-(P.length+1)),leB y x:=by
  intro y hy;obtain⟨i,hi,rfl⟩:=zi3 hy;rw[l1]at hi;have:=(hs (P.length+1+i) (by omega) (by omega)).2 (by omega);rw[hp _ (by omega) (by omega),show P.length+1+i-(P.length+1)=i by omega]at this;have e:(B.take (r-(P.length+1))).getD i z9=B.getD i z9:=by simp[jo,kW hi]
  rw[e];exact zyY this
 have k2:∀y∈B.drop (r-(P.length+1)),leB x y:=by
  intro y hy;obtain⟨i,hi,rfl⟩:=zi3 hy;simp only[yg]at hi;have:=mt (hs (r+i) (by omega) (by omega)).1 (by omega);rw[hp _ (by omega) (by omega),zw6]at this;have e:(B.drop (r-(P.length+1))).getD i z9=B.getD (r+i-(P.length+1)) z9:=by simp only[jo,kM];rw[show r-(P.length+1)+i=r+i-(P.length+1) by omega]
  rw[e];exact this
 generalize B.take (r-(P.length+1))=B1 at *;generalize B.drop (r-(P.length+1))=B2 at *;subst hB2;have hu:=zxl B1 P (B2++Q) x;refine⟨B1++x::B2,?_,?_,?_⟩
 ·rw[show r-1-P.length=B1.length by omega];simp only[jA,kf,jH]at hu ⊢;exact hu
 ·exact vk
 ·have hsr:=jD.1 hB;refine jD.2 ⟨hsr.1,jS.2 ⟨k2,hsr.2.1⟩,fun a ha b hb=>?_⟩;rcases js.1 hb with rfl|hb
  ·exact k1 a ha
  ·exact hsr.2.2 a ha b hb
theorem zr2(P A Q:List zk)(y:zk)(hA:Srt A):Mrg P A [y] Q (dnF (P.length+A.length) (P.length+A.length-bsF (pB (P++(A++([y]++Q))) (P.length+A.length)) A.length P.length (P.length+A.length)) (P++(A++([y]++Q)))):=by
 have hy:(P++(A++([y]++Q))).getD (P.length+A.length) z9=y:=by rw[zns P (jk _) (by simp)];simp
 have hp:∀h,P.length<=h->h<P.length+A.length->(pB (P++(A++([y]++Q))) (P.length+A.length) h=true<->leB (A.getD (h-P.length) z9) y):=by
  intro h h1 h2;unfold pB;rw[hy,zoR P h1 h2,<-zw6];simp
 have hs:=zmj (pB (P++(A++([y]++Q))) (P.length+A.length)) A.length P.length (P.length+A.length) (by omega) (by omega) (by
  intro a b h1 h2 h3 h4;rw[hp b (by omega) h3]at h4;rw[hp a h1 (by omega)];exact zfs (ziQ hA (by omega) (by omega)) h4)
 have hb1:=zju (pB (P++(A++([y]++Q))) (P.length+A.length)) A.length P.length (P.length+A.length) (by omega);generalize bsF (pB (P++(A++([y]++Q))) (P.length+A.length)) A.length P.length (P.length+A.length)=r at *;have hA2:=jO (r-P.length) A;have l1:(A.take (r-P.length)).length=r-P.length:=by simp;omega
 have k1:∀x∈A.take (r-P.length),leB x y:=by
  intro x hx;obtain⟨i,hi,rfl⟩:=zi3 hx;rw[l1]at hi;have:=(hs (P.length+i) (by omega) (by omega)).2 (by omega);rw[hp _ (by omega) (by omega),show P.length+i-P.length=i by omega]at this;have e:(A.take (r-P.length)).getD i z9=A.getD i z9:=by simp[jo,kW hi]
  rw[e];exact this
 have k2:∀x∈A.drop (r-P.length),leB y x:=by
  intro x hx;obtain⟨i,hi,rfl⟩:=zi3 hx;simp only[yg]at hi;have:=mt (hs (r+i) (by omega) (by omega)).1 (by omega);rw[hp _ (by omega) (by omega),zqc,Decidable.not_not]at this;have e:(A.drop (r-P.length)).getD i z9=A.getD (r+i-P.length) z9:=by simp only[jo,kM];rw[show r-P.length+i=r+i-P.length by omega]
  rw[e];exact zxy this
 have l2:(A.drop (r-P.length)).length=P.length+A.length-r:=by simp;omega
 generalize A.take (r-P.length)=A1 at *;generalize A.drop (r-P.length)=A2 at *;subst hA2;have hd:=zxG A2.length A2 (P++A1) Q y rfl;refine⟨A1++y::A2,?_,?_,?_⟩
 ·rw[<-l2];simp only[jA,kf,jH,jt,kH]at hd ⊢;exact hd
 ·have:(A1++y::A2).Perm (A1++(A2++[y])):=ue _ (List.perm_append_singleton y A2).symm;simpa using this
 ·have hsr:=jD.1 hA;refine jD.2 ⟨hsr.1,jS.2 ⟨k2,hsr.2.1⟩,fun a ha b hb=>?_⟩;rcases js.1 hb with rfl|hb
  ·exact k1 a ha
  ·exact hsr.2.2 a ha b hb
theorem zuD:∀(f:Nat) (P A B Q:List zk),0<A.length->0<B.length->A.length+B.length<=f->Srt A->Srt B->Mrg P A B Q (zlI f P.length (P.length+A.length) (P.length+A.length+B.length) (P++(A++(B++Q)))):=by
 intro f;induction f with
 |zero=>intro P A B Q h1 h2 h3;omega
 |succ f ih =>
  intro P A B Q hA0 hB0 hf hA hB;rw[zlI];by_cases c1:P.length+A.length-P.length=1
  ·rw[if_pos c1];obtain⟨x,rfl⟩:∃x,A=[x]:=List.length_eq_one_iff.1 (by omega);have:=ztr P B Q x hB hB0;simp only[jw,jB,kv]at this ⊢;rw[show P.length+1+B.length-(P.length+1)=B.length by omega];exact this
  ·rw[if_neg c1];by_cases c2:P.length+A.length+B.length-(P.length+A.length)=1
   ·rw[if_pos c2];obtain⟨y,rfl⟩:∃y,B=[y]:=List.length_eq_one_iff.1 (by omega);have:=zr2 P A Q y hA;rw[show P.length+A.length-P.length=A.length by omega];exact this
   ·rw[if_neg c2];have hm:zbS P.length (P.length+A.length+B.length)=(P.length+(P.length+A.length+B.length)) / 2:=rfl;have hlo:loS P.length (P.length+A.length) (P.length+A.length+B.length)<=hiS P.length (P.length+A.length) (P.length+A.length+B.length):=by unfold loS hiS;split<;>omega
    have hsp:=zmj (pC (P++(A++(B++Q))) (zbS P.length (P.length+A.length+B.length)+(P.length+A.length)-1)) (hiS P.length (P.length+A.length) (P.length+A.length+B.length)-loS P.length (P.length+A.length) (P.length+A.length+B.length)) (loS P.length (P.length+A.length) (P.length+A.length+B.length)) (hiS P.length (P.length+A.length) (P.length+A.length+B.length)) (jk _) hlo;have hbd:=zju (pC (P++(A++(B++Q))) (zbS P.length (P.length+A.length+B.length)+(P.length+A.length)-1)) (hiS P.length (P.length+A.length) (P.length+A.length+B.length)-loS P.length (P.length+A.length) (P.length+A.length+B.length)) (loS P.length (P.length+A.length) (P.length+A.length+B.length)) (hiS P.length (P.length+A.length) (P.length+A.length+B.length)) hlo;have eS:bsF (pC (P++(A++(B++Q))) (zbS P.length (P.length+A.length+B.length)+(P.length+A.length)-1)) (hiS P.length (P.length+A.length) (P.length+A.length+B.length)-loS P.length (P.length+A.length) (P.length+A.length+B.length)) (loS P.length (P.length+A.length) (P.length+A.length+B.length)) (hiS P.length (P.length+A.length) (P.length+A.length+B.length))=stS P.length (P.length+A.length) (P.length+A.length+B.length) (P++(A++(B++Q))):=rfl;rw[eS]at hsp hbd;have eE:enS P.length (P.length+A.length) (P.length+A.length+B.length) (P++(A++(B++Q)))=zbS P.length (P.length+A.length+B.length)+(P.length+A.length)-stS P.length (P.length+A.length) (P.length+A.length+B.length) (P++(A++(B++Q))):=rfl;have hcase:(zbS P.length (P.length+A.length+B.length)<P.length+A.length/\loS P.length (P.length+A.length) (P.length+A.length+B.length)=zbS P.length (P.length+A.length+B.length)+(P.length+A.length)-(P.length+A.length+B.length)/\hiS P.length (P.length+A.length) (P.length+A.length+B.length)=zbS P.length (P.length+A.length+B.length))\/(P.length+A.length<=zbS P.length (P.length+A.length+B.length)/\loS P.length (P.length+A.length) (P.length+A.length+B.length)=P.length/\hiS P.length (P.length+A.length) (P.length+A.length+B.length)=P.length+A.length):=by
     by_cases c:zbS P.length (P.length+A.length+B.length)<P.length+A.length
     ·left;exact⟨c,by rw[loS,if_pos c],by rw[hiS,if_pos c]⟩
     ·right;exact⟨by omega,by rw[loS,if_neg c],by rw[hiS,if_neg c]⟩
    unfold zjz;generalize hst:stS P.length (P.length+A.length) (P.length+A.length+B.length) (P++(A++(B++Q)))=st at *;generalize hen:enS P.length (P.length+A.length) (P.length+A.length+B.length) (P++(A++(B++Q)))=en at *;generalize hmid:zbS P.length (P.length+A.length+B.length)=mid at *;generalize hloe:loS P.length (P.length+A.length) (P.length+A.length+B.length)=lo at *;generalize hhie:hiS P.length (P.length+A.length) (P.length+A.length+B.length)=hi at *;have b1:P.length<=lo/\hi<=P.length+A.length/\P.length+A.length<=en/\en<=P.length+A.length+B.length:=by omega
    have hp:∀c,lo<=c->c<hi->(pC (P++(A++(B++Q))) (mid+(P.length+A.length)-1) c=true<->leB (A.getD (c-P.length) z9) (B.getD (mid-1-c+P.length-P.length) z9)):=by
     intro c h1 h2;unfold pC;rw[zns P (h:=mid+(P.length+A.length)-1-c) (by omega) (by omega),zoR P (by omega) (by omega),<-zw6,show mid+(P.length+A.length)-1-c-(P.length+A.length)=mid-1-c+P.length-P.length by omega];simp
    have hsp:=hsp (by
     intro a b h1 h2 h3 h4;rw[hp b (by omega) h3]at h4;rw[hp a h1 (by omega)];refine zfs (ziQ hA (by omega) (by omega)) (zfs h4 (ziQ hB (by omega) (by omega))))
    have hA2:=jO (st-P.length) A;have hB2:=jO (en-(P.length+A.length)) B;have la1:(A.take (st-P.length)).length=st-P.length:=by simp;omega
    have la2:(A.drop (st-P.length)).length=P.length+A.length-st:=by simp;omega
    have lb1:(B.take (en-(P.length+A.length))).length=en-(P.length+A.length):=by simp;omega
    have lb2:(B.drop (en-(P.length+A.length))).length=P.length+A.length+B.length-en:=by simp;omega
    have k1:∀x∈A.take (st-P.length),∀y∈B.drop (en-(P.length+A.length)),leB x y:=by
     intro x hx y hy;obtain⟨i,hi',rfl⟩:=zi3 hx;obtain⟨j,hj',rfl⟩:=zi3 hy;have e1:(A.take (st-P.length)).getD i z9=A.getD i z9:=by simp[jo,kW (by omega:i<st-P.length)]
     have e2:(B.drop (en-(P.length+A.length))).getD j z9=B.getD (en-(P.length+A.length)+j) z9:=by simp only[jo,kM]
     rw[e1,e2];have h0:=(hsp (st-1) (by omega) (by omega)).2 (by omega);rw[hp _ (by omega) (by omega)]at h0;exact zfs (ziQ hA (by omega) (by omega)) (zfs h0 (ziQ hB (by omega) (by omega)))
    have k2:∀y∈B.take (en-(P.length+A.length)),∀x∈A.drop (st-P.length),leB y x:=by
     intro y hy x hx;obtain⟨i,hi',rfl⟩:=zi3 hx;obtain⟨j,hj',rfl⟩:=zi3 hy;have e1:(A.drop (st-P.length)).getD i z9=A.getD (st-P.length+i) z9:=by simp only[jo,kM]
     have e2:(B.take (en-(P.length+A.length))).getD j z9=B.getD j z9:=by simp[jo,kW (by omega:j<en-(P.length+A.length))]
     rw[e1,e2];have h0:=mt (hsp st (by omega) (by omega)).1 (by omega);rw[hp _ (by omega) (by omega),zqc,Decidable.not_not]at h0;exact zfs (ziQ hB (by omega) (by omega)) (zfs (zxy h0) (ziQ hA (by omega) (by omega)))
    generalize A.take (st-P.length)=A1 at *;generalize A.drop (st-P.length)=A2 at *;generalize B.take (en-(P.length+A.length))=B1 at *;generalize B.drop (en-(P.length+A.length))=B2 at *;subst hA2 hB2;have sA:=jD.1 hA;have sB:=jD.1 hB;simp only[jt]at *;have ht:(if st<P.length+(A1.length+A2.length)/\P.length+(A1.length+A2.length)<en then ztB st (P.length+(A1.length+A2.length)) en (P++(A1++A2++(B1++B2++Q))) else P++(A1++A2++(B1++B2++Q)))=P++(A1++(B1++(A2++(B2++Q)))):=by
     split
     ·rename_i hc;have:=zzD (P++A1) A2 B1 (B2++Q) (by omega) (by omega);simp only[jt,jA]at this ⊢;rw[show st=P.length+A1.length by omega,show P.length+(A1.length+A2.length)=P.length+A1.length+A2.length by omega,show en=P.length+A1.length+A2.length+B1.length by omega];exact this
     ·rename_i hc;have:A2.length=0\/B1.length=0:=by omega
      rcases this with h|h
      ·have:A2=[]:=jN.1 h;subst this;simp
      ·have:B1=[]:=jN.1 h;subst this;simp
    rw[ht];have hL:∃S1,(if P.length<st/\st<mid then zlI f P.length st mid (P++(A1++(B1++(A2++(B2++Q))))) else P++(A1++(B1++(A2++(B2++Q)))))=P++(S1++(A2++(B2++Q)))/\S1.Perm (A1++B1)/\Srt S1:=by
     split
     ·have:=ih P A1 B1 (A2++(B2++Q)) (by omega) (by omega) (by omega) sA.1 sB.1;rw[show P.length+A1.length=st by omega,show st+B1.length=mid by omega]at this;exact this
     ·have:A1.length=0\/B1.length=0:=by omega
      refine⟨A1++B1,by simp,uW _,?_⟩;rcases this with h|h
      ·have:A1=[]:=jN.1 h;subst this;simpa using sB.1
      ·have:B1=[]:=jN.1 h;subst this;simpa using sA.1
    obtain⟨S1,e1,p1,o1⟩:=hL;rw[e1];have hl1:=p1.length_eq;simp only[jt]at hl1;have hR:∃S2,(if mid<en/\en<P.length+(A1.length+A2.length)+(B1.length+B2.length) then zlI f mid en (P.length+(A1.length+A2.length)+(B1.length+B2.length)) (P++(S1++(A2++(B2++Q)))) else P++(S1++(A2++(B2++Q))))=P++(S1++(S2++Q))/\S2.Perm (A2++B2)/\Srt S2:=by
     split
     ·obtain⟨S2,g1,g2,g3⟩:=ih (P++S1) A2 B2 Q (by omega) (by omega) (by omega) sA.2.1 sB.2.1;simp only[jt,jA]at g1;rw[show P.length+S1.length=mid by omega,show mid+A2.length=en by omega,show en+B2.length=P.length+(A1.length+A2.length)+(B1.length+B2.length) by omega]at g1;exact⟨S2,g1,g2,g3⟩
     ·have:A2.length=0\/B2.length=0:=by omega
      refine⟨A2++B2,by simp,uW _,?_⟩;rcases this with h|h
      ·have:A2=[]:=jN.1 h;subst this;simpa using sB.2.1
      ·have:B2=[]:=jN.1 h;subst this;simpa using sA.2.1
    obtain⟨S2,e2,p2,o2⟩:=hR;refine⟨S1++S2,by rw[e2];simp,?_,jD.2 ⟨o1,o2,fun a ha b hb=>?_⟩⟩
    ·refine(p1.append p2).trans ?_;simp only[jA];refine ue _ ?_;rw[<-jA,<-jA];exact List.Perm.append_right _ List.perm_append_comm
    ·have ha:=p1.subset ha;have hb:=p2.subset hb;rcases jm.1 ha with ha|ha<;>rcases jm.1 hb with hb|hb
     ·exact sA.2.2 a ha b hb
     ·exact k1 a ha b hb
     ·exact k2 a ha b hb
     ·exact sB.2.2 a ha b hb
theorem zvC(a:Nat):∀(c:Nat) (P l:List zk),P.length=a->zrH a c (P++l)=P++bub l c
 |0,P,l,_=>rfl
 |c+1,P,l,h=>by
  have g:∀i,(P++l).getD (a+i) z9=l.getD i z9:=fun i=>by
   rw[jo,jo,jL (by omega),show a+i-P.length=i by omega]
  have e1:=g (c+1);have e2:=g c;rw[show a+(c+1)=a+c+1 by omega]at e1;rw[zrH,bub,e1,e2];split
  ·rw[<-zvC a c P _ h]
   congr 1
   unfold swp;rw[e1,e2,km _ _ (by omega),km _ _ (by omega),show a+c+1-P.length=c+1 by omega,show a+c-P.length=c by omega]
  ·rfl
theorem zs3(a:Nat):∀(m i:Nat) (P l:List zk),P.length=a->zjJ a i m (P++l)=P++zq4 l i m
 |0,i,P,l,_=>rfl
 |m+1,i,P,l,h=>by rw[zjJ,zq4,zvC a i P l h,zs3 a m (i+1) P _ h]
theorem zs2:∀(r s Q:List zk),zq4 (s++(r++Q)) s.length r.length=r.foldl zfK s++Q
 |[],s,Q=>by simp[zq4]
 |x::r,s,Q=>by
  have e:bub (s++(x::r++Q)) s.length=zfK s x++(r++Q):=zup x s.length s (r++Q) rfl;rw[jw,zq4,e,jK];have h:=zs2 r (zfK s x) Q;rw[zn4]at h;exact h
theorem zyQ(s:List zk)(x:zk):(zfK s x).Perm (x::s):=by
 unfold zfK;have:=jO (zev x s s.length) s;refine List.perm_middle.trans ?_;rw[this]
theorem znu:∀(r s:List zk),(r.foldl zfK s).Perm (s++r)
 |[],s=>by simp
 |x::r,s=>by
  refine(znu r (zfK s x)).trans ?_;refine((zyQ s x).append_right r).trans ?_;simpa using(vk (a:=x) (l₁:=s) (l₂:=r)).symm
theorem zq5(P C Q:List zk):∃S,zjJ P.length 1 (P.length+C.length-(P.length+1)) (P++(C++Q))=P++(S++Q)/\S.Perm C/\Srt S:=by
 rw[zs3 P.length _ 1 P _ rfl];cases C with
 |nil=>exact⟨[],by simp[zq4],uW _,List.Pairwise.nil⟩
 |cons x r =>
  have h:=zs2 r [x] Q;refine⟨r.foldl zfK [x],?_,by simpa using znu r [x],ziR r [x] (by simp)⟩;simp only[jw,jB,kf,jH]at h ⊢;rw[show P.length+(r.length+1)-(P.length+1)=r.length by omega];rw[h]
inductive Chf (bs:Nat):List zk->Prop
 |nil:Chf bs []
 |cons {C R:List zk}:C.length=bs->Srt C->Chf bs R->Chf bs (C++R)
inductive Chs (bs:Nat):List zk->Prop
 |one {C:List zk}:C.length<=bs->Srt C->Chs bs C
 |cons {C R:List zk}:C.length=bs->Srt C->Chs bs R->Chs bs (C++R)
theorem Chf.snoc{bs:Nat}{R C:List zk}(h:Chf bs R)(hc:C.length<=bs)(hs:Srt C):Chs bs (R++C):=by
 induction h with
 |nil=>simpa using Chs.one hc hs
 |cons a b _ ih=>rw[jA];exact Chs.cons a b ih
theorem Chs.short{bs:Nat}{R:List zk}(h:Chs bs R)(hl:R.length<=bs):Srt R:=by
 cases h with
 |one _ h=>exact h
 |cons a b c =>
  rename_i C R';have:R'=[]:=jN.1 (by simp at hl;omega);subst this;simpa using b
theorem Chs.long{bs:Nat}{R:List zk}(h:Chs bs R)(hl:bs<R.length):∃C R',R=C++R'/\C.length=bs/\Srt C/\Chs bs R':=by
 cases h with
 |one h _=>omega
 |cons a b c=>exact⟨_,_,rfl,a,b,c⟩
theorem Chs.two{bs:Nat}(h0:0<bs){R:List zk}(h:Chs bs R)(hl:2*bs<=R.length):∃A B R',R=A++(B++R')/\A.length=bs/\B.length=bs/\Srt A/\Srt B/\Chs bs R':=by
 obtain⟨A,R1,rfl,a1,a2,a3⟩:=h.long (by omega);simp at hl;by_cases c:bs<R1.length
 ·obtain⟨B,R2,rfl,b1,b2,b3⟩:=a3.long c;exact⟨A,B,R2,rfl,a1,b1,a2,b2,b3⟩
 ·exact⟨A,R1,[],by simp,a1,by omega,a2,a3.short (by omega),Chs.one (by simp) List.Pairwise.nil⟩
theorem zAG(bs k:Nat)(T:List zk):∀(f:Nat) (P R:List zk),P.length+R.length=k->R.length<f*bs->∃R1 R2,zok bs k f P.length (P++(R++T))=(P.length+R1.length,P++(R1++(R2++T)))/\(R1++R2).Perm R/\Chf bs R1/\R2.length<bs:=by
 intro f;induction f with
 |zero=>intro P R h1 h2;omega
 |succ f ih =>
  intro P R h1 h2;rw[zok];by_cases c:P.length+bs<=k
  ·rw[if_pos c];have hR:=jO bs R;have l1:(R.take bs).length=bs:=by simp;omega
   have l2:(R.drop bs).length=R.length-bs:=by simp
   generalize R.take bs=C at *;generalize R.drop bs=R' at *;subst hR;obtain⟨S,e,p,s⟩:=zq5 P C (R'++T);have hs:=p.length_eq;rw[l1]at e;obtain⟨R1,R2,g1,g2,g3,g4⟩:=ih (P++S) R' (by simp at h1 ⊢;omega) (by rw[kJ]at h2;omega);rw[jA C,e];simp only[jt,jA]at g1;rw[show P.length+S.length=P.length+bs by omega]at g1;rw[g1];refine⟨S++R1,R2,by simp;omega,?_,Chf.cons (by omega) s g3,g4⟩;rw[jA];exact p.append g2
  ·rw[if_neg c];exact⟨[],R,by simp,by simp,Chf.nil,by omega⟩
theorem zzY(bs k:Nat)(h0:0<bs)(T:List zk):∀(f:Nat) (P R:List zk),P.length+R.length=k->R.length<f*(2*bs)->Chs bs R->∃R1 R2,zgP bs k f P.length (P++(R++T))=(P.length+R1.length,P++(R1++(R2++T)))/\(R1++R2).Perm R/\Chf (2*bs) R1/\R2.length<2*bs/\Chs bs R2:=by
 intro f;induction f with
 |zero=>intro P R h1 h2;omega
 |succ f ih =>
  intro P R h1 h2 hc;rw[zgP];by_cases c:P.length+2*bs<=k
  ·rw[if_pos c];obtain⟨A,B,R',rfl,a1,b1,a2,b2,r3⟩:=hc.two h0 (by omega);obtain⟨S,e,p,s⟩:=zuD (2*bs) P A B (R'++T) (by omega) (by omega) (by omega) a2 b2;have hs:=p.length_eq;simp only[jt]at hs h1 h2;obtain⟨R1,R2,g1,g2,g3,g4,g5⟩:=ih (P++S) R' (by simp;omega) (by rw[kJ]at h2;omega) r3;rw[a1,b1,show P.length+bs+bs=P.length+2*bs by omega]at e;simp only[jA];rw[e];simp only[jt,jA]at g1;rw[show P.length+S.length=P.length+2*bs by omega]at g1;rw[g1];refine⟨S++R1,R2,by simp;omega,?_,Chf.cons (by omega) s g3,g4,g5⟩;rw[jA];refine(p.append g2).trans ?_;simp
  ·rw[if_neg c];exact⟨[],R,by simp,by simp,Chf.nil,by omega,hc⟩
theorem zyj(bs:Nat)(h0:0<bs)(R T:List zk)(h:Chs bs R):∃R',zjE bs R.length (R++T)=R'++T/\R'.Perm R/\Chs (2*bs) R':=by
 obtain⟨R1,R2,e,p,c1,l2,c2⟩:=zzY bs R.length h0 T (R.length+1) [] R (by simp) (by have:R.length+1<=(R.length+1)*(2*bs):=kY _ (by omega);omega) h;simp only[jH,jB,kv]at e;have hl:=p.length_eq;simp only[jt]at hl;unfold zjE;rw[e];dsimp only;by_cases c:R1.length+bs<R.length
 ·rw[if_pos c];obtain⟨A,B,rfl,a1,a2,a3⟩:=c2.long (by omega);simp only[jt]at hl l2;obtain⟨S,e2,p2,s2⟩:=zuD (R.length-R1.length) R1 A B T (by omega) (by omega) (by omega) a2 (a3.short (by omega));have hs:=p2.length_eq;simp only[jt]at hs;rw[a1,show R1.length+bs+B.length=R.length by omega]at e2;refine⟨R1++S,?_,?_,c1.snoc (by omega) s2⟩
  ·simp only[jA];exact e2
  ·exact(ue _ p2).trans p
 ·rw[if_neg c];exact⟨R1++R2,by simp,p,c1.snoc (by omega) (c2.short (by omega))⟩
theorem zpp(T:List zk):∀(f bs:Nat) (R:List zk),0<bs->R.length<bs+f->Chs bs R->∃S,vg R.length f bs (R++T)=S++T/\S.Perm R/\Srt S
 |0,bs,R,h0,hf,hc=>⟨R,rfl,uW _,hc.short (by omega)⟩
 |f+1,bs,R,h0,hf,hc=>by
  rw[vg];by_cases c:bs<R.length
  ·rw[if_pos c];obtain⟨R',e,p,hc'⟩:=zyj bs h0 R T hc;have hl:=p.length_eq;obtain⟨S,e2,p2,s2⟩:=zpp T f (2*bs) R' (by omega) (by omega) hc';rw[hl]at e2;exact⟨S,by rw[e,e2],p2.trans p,s2⟩
  ·rw[if_neg c];exact⟨R,rfl,uW _,hc.short (by omega)⟩
theorem zuI(R T:List zk):∃S,zmz R.length (R++T)=S++T/\S.Perm R/\Srt S:=by
 obtain⟨R1,R2,e,p,c1,l2⟩:=zAG 20 R.length T (R.length+1) [] R (by simp) (by have:R.length+1<=(R.length+1)*20:=kY _ (by omega);omega);simp only[jH,jB,kv]at e;have hl:=p.length_eq;simp only[jt]at hl;unfold zmz;rw[e];dsimp only;obtain⟨S2,e2,p2,s2⟩:=zq5 R1 R2 T;have h2:=p2.length_eq;rw[show R1.length+R2.length=R.length by omega]at e2;rw[e2];have hc:Chs 20 (R1++S2):=c1.snoc (by omega) s2;obtain⟨S,e3,p3,s3⟩:=zpp T R.length 20 (R1++S2) (by decide) (by simp;omega) hc;have h3:(R1++S2).length=R.length:=by simp;omega
 rw[h3,jA]at e3;exact⟨S,e3,p3.trans ((ue _ p2).trans p),s3⟩
theorem zs4{x y:zk}(h:x.lane=y.lane):zeM x y=zeM y x:=by
 unfold zeM;rw[h]
 congr 1
 ·omega
 ·omega
 ·omega
 ·omega
 ·by_cases c:x.hold=0<;>by_cases d:y.hold=0<;>simp[c,d];omega
theorem zyR(a x y:zk):zeM (zeM a x) y=zeM (zeM a y) x:=by
 unfold zeM
 congr 1
 ·dsimp;omega
 ·dsimp;omega
 ·dsimp;omega
 ·dsimp;omega
 ·dsimp;by_cases b:a.hold=0<;>by_cases c:x.hold=0<;>by_cases d:y.hold=0<;>simp[b,c,d];have h1:¬max a.hold x.hold=0:=by omega
  have h2:¬max a.hold y.hold=0:=by omega
  simp[h1,h2];omega
theorem zds(o:List zk)(a b:zk):zaQ (o++[a]) b=if meets a b=true then o++[zeM a b] else o++[a]++[b]:=by
 have e:(o++[a]).getD ((o++[a]).length-1) z9=a:=by simp[jo]
 unfold zaQ;rw[e];by_cases h:meets a b=true
 ·rw[if_pos ⟨by simp,h⟩,if_pos h];simp
 ·rw[if_neg (fun g=>h g.2),if_neg h]
theorem zse(out:List zk){x y:zk}(h1:x.lane=y.lane)(h2:x.lo=y.lo)(hx:x.lo<=x.hi)(hy:y.lo<=y.hi):zaQ (zaQ out x) y=zaQ (zaQ out y) x:=by
 have hm:∀a,meets a x=meets a y:=fun a=>by unfold meets;rw[h1,h2]
 have m1:meets x y=true:=by unfold meets;simp[h1];omega
 have m2:meets y x=true:=by unfold meets;simp[h1];omega
 rcases ks out with e |⟨o,a,e⟩
 ·subst e;have e0:∀b,zaQ [] b=[]++[b]:=fun b=>by simp[zaQ]
  rw[e0,e0,zds,zds,if_pos m1,if_pos m2,zs4 h1]
 ·rw[ky]at e;subst e;rw[zds,zds,<-hm a];by_cases c:meets a x=true
  ·have c1:meets (zeM a x) y=true:=by
    unfold meets at c ⊢;unfold zeM;simp at c ⊢;omega
   have c2:meets (zeM a y) x=true:=by
    unfold meets at c ⊢;unfold zeM;simp at c ⊢;omega
   rw[if_pos c,if_pos c,zds,zds,if_pos c1,if_pos c2,zyR]
  ·rw[if_neg c,if_neg c,zds,zds,if_pos m1,if_pos m2,zs4 h1]
theorem zrb{x:zk}(hx:x.lo<=x.hi):∀(u:List zk) (g:List zk),(∀y∈u,y.lane=x.lane/\y.lo=x.lo/\y.lo<=y.hi)->u.foldl zaQ (zaQ g x)=zaQ (u.foldl zaQ g) x
 |[],g,h=>rfl
 |y::u,g,h=>by
  obtain⟨h1,h2,h3⟩:=h y (jr ..);simp only[jK];rw[zse g h1.symm h2.symm hx h3,zrb hx u (zaQ g y) fun z hz=>h z (jp _ hz)]
theorem zn8:∀(s t:List zk) (g:List zk),s.Perm t->Srt s->Srt t->(∀x∈s,x.lo<=x.hi)->s.foldl zaQ g=t.foldl zaQ g
 |[],t,g,hp,_,_,_=>by rw[hp.nil_eq]
 |x::s,t,g,hp,hs,ht,hn=>by
  have hx:x∈t:=hp.mem_iff.1 (jr ..);obtain⟨u,v,rfl⟩:=List.append_of_mem hx;have hp':s.Perm (u++v):=(List.perm_cons x).1 (hp.trans vk);have ht':Srt (u++v):=ht.sublist (List.Sublist.append_left (List.sublist_cons_self ..) u);obtain⟨hs1,hs2⟩:=jS.1 hs;have ih:=zn8 s (u++v) (zaQ g x) hp' hs2 ht' fun y hy=>hn y (jp _ hy)
  have hu:∀y∈u,y.lane=x.lane/\y.lo=x.lo/\y.lo<=y.hi:=by
   intro y hy;have h1:leB y x:=(jD.1 ht).2.2 y hy x (jr ..);have h2:y∈s:=hp'.mem_iff.2 (j9 _ hy);have h3:=hs1 y h2;unfold leB at h1 h3;exact⟨by omega,by omega,hn y (jp _ h2)⟩
  simp only[jK,List.foldl_append]at ih ⊢;rw[ih,zrb (hn x (jr ..)) u g hu]
theorem zq6{l:List zk}:∀x∈l.filter (fun b=>!bad b),x.lo<=x.hi:=by
 intro x hx;have:=(kF.1 hx).2;simp at this;omega
theorem zAi{l S:List zk}(hp:S.Perm (l.filter fun b=>!bad b))(hs:Srt S):S.foldl zaQ []=zcz l:=by
 rw[<-zAh];unfold zAj;rw[zsN];refine zn8 S _ [] ?_ hs (ziR _ [] List.Pairwise.nil) (fun x hx=>zq6 x (hp.subset hx));exact hp.trans (by simpa using(znu (l.filter fun b=>!bad b) []).symm)
theorem zso(l:List zk)(hl:l.length<=100000000000)(hok:∀x∈l,OKB x):R L Cs zsj [.c (.jc (zI l))] []=some (.w (.c (.jc (zI (zcz l)))),[]):=by
 have hc:=zvv l (by omega);obtain⟨l',v1,d1,d2,d3,d4,d5,hD⟩:=zuw l l.length (by omega);obtain⟨S,e,p,s⟩:=zuI (l.filter fun b=>!bad b) (l'.drop (l.filter fun b=>!bad b).length);have hsl:=p.length_eq;have hdec:(l.filter fun b=>!bad b)++l'.drop (l.filter fun b=>!bad b).length=l':=by
  conv=>lhs;arg 1;rw[<-d5]
  exact jO _ _
 rw[hdec]at e;obtain⟨v2,s1,s2,hS⟩:=zsp l'.length (l.filter fun b=>!bad b).length (by omega) (by omega) l' rfl v1;rw[e]at s2 hS;have htk:(S++l'.drop (l.filter fun b=>!bad b).length).take (l.filter fun b=>!bad b).length=S:=by
  rw[<-hsl,List.take_left]
 have hSl0:(S++l'.drop (l.filter fun b=>!bad b).length).length=l.length:=by simp;omega
 obtain⟨w',hJ⟩:=zyO (S++l'.drop (l.filter fun b=>!bad b).length) (l.filter fun b=>!bad b).length (by omega) (by omega) v2 (by
  rw[htk];intro x hx;exact hok x (kF.1 (p.subset hx)).1) _ 0 [] 0 rfl (jE _) (jE _) (by simp)
 rw[uT,htk,zAi p s]at hJ;generalize hk:(l.filter fun b=>!bad b).length=k at *;generalize zcz l=Q at *;generalize S++l'.drop k=S' at *;simp only[blk,hSl0,d3,ji,jB,zic,qK,jH]at hD hS hJ;rw[zUa zsx rfl];by_cases q1:v1=l.length
 ·have e1:=d2 q1;by_cases q2:v2=v1
  ·have e2:=s2 q2;rw[e1,q1]at hD;rw[e2,e1,q2,q1]at hS hJ;simp[zeQ,hc,hD,hS,hJ]
  ·rw[e1,q1]at hD;rw[e1,q1]at hS;rw[q1]at q2;simp[zeQ,hc,hD,hS,hJ,q2]
 ·by_cases q2:v2=v1
  ·have e2:=s2 q2;rw[e2,q2]at hS hJ;simp[zeQ,hc,hD,hS,hJ,q1]
  ·simp[zeQ,hc,hD,hS,hJ,q1,q2]
def Apt(p b:zk):Prop:=p.lane<b.lane\/(p.lane=b.lane/\p.hi+1<b.lo)
theorem zFx{m:zD}{b:zk}(h:VB m b):¬u0 m b:=by
 have h1:=h.lo;have h2:=h.le;have h3:=h.hi;have h4:=h.vlo;have h5:=h.vle;have h6:=h.vhi;have h7:=h.hold;unfold u0;omega
theorem zED{m:zD}:∀(l:List zk) (p:zk),(∀b∈l,VB m b)->l.Pairwise Apt->(∀b∈l,¬zmM p b)->zls m p l=0
 |[],_,_,_,_=>rfl
 |x::l,p,hv,ha,hp=>by
  rw[jS]at ha;have hx:=hv x (jr ..);have hl:=hx.lane;have h0:zer m p x=0:=by
   unfold zer;rw[if_neg (by omega),if_neg (zFx hx),if_neg (hp x (jr ..))]
  unfold zls;rw[if_neg (by simp[h0])];refine zED l x (fun b hb=>hv b (jp _ hb)) ha.2 fun b hb=>?_
  have:=ha.1 b hb;unfold Apt at this;unfold zmM;omega
theorem zFt{m:zD}{a b:zk}(ha:VB m a)(hb:VB m b)(hl:a.lane=b.lane):VB m (glue a b):=by
 have a1:=ha.lo;have a2:=ha.le;have a3:=ha.hi;have a4:=ha.vlo;have a5:=ha.vle;have a6:=ha.vhi;have a7:=ha.hold;rw[hl]at a3 a6 a7;have b3:=hb.hi;have b4:=hb.vlo;have b5:=hb.vle;have b6:=hb.vhi;have b7:=hb.hold;refine⟨hb.lane,a1,?_,?_,?_,?_,?_,?_⟩
 ·show a.lo<=max a.hi b.hi;omega
 ·show max a.hi b.hi<=z8 m b.lane;omega
 ·show 0<=min a.vlo b.vlo;omega
 ·show min a.vlo b.vlo<=max a.vhi b.vhi;omega
 ·show max a.vhi b.vhi<=zeR (zaK m b.lane);omega
 ·show 0<=(if a.hold=0\/b.hold=0 then 0 else max a.hold b.hold)/\(if a.hold=0\/b.hold=0 then 0 else max a.hold b.hold)<=z8 m b.lane;split<;>omega
theorem zEw(init:List zk)(a b:zk):zcP (init++[a]) b=if far a b=false then init++[glue a b] else init++[a]++[b]:=by
 have e:(init++[a]).getD ((init++[a]).length-1) z9=a:=by simp[jo]
 unfold zcP;rw[e];by_cases c:far a b=false
 ·rw[if_pos ⟨by simp,c⟩,if_pos c];simp
 ·rw[if_neg (fun h=>c h.2),if_neg c]
theorem zEu{m:zD}:∀(l init:List zk) (a:zk),(a::l).Pairwise leB->(∀b∈l,VB m b)->(∀o∈init++[a],VB m o)->(init++[a]).Pairwise Apt ->
  (∀o∈l.foldl zcP (init++[a]),VB m o)/\(l.foldl zcP (init++[a])).Pairwise Apt
 |[],init,a,_,_,h1,h2=>⟨h1,h2⟩
 |b::l,init,a,hs,hv,h1,h2=>by
  rw[jS]at hs;have hbl:=hs.2;rw[jS]at hbl;have hab:=hs.1 b (jr ..);have hb:=hv b (jr ..);have ha:=h1 a (by simp);rw[jK,zEw];have hfar:far a b=false<->(a.lane=b.lane/\b.lo<=a.hi+1):=by
   unfold far;by_cases c:a.lane=b.lane
   ·simp[c];omega
   ·simp[c]
  by_cases c:far a b=false
  ·rw[if_pos c];have hc:=hfar.1 c;refine zEu l init (glue a b) ?_ (fun x hx=>hv x (jp _ hx)) ?_ ?_
   ·rw[jS];refine⟨fun x hx=>?_,hbl.2⟩;have hbx:=hbl.1 x hx;unfold leB at hab hbx ⊢;simp only[glue];omega
   ·intro o ho;rcases jm.1 ho with ho|ho
    ·exact h1 o (j9 _ ho)
    ·rw[jh.1 ho];exact zFt ha hb hc.1
   ·rw[jD]at h2 ⊢;refine⟨h2.1,qu _ _,fun x hx y hy=>?_⟩;rw[jh.1 hy];have:=h2.2.2 x hx a (by simp);unfold Apt at this ⊢;simp only[glue];omega
  ·rw[if_neg c];have hc:¬(a.lane=b.lane/\b.lo<=a.hi+1):=fun h=>c (hfar.2 h)
   refine zEu l (init++[a]) b hs.2 (fun x hx=>hv x (jp _ hx)) ?_ ?_
   ·intro o ho;rcases jm.1 ho with ho|ho
    ·exact h1 o ho
    ·rw[jh.1 ho];exact hb
   ·rw[jD];refine⟨h2,qu _ _,fun x hx y hy=>?_⟩;rw[jh.1 hy];have hA:Apt a b:=by
     unfold Apt;unfold leB at hab;omega
    rcases jm.1 hx with hx|hx
    ·have:=(jD.1 h2).2.2 x hx a (by simp);have a2:=ha.le;unfold Apt at this hA ⊢;omega
    ·rw[jh.1 hx];exact hA
theorem zEl{m:zD}(l:List zk)(h:∀b∈l,VB m b):(∀o∈zcz l,VB m o)/\(zcz l).Pairwise Apt:=by
 have hm:∀x∈l.foldl zb5 [],x∈l:=fun x hx=>(zuL l [] x hx).resolve_right (by simp)
 have hs:(l.foldl zb5 []).Pairwise leB:=by
  rw[zpi];exact ziR _ [] List.Pairwise.nil
 unfold zcz;generalize l.foldl zb5 []=S at *;cases S with
 |nil=>exact⟨by simp,List.Pairwise.nil⟩
 |cons a t =>
  have e:zcP [] a=[]++[a]:=by simp[zcP]
  rw[jK,e];refine zEu t [] a hs (fun b hb=>h b (hm b (jp _ hb))) ?_ ?_
  ·intro o ho;simp at ho;subst ho;exact h _ (hm _ (jr ..))
  ·simp
theorem zE1{x fr to:Int}{b:zk}:∀z∈zoX x fr to b,z.lane=b.lane/\b.lo<=z.lo/\z.hi<=b.hi:=by
 intro z hz;unfold zoX at hz;split at hz
 ·simp only[jh]at hz;subst hz;exact⟨rfl,jQ _,jQ _⟩
 ·rename_i hc;rcases jm.1 hz with hz|hz
  ·split at hz
   ·simp only[jh]at hz;subst hz;exact⟨rfl,jQ _,by show fr-1<=b.hi;omega⟩
   ·cases hz
  ·split at hz
   ·simp only[jh]at hz;subst hz;exact⟨rfl,by show b.lo<=to+1;omega,jQ _⟩
   ·cases hz
theorem zFm(x fr to:Int)(b:zk):(zoX x fr to b).Pairwise Apt:=by
 unfold zoX;split
 ·exact qu _ _
 ·rename_i hc;split
  ·split
   ·simp only[List.singleton_append,jS,jh,forall_eq,j8,false_imp_iff,implies_true,List.Pairwise.nil,and_true];exact .inr ⟨rfl,by show fr-1+1<to+1;omega⟩
   ·simp
  ·split<;>simp
theorem zE0{x fr to:Int}:∀(l:List zk),∀z∈zhn x fr to l,∃b∈l,z.lane=b.lane/\b.lo<=z.lo/\z.hi<=b.hi
 |[],z,hz=>by cases hz
 |b::l,z,hz=>by
  unfold zhn at hz;rcases jm.1 hz with hz|hz
  ·exact⟨b,jr ..,zE1 z hz⟩
  ·obtain⟨c,hc,h⟩:=zE0 l z hz;exact⟨c,jp _ hc,h⟩
theorem zEN(x fr to:Int):∀(l:List zk),l.Pairwise Apt->(zhn x fr to l).Pairwise Apt
 |[],_=>List.Pairwise.nil
 |b::l,h=>by
  rw[jS]at h;unfold zhn;rw[jD];refine⟨zFm x fr to b,zEN x fr to l h.2,fun y hy z hz=>?_⟩;obtain⟨h1,h2,h3⟩:=zE1 y hy;obtain⟨c,hc,g1,g2,g3⟩:=zE0 l z hz;have:=h.1 c hc;unfold Apt at this ⊢;omega
theorem zFl(m:zD):∀(f:Nat) (a:Int) (n:Nat),goF m a (goR m f a n)=true
 |0,_,_=>rfl
 |f+1,a,n=>by
  unfold goR;split
  ·rfl
  ·rename_i h;have hi:n % (zS m a).length<(zS m a).length:=qv _ (by omega);have e:(zS m a).getD (n % (zS m a).length) 0=(zS m a)[n % (zS m a).length]:=by simp[jo,hi]
   have hm:(zS m a).getD (n % (zS m a).length) 0∈zS m a:=by rw[e];exact jb hi
   unfold goF;rw[zFl m f];rw[Bool.and_true];exact decide_eq_true hm
theorem zEY{m:zD}{x:Int}:∀(l:List zfn) (i:Nat),(∀(j:Nat) (h:j<l.length),x∉l[j].next)->zes x i l=[]
 |[],_,_=>rfl
 |z::l,i,h=>by
  unfold zes;rw[if_neg (show ¬x∈z.next from h 0 (Nat.zero_lt_succ _))];exact zEY (m:=m) l (i+1) fun j hj=>h (j+1) (Nat.succ_lt_succ hj)
theorem zFr{m:zD}(hs:zmX m)(hp:0<m.jf.length):zbK m 0 m.jf≠[]:=by
 intro h;have:(0:Int)∈zbK m 0 m.jf:=by
  rw[zqS];refine⟨0,hp,rfl,zEY (m:=m) _ 0 fun j hj hx=>?_⟩;have hx':(0:Int)∈zS m (j:Int):=by simpa [zS,hj]using hx
  have:=hs.up _ _ hx';omega
 rw[h]at this;cases this
theorem zE5{m:zD}{zs:List Zon}{ss:List Sgn}(hf:zmq m zs ss)(hp:0<m.jf.length)(k:Int):zdA m (zDT m k)=0:=by
 have hne:=zFr hf.BC hp;have hl:=zEm m k;have yb:∀i,i<(zbK m 0 m.jf).length->(zbK m 0 m.jf).getD i 0∈zbK m 0 m.jf:=fun i hi=>by
  have e:(zbK m 0 m.jf).getD i 0=(zbK m 0 m.jf)[i]:=by simp[jo,hi]
  rw[e];exact jb hi
 have hlen:0<(zbK m 0 m.jf).length:=ke.2 hne;have h0:=yb ((k % 1048576).toNat % (zbK m 0 m.jf).length) (qv _ hlen);unfold zDT at hl ⊢;rw[if_neg hne]at hl ⊢;generalize (zbK m 0 m.jf).getD ((k % 1048576).toNat % (zbK m 0 m.jf).length) 0=x at *;have hg:=zFl m 7 x ((k % 1048576).toNat / (zbK m 0 m.jf).length);generalize goR m 7 x ((k % 1048576).toNat / (zbK m 0 m.jf).length)=t at *;obtain⟨j,hj,hxj,hb⟩:=(zqS m x m.jf 0).1 h0;simp only[jw]at hl;simp only[zdA];rw[if_neg (by omega),if_neg (by omega),if_neg (by omega),if_neg (by simpa using hb),if_pos hg]
theorem zFv{m:zD}{k:zci}(ho:¬ziI k)(hv:∀b∈k.jJ,VB m b)(ha:k.jJ.Pairwise Apt):zdf m k=0:=by
 unfold zdf;rw[if_neg ho];refine zED _ _ hv ha fun b hb=>?_
 have:=(hv b hb).lane;simp only[zmM,zqY];omega
theorem zE9(k:Nat)(hk:k<7)(lim r o1 o2 o3 v:Int)(ws:List zCP):0<(zq k lim r o1 o2 o3 v ws).jf.length:=by
 match k,hk with
 |0,_ |1,_ |2,_ |3,_ |4,_ |5,_ |6,_=>simp[zq,zy]
structure InP(p q:zk):Prop where
 lane:p.lane=q.lane
 lo:q.lo<=p.lo
 hi:p.hi<=q.hi
 vlo:q.vlo<=p.vlo
 vhi:p.vhi<=q.vhi
 hold:q.hold=0\/(p.hold≠0/\p.hold<=q.hold)
theorem z1i(p q:zk):inB p q=true<->InP p q:=by
 unfold inB;simp only[jg,vC,decide_eq_true_eq];exact⟨fun⟨⟨⟨⟨⟨a,b⟩,c⟩,d⟩,e⟩,f⟩=>⟨a,b,c,d,e,f⟩,fun h=>⟨⟨⟨⟨⟨h.lane,h.lo⟩,h.hi⟩,h.vlo⟩,h.vhi⟩,h.hold⟩⟩
theorem InP.refl(p:zk):InP p p:=⟨rfl,jQ _,jQ _,jQ _,jQ _,by omega⟩
theorem InP.trans{p q s:zk}(h:InP p q)(g:InP q s):InP p s :=
 ⟨h.lane.trans g.lane,by have:=h.lo;have:=g.lo;omega,by have:=h.hi;have:=g.hi;omega,by have:=h.vlo;have:=g.vlo;omega,by have:=h.vhi;have:=g.vhi;omega,by have:=h.hold;have:=g.hold;omega⟩
abbrev Sub(l k:List zk):Prop:=∀p∈l,∃q∈k,InP p q
structure InE(x y:Ego):Prop where
 slo:y.slo<=x.slo
 shi:x.shi<=y.shi
 vlo:y.vlo<=x.vlo
 vhi:x.vhi<=y.vhi
structure InK(a b:zci):Prop where
 tick:a.tick=b.tick
 ego:InE a.ego b.ego
 bl:Sub a.jJ b.jJ
theorem zX7(a b:zci):zXR a b=true<->InK a b:=by
 unfold zXR z1D;simp only[jg,decide_eq_true_eq,kU,uk,decide_eq_false_iff_not,jx,kc,z1i];constructor
 ·rintro⟨⟨h1,⟨⟨⟨h2,h3⟩,h4⟩,h5⟩⟩,h6⟩;exact⟨h1,⟨by omega,by omega,by omega,by omega⟩,h6⟩
 ·intro h;have:=h.ego.slo;have:=h.ego.shi;have:=h.ego.vlo;have:=h.ego.vhi;exact⟨⟨h.tick,⟨⟨⟨by omega,by omega⟩,by omega⟩,by omega⟩⟩,h.bl⟩
abbrev Le(l:List zk):Prop:=∀p∈l,p.lo<=p.hi
theorem zUB{x fr to:Int}{p p':zk}(h:p'∈zoX x fr to p)(hp:p.lo<=p.hi):InP p' p/\p'.lo<=p'.hi:=by
 unfold zoX at h;split at h
 ·obtain rfl:=jh.1 h;exact⟨.refl _,hp⟩
 ·rename_i c;rcases jm.1 h with h|h
  ·split at h
   ·obtain rfl:=jh.1 h;exact⟨⟨rfl,jQ _,by simp only;omega,jQ _,jQ _,by simp only;omega⟩,by simp only;omega⟩
   ·cases h
  ·split at h
   ·obtain rfl:=jh.1 h;exact⟨⟨rfl,by simp only;omega,jQ _,jQ _,jQ _,by simp only;omega⟩,by simp only;omega⟩
   ·cases h
theorem zUl{x fr to:Int}{p':zk}:∀{l:List zk},p'∈zhn x fr to l<->∃p∈l,p'∈zoX x fr to p
 |[]=>by simp[zhn]
 |b::l=>by
  simp only[zhn,jm,zUl (l:=l),js];constructor
  ·rintro(h |⟨p,hp,h⟩)
   ·exact⟨b,.inl rfl,h⟩
   ·exact⟨p,.inr hp,h⟩
  ·rintro⟨p,rfl|hp,h⟩
   ·exact .inl h
   ·exact .inr ⟨p,hp,h⟩
theorem zUA{x fr to:Int}{l:List zk}(hl:Le l):Sub (zhn x fr to l) l/\Le (zhn x fr to l):=by
 refine⟨fun p' h=>?_,fun p' h=>?_⟩
 ·obtain⟨p,hp,h⟩:=zUl.1 h;exact⟨p,hp,(zUB h (hl p hp)).1⟩
 ·obtain⟨p,hp,h⟩:=zUl.1 h;exact(zUB h (hl p hp)).2
theorem Sub.trans{l k j:List zk}(h:Sub l k)(g:Sub k j):Sub l j:=fun p hp=>by
 obtain⟨q,hq,h⟩:=h p hp;obtain⟨s,hs,g⟩:=g q hq;exact⟨s,hs,h.trans g⟩
theorem zD8(l:List zk)(hl:l.length<=100000000000)(hok:∀x∈l,OKB x):R L Cs zEB [.c (.jc (zI l))] []=some (.w (.c (.jc (zI (zcz l)))),[]):=by
 have h:=zso l hl hok;rw[zUa zEG rfl];simp[zuk,h]
theorem zFs{p b:zk}(h:¬zmM p b):Apt p b:=by
 unfold zmM at h;unfold Apt;omega
theorem zEO{m:zD}(h:zcp m):∀(r:List zk) (p:zk),zls m p r=0->r.Pairwise Apt/\∀b∈r,Apt p b
 |[],p,_=>⟨List.Pairwise.nil,by simp⟩
 |x::r,p,hc=>by
  unfold zls at hc;split at hc
  ·rename_i h1;exact absurd hc h1
  ·rename_i h1;have h1:zer m p x=0:=by simpa using h1
   obtain⟨a1,a2,a3,a4,a5,a6,a7,a8,a9,a10,_,a12⟩:=zui h h1;have hx:=zFs a12;obtain⟨i1,i2⟩:=zEO h r x hc;refine⟨jS.2 ⟨i2,i1⟩,fun b hb=>?_⟩;rcases js.1 hb with rfl|hb
   ·exact hx
   ·have:=i2 b hb;unfold Apt at this hx ⊢;omega
theorem zFn{m:zD}(h:zcp m){k:zci}(hc:zdf m k=0):k.jJ.Pairwise Apt:=by
 unfold zdf at hc;split at hc
 ·cases hc
 ·exact(zEO h _ _ hc).1
structure KJ(m:zD)(k:zci):Prop where
 vb:∀b∈k.jJ,VB m b
 apt:k.jJ.Pairwise Apt
 ego:znd k.ego
theorem zN7{m:zD}(h:zcp m)(hs:zmX m){k:zci}(hk:KJ m k):k.jJ.length<=200000000:=by
 have hc:zls m zqY k.jJ=0:=zED _ _ hk.vb hk.apt fun b hb=>by
  have:=(hk.vb b hb).lane;simp only[zmM,zqY];omega
 have:=zvw h _ _ hc (show(-1:Int)<_ by omega) (show(0:Int)<=_ by omega);have:=hs.few;simp only[zqY]at *;omega
structure InV(p q:zk):Prop where
 lane:p.lane=q.lane
 vlo:q.vlo<=p.vlo
 vhi:p.vhi<=q.vhi
 hold:q.hold=0\/(p.hold≠0/\p.hold<=q.hold)
theorem InP.v{p q:zk}(h:InP p q):InV p q:=⟨h.lane,h.vlo,h.vhi,h.hold⟩
theorem z0V{m:zD}(h:zcp m)(h1:zXl m){n:Nat}(hn:n<m.jf.length)(cs:List Pnt):∀x∈zXw n m.jf[n] cs,InB x/\x.lane=n/\x.lo<=x.hi:=by
 intro x hx;have hle:=h.Bf _ (jb hn);simp only[zXw,kR,zXt,jZ]at hx;obtain⟨p,hp,f,hf,rfl⟩:=hx;have hb:=(zYS h1 (jb hn) p).2 f hf;refine⟨⟨?_,?_⟩,rfl,?_⟩<;>simp only[zYk]<;>omega
theorem zZO{m:zD}(h1:zXl m){n:Nat}(hn:n<m.jf.length)(cs:List Pnt):(zXw n m.jf[n] cs).length<=cs.length:=by
 induction cs with
 |nil=>simp[zXw]
 |cons p cs ih =>
  have:=zZf h1 hn p;simp only[zXw,jW,jt,jw]at *;omega
def zYw(n:Nat)(l:zfn)(cs:List Pnt):List Fnd:=(zYJ (zXw n l cs)).foldl grp []
def zXF(cs:List Pnt):Nat->List zfn->List Fnd
 |_,[]=>[]
 |n,l::ls=>zYw n l cs++zXF cs (n+1) ls
theorem zY3(s:List Fnd):∀g,(s.foldl grp g).length<=g.length+s.length:=by
 induction s with
 |nil=>intro g;simp
 |cons x s ih =>
  intro g;have:=ih (grp g x);have:=z0h g x;simp only[jK,jw];omega
theorem zZd{m:zD}(h1:zXl m){n:Nat}(hn:n<m.jf.length)(cs:List Pnt):(zYw n m.jf[n] cs).length<=cs.length:=by
 have h2:=zY3 (zYJ (zXw n m.jf[n] cs)) [];have h3:=zX5 (zXw n m.jf[n] cs);have h4:=zZO h1 hn cs;unfold zYw;simp at h2;omega
theorem zZJ{m:zD}(h:zcp m)(h1:zXl m)(pts:List Pnt)(hp:pts.length<=1000)(hm:m.jf.length<=90):∀(r:List zfn) (i v:Nat) (o:List Fnd),m.jf.drop i=r->i<=m.jf.length->o.length<=i*1000 ->
  ∃v',Y L Cs zWT (some [5,21,20,1,2]) 3 [(5,.w (.c (oS 2 o))),(21,.w (W i)),(20,.w (W m.jf.length)),(1,.w (.c (.jc (zWs pts)))),(2,.w (Pt 0))] [bx 5 (zf m),gb 5,oB v o] =
   some (.exit 0,[(22,.w (Bo false)),(5,.w (.c (oS 2 (o++zXF (pts.filter zXq) i r)))),(21,.w (W m.jf.length)),(20,.w (W m.jf.length)),(1,.w (.c (.jc (zWs pts)))),(2,.w (Pt 0))],[bx 5 (zf m),gb 5,oB v' (o++zXF (pts.filter zXq) i r)]):=by
 intro r;induction r with
 |nil =>
  intro i v o hd hi ho;obtain rfl:=zUb hd hi;refine⟨v,?_⟩;rw[zj zWT.eq_1];simp[zXF]
 |cons ln r ih =>
  intro i v o hd hi ho;obtain⟨hil,hs,hd'⟩:=zL hd;have hw:=zB (i:=i) (by omega);have hcnt:=z0z pts hp;have hfl:(pts.filter zXq).length<=pts.length:=qj _ _;have hcs:∀p∈pts.filter zXq,zXq p=true:=fun p hp=>(kF.1 hp).2
  generalize pts.filter zXq=cs at *;have hl1:=zZK h h1 hil v m.jf.length o pts cs hcs (by omega) cs 0 [] rfl (jE _) (jE _);have hlen:=zZO h1 hil cs;have hInB:=z0V h h1 hil cs;have hll:=zZd h1 hil cs;rw[hs]at hl1 hlen hInB hll;obtain⟨v2,hl2⟩:=zYG (m:=m) i m.jf.length ((zXw i ln cs).length+1) o (by omega) pts (zYJ (zXw i ln cs)) (fun x hx=>(hInB x ((zZa _).mem_iff.1 hx)).1) (by rw[zX5];omega) (zYJ (zXw i ln cs)) 0 v [] rfl (jE _) (jE _) (by simp);change Y _ _ _ _ _ _ _=some (_,[_,_,_,_,_,_,_,_,_,(5,.w (.c (oS 2 (o++zYw i ln cs))))],[_,_,oB v2 (o++zYw i ln cs),_])at hl2;have hsl:=zX5 (zXw i ln cs);by_cases h0:zXw i ln cs=[]
  ·have e:zYw i ln cs=[]:=by
    have:zYJ ([]:List Fnd)=[]:=kl (zX5 []);simp[zYw,h0,this]
   obtain⟨v',ih⟩:=ih (i+1) v o hd' hil (by omega);refine⟨v',?_⟩;have hS:=zZS 0;rw[zXF,e,jH,<-ih,zj zWT.eq_1];clear ih hl2 hInB hll;obtain⟨v3,hl2⟩:=zYG (m:=m) i m.jf.length 0 o (by omega) pts [] (by simp) (by simp) [] 0 v [] rfl (jE _) (jE _) (by simp);have hv3:v3=v:=by
    rw[zj zWH.eq_1]at hl2;simp[oB,oS,lB,zf]at hl2;exact hl2.symm
   subst hv3;rw[h0]at hl1;simp only[oB,oS,lB,sl,own,zf,jB,ji,zXx,ub,jH,zYf,List.foldl_nil]at hl1 hl2 hcnt hS ⊢;simp[hil,hw,hcnt,hl1,hS,hl2,zg,zH,zf,oB,oS,lB]
  ·obtain⟨v',ih⟩:=ih (i+1) v2 (o++zYw i ln cs) hd' hil (by simp;omega);refine⟨v',?_⟩;have hS:=z1u (zXw i ln cs) (by omega) h0 (zXw i ln cs).length;have hn0:(zXw i ln cs).length≠0:=by simpa using h0
   rw[zXF,<-jA,<-ih,zj zWT.eq_1];clear ih hInB;generalize zYw i ln cs=lf at *;generalize zYJ (zXw i ln cs)=sf at *;simp only[jH]at hl1;generalize zXw i ln cs=af at *;simp only[oB,oS,lB,sl,own,zf,jB,ji,zXx,ub,zYf,hsl]at hl1 hl2 hcnt hS ⊢;simp[hil,hw,hcnt,hl1,hS,hl2,zg,zH,zf,oB,oS,lB,hsl]
theorem zZ5{m:zD}(h1:zXl m)(cs:List Pnt):∀(r:List zfn) (i:Nat),m.jf.drop i=r->(zXF cs i r).length<=r.length*cs.length:=by
 intro r;induction r with
 |nil=>intro i _;simp[zXF]
 |cons ln r ih =>
  intro i hd;obtain⟨hil,hs,hd'⟩:=zL hd;have h2:=ih (i+1) hd';have h3:=zZd h1 hil cs;rw[hs]at h3;simp only[zXF,jt,jw,kJ];omega
def zWG(m:zD)(pts:List Pnt):List Fnd:=zXF (pts.filter zXq) 0 m.jf
theorem z1x{m:zD}(h:zcp m)(h1:zXl m)(pts:List Pnt)(hp:pts.length<=1000)(hm:m.jf.length<=90):R L Cs zY5 [.a (zf m),.c (.jc (zWs pts))] []=some (.w (.c (.jc (zWw (zWG m pts)))),[]):=by
 obtain⟨v',hl⟩:=zZJ h h1 pts hp hm m.jf 0 0 [] rfl (jE _) (jE _);have hck:=h.chk;have htk:List.take (zWG m pts).length (zWw (zWG m pts))=zWw (zWG m pts):=zYQ _;change Y _ _ _ _ _ _ _=some (_,[_,(5,.w (.c (oS 2 (zWG m pts)))),_,_,_,_],[_,_,oB v' (zWG m pts)])at hl;generalize zWG m pts=ff at *;simp only[oB,oS,zf,jB,ji,zXx]at hl hck;rw[zUa zY8 rfl];simp[zXH,zf,hck,hl,zg,zX,htk]
def yU:List Spn->List zk->List zk
 |[],l=>l
 |s::r,l=>yU r (zhn s.lane s.lo s.hi l)
def zXy(seen:List Spn)(b:zk):Bool:=seen.any fun s=>decide (s.lane=b.lane)&&(decide (s.lo<=b.lo)&&decide (b.hi<=s.hi))
def zXe(b:zk)(f:Fnd):Bool:=decide (f.lane=b.lane)&&(decide (f.lo<=b.hi)&&decide (b.lo<=f.hi))
def zYT(x:Fnd)(l:List Fnd):Fnd:=l.foldl (fun y z=>if z.v1<y.v1 then z else y) x
def zYU(x:Fnd)(l:List Fnd):Fnd:=l.foldl (fun y z=>if y.v2<z.v2 then z else y) x
def nrB(b:zk):List Fnd->zk
 |[]=>b
 |x::l=>{ b with vlo:=max b.vlo (zYT x l).v1,vhi:=min b.vhi (zYU x l).v2 }
def zX4(seen:List Spn)(found:List Fnd)(b:zk):List zk :=
 if zXy seen b=true then(if(nrB b (found.filter (zXe b))).vlo<=(nrB b (found.filter (zXe b))).vhi then [nrB b (found.filter (zXe b))] else []) else [b]
def zXm(m:zD)(seen:List Spn)(pts:List Pnt)(l:List zk):List zk :=
 (yU (zXD m seen (zWG m pts)) l).flatMap (zX4 (zXa m seen) (zWG m pts))
theorem zX8:∀(fr:List Spn) (l:List zk),Le l->Sub (yU fr l) l/\Le (yU fr l)
 |[],l,hl=>⟨fun p hp=>⟨p,hp,.refl p⟩,hl⟩
 |s::r,l,hl=>by
  obtain⟨h1,h2⟩:=zUA (x:=s.lane) (fr:=s.lo) (to:=s.hi) hl;obtain⟨g1,g2⟩:=zX8 r _ h2;exact⟨g1.trans h1,g2⟩
theorem zZs{m:zD}:∀(fr:List Spn) (l:List zk),(∀b∈l,VB m b)->l.Pairwise Apt->(∀b∈yU fr l,VB m b)/\(yU fr l).Pairwise Apt
 |[],l,hv,ha=>⟨hv,ha⟩
 |s::r,l,hv,ha=>zZs r _ (zxH l hv) (zEN _ _ _ l ha)
abbrev z04(ln o:Int)(l:List Spn):Prop:=∃t∈l,t.lane=ln/\t.lo<=o/\o<=t.hi
theorem zYB:∀(l:List Fnd) (x:Fnd),(zYT x l∈x::l)/\∀y∈x::l,(zYT x l).v1<=y.v1
 |[],x=>⟨by simp[zYT],fun y hy=>by rw[jh.1 hy];exact jQ _⟩
 |z::l,x=>by
  have e:zYT x (z::l)=zYT (if z.v1<x.v1 then z else x) l:=rfl;obtain⟨h1,h2⟩:=zYB l (if z.v1<x.v1 then z else x);rw[e];have h3:=h2 _ (jr ..);refine⟨?_,fun y hy=>?_⟩
  ·rcases js.1 h1 with h|h
   ·rw[h];split<;>simp
   ·exact jp _ (jp _ h)
  ·rcases js.1 hy with hy|hy
   ·rw[hy];by_cases c:z.v1<x.v1<;>simp only[c,if_true,if_false]at h3 ⊢<;>omega
   ·rcases js.1 hy with hy|hy
    ·rw[hy];by_cases c:z.v1<x.v1<;>simp only[c,if_true,if_false]at h3 ⊢<;>omega
    ·exact h2 y (jp _ hy)
theorem zYC:∀(l:List Fnd) (x:Fnd),(zYU x l∈x::l)/\∀y∈x::l,y.v2<=(zYU x l).v2
 |[],x=>⟨by simp[zYU],fun y hy=>by rw[jh.1 hy];exact jQ _⟩
 |z::l,x=>by
  have e:zYU x (z::l)=zYU (if x.v2<z.v2 then z else x) l:=rfl;obtain⟨h1,h2⟩:=zYC l (if x.v2<z.v2 then z else x);rw[e];have h3:=h2 _ (jr ..);refine⟨?_,fun y hy=>?_⟩
  ·rcases js.1 h1 with h|h
   ·rw[h];split<;>simp
   ·exact jp _ (jp _ h)
  ·rcases js.1 hy with hy|hy
   ·rw[hy];by_cases c:x.v2<z.v2<;>simp only[c,if_true,if_false]at h3 ⊢<;>omega
   ·rcases js.1 hy with hy|hy
    ·rw[hy];by_cases c:x.v2<z.v2<;>simp only[c,if_true,if_false]at h3 ⊢<;>omega
    ·exact h2 y (jp _ hy)
theorem z0M(b:zk)(l:List Fnd):(nrB b l).lane=b.lane/\(nrB b l).lo=b.lo/\(nrB b l).hi=b.hi/\(nrB b l).hold=b.hold/\b.vlo<=(nrB b l).vlo/\(nrB b l).vhi<=b.vhi:=by
 cases l with
 |nil=>exact⟨rfl,rfl,rfl,rfl,jQ _,jQ _⟩
 |cons x l=>exact⟨rfl,rfl,rfl,rfl,by simp only[nrB];omega,by simp only[nrB];omega⟩
theorem zYv{seen:List Spn}{found:List Fnd}{b p:zk}(h:p∈zX4 seen found b):InP p b/\p.lane=b.lane/\p.lo=b.lo/\p.hi=b.hi/\p.hold=b.hold/\(b.vlo<=b.vhi->p.vlo<=p.vhi):=by
 unfold zX4 at h;obtain⟨n1,n2,n3,n4,n5,n6⟩:=z0M b (found.filter (zXe b));split at h
 ·split at h
  ·rename_i c;rw[jh.1 h];exact⟨⟨n1,by omega,by omega,n5,n6,by rw[n4];omega⟩,n1,n2,n3,n4,fun _=>c⟩
  ·cases h
 ·rw[jh.1 h];exact⟨.refl b,rfl,rfl,rfl,rfl,id⟩
theorem z0e{m:zD}{seen:List Spn}{pts:List Pnt}{l:List zk}(hl:Le l):Sub (zXm m seen pts l) l:=by
 intro p' hp';obtain⟨p,hp,hpp⟩:=kR.1 hp';obtain⟨q,hq,hI⟩:=(zX8 _ _ hl).1 p hp;exact⟨q,hq,(zYv hpp).1.trans hI⟩
theorem zZj{m:zD}{seen:List Spn}{pts:List Pnt}{l:List zk}(hv:∀b∈l,VB m b)(ha:l.Pairwise Apt):(∀b∈zXm m seen pts l,VB m b)/\(zXm m seen pts l).Pairwise Apt:=by
 unfold zXm;obtain⟨h1,h2⟩:=zZs (zXD m seen (zWG m pts)) l hv ha;generalize yU (zXD m seen (zWG m pts)) l=c at *;refine⟨fun b hb=>?_,?_⟩
 ·obtain⟨p,hp,hpp⟩:=kR.1 hb;have hb:=h1 p hp;obtain⟨g,g1,g2,g3,g4,g5⟩:=zYv hpp;have:=g.vlo;have:=g.vhi;exact⟨by rw[g1];exact hb.lane,by rw[g2];exact hb.lo,by rw[g2,g3];exact hb.le,by rw[g1,g3];exact hb.hi,by have:=hb.vlo;omega,g5 hb.vle,by rw[g1];have:=hb.vhi;omega,by rw[g1,g4];exact hb.hold⟩
 ·clear h1;induction c with
  |nil=>exact List.Pairwise.nil
  |cons p c ih =>
   obtain⟨q1,q2⟩:=jS.1 h2;rw[jW,jD];refine⟨?_,ih q2,fun a ha b hb=>?_⟩
   ·unfold zX4;split
    ·split
     ·exact qu ..
     ·exact List.Pairwise.nil
    ·exact qu ..
   ·obtain⟨_,a1,a2,a3,_,_⟩:=zYv ha;obtain⟨q,hq,hqq⟩:=kR.1 hb;obtain⟨_,b1,b2,b3,_,_⟩:=zYv hqq;have:=q1 q hq;unfold Apt at this ⊢;omega
theorem zZ9(a b:Fnd):R L Cs zW3 [.a (zWN a),.a (zWN b)] []=some (.w (W (zgQ a.v1 b.v1)),[]):=by
 have h:=zp1 a.v1 b.v1;rw[zUa zYE rfl];simp[zXk,zWN,h,zg]
theorem zZ8(a b:Fnd):R L Cs zW2 [.a (zWN a),.a (zWN b)] []=some (.w (W (zgQ a.v2 b.v2)),[]):=by
 have h:=zp1 a.v2 b.v2;rw[zUa zYD rfl];simp[zXj,zWN,h,zg]
abbrev mnE(q:Nat)(l:List Fnd)(i:Nat):Env:=[(6,.w (W i)),(4,.w (Pt 0)),(1,.w (.c (.fn q [] []))),(0,.w (.c (.jc (zWw l)))),(5,.w (Pt 1))]
theorem z1k(a b:Int):(zgQ a b<0)=(a<b):=by
 unfold zgQ;split
 ·simp;omega
 ·split<;>simp<;>omega
theorem z1l(a b:Int):(0<zgQ a b)=(b<a):=by
 unfold zgQ;split
 ·simp;omega
 ·split<;>simp<;>omega
theorem z0P(l:List Fnd)(hl:l.length<=100000)(z:List Cl):∀(r:List Fnd) (i v:Nat) (y:Fnd),l.drop i=r->i<=l.length ->
  ∃v',Y L Cs zWC (some [6,4,1,0,5]) 2 (mnE zW3 l i) [bx 5 z,bxv v 5 (zWN y)]=some (.exit 0,(17,.w (Bo false))::mnE zW3 l l.length,[bx 5 z,bxv v' 5 (zWN (zYT y r))]):=by
 intro r;induction r with
 |nil =>
  intro i v y hd hi;obtain rfl:=zUb hd hi;refine⟨v,?_⟩;rw[zj zWC.eq_1];simp[zYT]
 |cons x r ih =>
  intro i v y hd hi;obtain⟨hil,hx,hd'⟩:=zL hd;have hw:=zB (i:=i) (by omega);have hc:=zZ9 x y;have e:zYT y (x::r)=zYT (if x.v1<y.v1 then x else y) r:=rfl;have hs:=z1k x.v1 y.v1;by_cases c:x.v1<y.v1
  ·obtain⟨v',h'⟩:=ih (i+1) (v+1) x hd' hil;refine⟨v',?_⟩;rw[e,if_pos c,<-h'];clear ih h' e;rw[zj zWC.eq_1];simp only[zWN]at hc;simp[mnE,hil,hx,hw,zWN,hc,hs,c]
  ·obtain⟨v',h'⟩:=ih (i+1) v y hd' hil;refine⟨v',?_⟩;rw[e,if_neg c,<-h'];clear ih h' e;rw[zj zWC.eq_1];simp only[zWN]at hc;simp[mnE,hil,hx,hw,zWN,hc,hs,c]
theorem z0Q(l:List Fnd)(hl:l.length<=100000)(z:List Cl):∀(r:List Fnd) (i v:Nat) (y:Fnd),l.drop i=r->i<=l.length ->
  ∃v',Y L Cs zWD (some [6,4,1,0,5]) 2 (mnE zW2 l i) [bx 5 z,bxv v 5 (zWN y)]=some (.exit 0,(17,.w (Bo false))::mnE zW2 l l.length,[bx 5 z,bxv v' 5 (zWN (zYU y r))]):=by
 intro r;induction r with
 |nil =>
  intro i v y hd hi;obtain rfl:=zUb hd hi;refine⟨v,?_⟩;rw[zj zWD.eq_1];simp[zYU]
 |cons x r ih =>
  intro i v y hd hi;obtain⟨hil,hx,hd'⟩:=zL hd;have hw:=zB (i:=i) (by omega);have hc:=zZ8 x y;have e:zYU y (x::r)=zYU (if y.v2<x.v2 then x else y) r:=rfl;have hs:=z1l x.v2 y.v2;by_cases c:y.v2<x.v2
  ·obtain⟨v',h'⟩:=ih (i+1) (v+1) x hd' hil;refine⟨v',?_⟩;rw[e,if_pos c,<-h'];clear ih h' e;rw[zj zWD.eq_1];simp only[zWN]at hc;simp[mnE,hil,hx,hw,zWN,hc,hs,c]
  ·obtain⟨v',h'⟩:=ih (i+1) v y hd' hil;refine⟨v',?_⟩;rw[e,if_neg c,<-h'];clear ih h' e;rw[zj zWD.eq_1];simp only[zWN]at hc;simp[mnE,hil,hx,hw,zWN,hc,hs,c]
theorem z0A(x:Fnd)(l:List Fnd)(hl:l.length<100000):R L Cs zXS [.c (.jc (zWw (x::l))),.c (.fn zW3 [] [])] []=some (.w (.a (zWN (zYT x l))),[]):=by
 obtain⟨v',h⟩:=z0P (x::l) (by simp;omega) [I 0,I 0,I 0,I 0,I 0] l 1 1 x rfl (by simp);have hp:¬((l.length:Int)+1<1):=by omega
 simp only[mnE,kO,jw,zYn,zWN]at h;rw[zUa zXZ rfl];simp[zWV,h,zWN,hp,zg]
theorem z0B(x:Fnd)(l:List Fnd)(hl:l.length<100000):R L Cs zXT [.c (.jc (zWw (x::l))),.c (.fn zW2 [] [])] []=some (.w (.a (zWN (zYU x l))),[]):=by
 obtain⟨v',h⟩:=z0Q (x::l) (by simp;omega) [I 0,I 0,I 0,I 0,I 0] l 1 1 x rfl (by simp);have hp:¬((l.length:Int)+1<1):=by omega
 simp only[mnE,kO,jw,zYn,zWN]at h;rw[zUa zX0 rfl];simp[zWW,h,zWN,hp,zg]
abbrev nwE(fs out:List Fnd)(i:Nat):Env:=[(6,.w (.c (sl 2 5 (zWw out)))),(13,.w (W i)),(12,.w (W fs.length)),(4,.w (Pt 1)),(11,.w (.c (.jc (zWw fs)))),(2,.w (Pt 0))]
theorem z1g(b:zk)(fs:List Fnd)(hl:fs.length<=100000):∀(r:List Fnd) (i:Nat) (out:List Fnd),fs.drop i=r->i<=fs.length->out.length<=i ->
  Y L Cs zWQ (some [6,13,12,4,11,2]) 3 (nwE fs out i) [bx 6 (ze b),bx 6 [I 0,I 0,I 0,I 0,I 0,I 0],some (own 5 (zWw out))] =
    some (.exit 0,[(14,.w (Bo false)),(6,.w (.c (sl 2 5 (zWw (out++r.filter (zXe b)))))),(13,.w (W fs.length)),(12,.w (W fs.length)),(4,.w (Pt 1)),(11,.w (.c (.jc (zWw fs)))),(2,.w (Pt 0))],[bx 6 (ze b),bx 6 [I 0,I 0,I 0,I 0,I 0,I 0],some (own 5 (zWw (out++r.filter (zXe b))))]):=by
 intro r;induction r with
 |nil =>
  intro i out hd hi ho;obtain rfl:=zUb hd hi;rw[zj zWQ.eq_1];simp
 |cons x r ih =>
  intro i out hd hi ho;obtain⟨hil,hx,hd'⟩:=zL hd;have hw:=zB (i:=i) (by omega);have jU:(out.length+1)*40<=140737488355328:=by omega
  by_cases c:zXe b x=true
  ·rw[qW,if_pos c,show out++x::r.filter (zXe b)=(out++[x])++r.filter (zXe b) by simp,<-ih (i+1) (out++[x]) hd' hil (by simp;omega)];clear ih;unfold zXe at c;simp only[jg,decide_eq_true_eq]at c;obtain⟨c1,c2,c3⟩:=c;have c1':(x.lane==b.lane)=true:=by simp[c1]
   rw[zj zWQ.eq_1];simp[nwE,hil,hx,hw,zWN,ze,c1,c1',c2,c3,jU,zg,zH]
  ·rw[qW,if_neg c,<-ih (i+1) out hd' hil (by omega)];clear ih;unfold zXe at c;simp only[jg,decide_eq_true_eq]at c;rw[zj zWQ.eq_1];by_cases c1:x.lane=b.lane
   ·have c1':(x.lane==b.lane)=true:=by simp[c1]
    by_cases c2:x.lo<=b.hi
    ·have c3:¬b.lo<=x.hi:=fun h=>c ⟨c1,c2,h⟩
     simp[nwE,hil,hx,hw,zWN,ze,c1,c1',c2,c3,zg,zH]
    ·simp[nwE,hil,hx,hw,zWN,ze,c1,c1',c2,zg,zH]
   ·have c1':(x.lane==b.lane)=false:=by simp[c1]
    simp[nwE,hil,hx,hw,zWN,ze,c1,c1',zg,zH]
theorem z00(b:zk)(hb:b.vlo<=b.vhi)(fs:List Fnd)(hl:fs.length<=50000) :
  R L Cs zYV [.a (ze b),.c (.jc (zWw fs))] []=some (.t [.a (ze (nrB b (fs.filter (zXe b)))),Bo (decide ((nrB b (fs.filter (zXe b))).vlo<=(nrB b (fs.filter (zXe b))).vhi))],[]):=by
 have h:=z1g b fs (by omega) fs 0 [] rfl (jE _) (jk _);have hfl:=qj (zXe b) fs;simp only[jH,nwE,ji,zXx,jB,sl,own]at h;generalize fs.filter (zXe b)=A at *;cases A with
 |nil =>
  simp only[zXx,jB,ze]at h;rw[zUa zYc rfl];simp[zXf,h,nrB,hb,ze,zg,zH]
 |cons x l =>
  have h1:=z0A x l (by simp at hfl;omega);have h2:=z0B x l (by simp at hfl;omega);have hz:((l.length:Int)+1==0)=false:=beq_false_of_ne (by omega);simp only[zYn,zWN,ze]at h h1 h2;rw[zUa zYc rfl];simp[zXf,h,h1,h2,nrB,zWN,ze,hz,zg,zH,zX];exact decide_eq_decide.2 yI
theorem zYo{m:zD}(h:zcp m)(hs:zmX m){l:List zk}(hv:∀b∈l,VB m b)(ha:l.Pairwise Apt):l.length<=200000000 :=
 zN7 h hs (k:=⟨0,l,⟨0,0,0,0⟩⟩) ⟨hv,ha,(show znd ⟨0,0,0,0⟩ from⟨by decide,by decide⟩)⟩
theorem z0f(k:Int):300<=zeR k/\zeR k<=2000:=by unfold zeR;(repeat' split)<;>omega
abbrev VS(m:zD)(l:List Spn):Prop:=(∀b∈l.map zWu,VB m b)/\(l.map zWu).Pairwise Apt
theorem zZh(x fr to:Int):∀l:List Spn,(zYr x fr to l).map zWu=zhn x fr to (l.map zWu)
 |[]=>rfl
 |b::l=>by
  rw[zYr,qD,zZh x fr to l,ki,zhn]
  congr 1
  unfold zYm zoX;by_cases c:b.lane≠x\/fr>to\/fr>b.hi\/to<b.lo
  ·rw[if_pos c,if_pos (show(zWu b).lane≠x\/fr>to\/fr>(zWu b).hi\/to<(zWu b).lo from c)];rfl
  ·rw[if_neg c,if_neg (show ¬((zWu b).lane≠x\/fr>to\/fr>(zWu b).hi\/to<(zWu b).lo) from c),qD]
   congr 1
   ·by_cases c1:b.lo<fr
    ·rw[if_pos c1,if_pos (show(zWu b).lo<fr from c1)];rfl
    ·rw[if_neg c1,if_neg (show ¬(zWu b).lo<fr from c1)];rfl
   ·by_cases c1:to<b.hi
    ·rw[if_pos c1,if_pos (show to<(zWu b).hi from c1)];rfl
    ·rw[if_neg c1,if_neg (show ¬to<(zWu b).hi from c1)];rfl
theorem z0X{m:zD}{x fr to:Int}{l:List Spn}(h:VS m l):VS m (zYr x fr to l):=by
 unfold VS;rw[zZh];exact⟨zxH _ h.1,zEN _ _ _ _ h.2⟩
theorem z0W{m:zD}(h:zcp m)(hs:zmX m){l:List Spn}(hv:VS m l):l.length<=200000000:=by
 have:=zYo h hs hv.1 hv.2
 rwa [qE]at this
theorem zZE{m:zD}(h:zcp m)(l:List Spn):VS m (zXa m l):=by
 have h0:∀b∈(l.filter (onF m)).map zWu,VB m b:=fun b hb=>by
  obtain⟨s,hs,rfl⟩:=jZ.1 hb;have hs:=(kF.1 hs).2;unfold onF at hs;simp only[jg,decide_eq_true_eq]at hs;have:=z0f (zaK m s.lane);have:=zcX h (x:=s.lane) (by omega);exact⟨by simp only[zWu];omega,by simp only[zWu];omega,by simp only[zWu];omega,by simp only[zWu];omega,by simp only[zWu];omega,by simp only[zWu];omega,by simp only[zWu];omega,by simp only[zWu];omega⟩
 obtain⟨j1,j2⟩:=zEl _ h0;unfold VS zXa;rw[yq];refine⟨fun b hb=>?_,?_⟩
 ·obtain⟨q,hq,rfl⟩:=jZ.1 hb;have v:=j1 q hq;have:=z0f (zaK m q.lane);have:=zcX h v.lane;exact⟨v.lane,v.lo,v.le,v.hi,jQ _,jQ _,by show(0:Int)<=zeR (zaK m q.lane);omega,by constructor;exact jQ _;show(0:Int)<=z8 m q.lane;omega⟩
 ·rw[List.pairwise_map];exact j2.imp fun {a b} hab=>by
   unfold Apt at hab ⊢;simp only[Function.comp,zWu,zXs];exact hab
theorem z0i{m:zD}(h:zcp m)(fs:List Fnd):∀(r:List Fnd) (l:List Spn),VS m l->VS m (zYx m r l)
 |[],l,hv=>hv
 |f::r,l,hv=>by
  unfold zYx;refine z0i h fs r _ ?_;split
  ·exact z0X hv
  ·exact hv
theorem zZ4{m:zD}(h:zcp m)(hs:zmX m)(fs:List Fnd)(hl:fs.length<=100000):∀(r:List Fnd) (i:Nat) (out:List Spn),fs.drop i=r->i<=fs.length->VS m out ->
  Y L Cs zW9 (some [7,19,18,17,3]) 2 [(7,.w (.c (.jc (zWx out)))),(19,.w (W i)),(18,.w (W fs.length)),(17,.w (.c (.jc (zWw fs)))),(3,.w (Pt 0))] [bx 5 (zf m),gb 3] =
    some (.exit 0,[(20,.w (Bo false)),(7,.w (.c (.jc (zWx (zYx m r out))))),(19,.w (W fs.length)),(18,.w (W fs.length)),(17,.w (.c (.jc (zWw fs)))),(3,.w (Pt 0))],[bx 5 (zf m),gb 3]):=by
 intro r;induction r with
 |nil =>
  intro i out hd hi hb;obtain rfl:=zUb hd hi;rw[zj zW9.eq_1];simp[zYx]
 |cons f r ih =>
  intro i out hd hi hb;obtain⟨hil,hf,hd'⟩:=zL hd;have hw:=zB (i:=i) (by omega);have hon:=z1M h f.s;have hb1:out.length<=100000000000:=by have:=z0W h hs hb;omega
  have hb2:VS m (if onF m f.s=true then zYr f.lane f.lo f.hi out else out):=by
   split
   ·exact z0X hb
   ·exact hb
  rw[zYx,<-ih (i+1) _ hd' hil hb2,zj zW9.eq_1];clear ih hb hb2;obtain⟨ln,lo,hi',v1,v2⟩:=f;by_cases c:onF m (Fnd.s ⟨ln,lo,hi',v1,v2⟩)=true
  ·have A8:=z1H ln lo hi' (z0L h c).1 (z0L h c).2 out hb1;rw[if_pos c];rw[c]at hon;simp only[zf,zWX,Fnd.s]at hon;simp[hil,hf,hw,zWN,zf,hon,A8,zg,zH]
  ·have c':onF m (Fnd.s ⟨ln,lo,hi',v1,v2⟩)=false:=by simpa using c
   rw[if_neg c];rw[c']at hon;simp only[zf,zWX,Fnd.s]at hon;simp[hil,hf,hw,zWN,zf,hon,zg,zH]
theorem zYY(s:Spn)(v:Nat)(b:zk):zx (R L Cs) ⟨true⟩ (.c (.fn zWL [] [.ptr 0 0 0 0])) [.a (zWX s)] [bxv v 6 (ze b)]=some (.w (Bo (decide (s.lane=b.lane)&&(decide (s.lo<=b.lo)&&decide (b.hi<=s.hi)))),[bxv v 6 (ze b)],.no):=by
 have h:∀v,R L Cs zWL [.a (zWX s),Pt 0] [bxv v 6 (ze b)]=some (.w (Bo (decide (s.lane=b.lane)&&(decide (s.lo<=b.lo)&&decide (b.hi<=s.hi)))),[bxv v 6 (ze b)]):=fun v=>by
  rw[zUa zYF rfl];by_cases c1:s.lane=b.lane
  ·have c1':(s.lane==b.lane)=true:=by simp[c1]
   by_cases c2:s.lo<=b.lo<;>by_cases c3:b.hi<=s.hi<;>simp[zW5,zWX,ze,c1,c1',c2,c3,zg,zH]
  ·have c1':(s.lane==b.lane)=false:=by simp[c1]
   simp[zW5,zWX,ze,c1,c1',zg,zH]
 simp only[zWX,ze]at h;simp[h,zWX,ze]
theorem zZT(l:List Spn)(hl:l.length<=100000000000)(v:Nat)(b:zk):R L Cs zXA [.c (.jc (zWx l)),.c (.fn zWL [] [.ptr 0 0 0 0])] [bxv v 6 (ze b)]=some (.w (Bo (zXy l b)),[bxv v 6 (ze b)]):=by
 have h:=zxf (L:=L) (Cs:=Cs) (b:=zWz) (live:=some [7,1,0,8]) (n0:=1) l (fun i=>[(7,.w (W l.length)),(1,.w (.c (.fn zWL [] [.ptr 0 0 0 0]))),(0,.w (.c (.jc (zWx l)))),(8,.w (W i))]) [bxv v 6 (ze b)] (fun s=>decide (s.lane=b.lane)&&(decide (s.lo<=b.lo)&&decide (b.hi<=s.hi))) (fun i=>(.ret,[(4,.w (W i))],[bxv v 6 (ze b)])) (.exit 0,[(9,.w (Bo false)),(0,.w (.c (.jc (zWx l)))),(1,.w (.c (.fn zWL [] [.ptr 0 0 0 0]))),(7,.w (W l.length)),(8,.w (W l.length))],[bxv v 6 (ze b)]) ?_ ?_ ?_
 ·have key:∃k:Int,R L Cs zXK [.c (.jc (zWx l)),.c (.fn zWL [] [.ptr 0 0 0 0])] [bxv v 6 (ze b)]=some (.w (W k),[bxv v 6 (ze b)])/\decide (0<=k)=zXy l b:=by
   unfold zXy;generalize (fun s:Spn=>decide (s.lane=b.lane)&&(decide (s.lo<=b.lo)&&decide (b.hi<=s.hi)))=f at *;cases hq:l.findIdx? f with
   |none =>
    rw[hq]at h;refine⟨-1,?_,?_⟩
    ·simp only[ji]at h;rw[zUa zXd rfl];simp[zWJ,h]
    ·rw[kp]at hq;have:l.any f=false:=by simpa using hq
     rw[this];decide
   |some k =>
    rw[hq]at h;refine⟨k,?_,?_⟩
    ·simp only[ji]at h;rw[zUa zXd rfl];simp[zWJ,h]
    ·obtain⟨h1,h2,_⟩:=jT.1 hq;have:l.any f=true:=kc.2 ⟨_,jb h1,h2⟩;rw[this];simp
  obtain⟨k,h1,h2⟩:=key;rw[zUa zXC rfl];simp only[ze]at h1;simp[zWP,h1,h2,ze]
 ·intro i hi hp;have hw:=zB (i:=i) (by omega);have hcc:=zYY l[i] v b;rw[hp]at hcc;simp only[zWX,ze]at hcc;rw[zj zWz.eq_1];simp[hi,hw,hcc,zWX,ze,-zx]
 ·intro i hi hp;have hcc:=zYY l[i] v b;rw[hp]at hcc;simp only[zWX,ze]at hcc;rw[zj zWz.eq_1];simp[hi,hcc,zWX,ze,-zx]
 ·rw[zj zWz.eq_1];simp
structure zZP where
 Bq:Int
 seen:List Spn
 pts:List Pnt
def zX6(x:zZP):List Cl:=[I x.Bq,.jc (zWx x.seen),.jc (zWs x.pts)]
abbrev zK:List Cl:=[I 0,.je,I 0,I 0,I 0,I 0]
abbrev upM(m:zD)(v:Nat)(k:zci)(l:List zk)(x:zZP):Mem:=[bx 5 (zf m),bxv v 6 (zG ⟨k.tick,l,k.ego⟩),bx 3 (zX6 x),bx 6 zK]
abbrev upE(free seen:List Spn)(fs:List Fnd)(i:Nat):Env:=[(43,.w (W i)),(42,.w (W free.length)),(7,.w (.c (.jc (zWw fs)))),(8,.w (.c (.jc (zWx seen)))),(6,.w (Pt 3)),(41,.w (.c (.jc (zWx free)))),(4,.w (Pt 1))]
theorem z0E{m:zD}(h:zcp m)(hs:zmX m)(k:zci)(x:zZP)(free seen:List Spn)(hf:VS m free)(fs:List Fnd):∀(r:List Spn) (i v:Nat) (l:List zk),free.drop i=r->i<=free.length->(∀b∈l,VB m b)->l.Pairwise Apt ->
  ∃v',Y L Cs zWY (some [43,42,7,8,6,41,4]) 4 (upE free seen fs i) (upM m v k l x)=some (.exit 0,(44,.w (Bo false))::upE free seen fs free.length,upM m v' k (yU r l) x):=by
 have hfl:=z0W h hs hf;intro r;induction r with
 |nil =>
  intro i v l hd hi hv ha;obtain rfl:=zUb hd hi;refine⟨v,?_⟩;rw[zj zWY.eq_1];simp[yU]
 |cons s r ih =>
  intro i v l hd hi hv ha;obtain⟨hil,hx,hd'⟩:=zL hd;have hw:=zB (i:=i) (by omega);obtain⟨v',h'⟩:=ih (i+1) (v+1) (zhn s.lane s.lo s.hi l) hd' hil (zxH l hv) (zEN _ _ _ l ha);refine⟨v',?_⟩;rw[yU,<-h'];clear ih h';have hm:Mid s.lo/\Mid s.hi:=by
   have:=hf.1 (zWu s) (List.mem_map_of_mem (by rw[<-hx];exact jb hil));have hl:=zcX h this.lane;have h1:=this.lo;have h2:=this.le;have h3:=this.hi;simp only[zWu]at h1 h2 h3 hl;exact⟨⟨by omega,by omega⟩,⟨by omega,by omega⟩⟩
  have hc:=zDp s.lane s.lo s.hi hm.1 hm.2 l (by have:=zYo h hs hv ha;omega);rw[zj zWY.eq_1];simp[upE,upM,zf,zX6,hil,hx,hw,zWX,zG,hc,zg,zH]
abbrev z0p(bl:List zk)(seen:List Spn)(fs:List Fnd)(i:Nat)(out:List zk):Env:=[(11,.w (.c (sl 4 6 (zI out)))),(56,.w (W i)),(55,.w (W bl.length)),(6,.w (Pt 3)),(4,.w (Pt 1)),(54,.w (.c (.jc (zI bl)))),(8,.w (.c (.jc (zWx seen)))),(7,.w (.c (.jc (zWw fs))))]
theorem z0D{m:zD}(k:zci)(v:Nat)(l:List zk)(x:zZP)(seen:List Spn)(hs:seen.length<=100000000000)(fs:List Fnd)(hfs:fs.length<=50000)(bl:List zk)(hb:∀b∈bl,b.vlo<=b.vhi)(hbl:bl.length<=200000000):∀(r:List zk) (i:Nat) (out:List zk),bl.drop i=r->i<=bl.length->out.length<=i ->
  Y L Cs zWI (some [11,56,55,6,4,54,8,7]) 5 (z0p bl seen fs i out) (upM m v k l x++[some (own 6 (zI out))]) =
    some (.exit 2,[(57,.w (Bo false)),(11,.w (.c (sl 4 6 (zI (out++r.flatMap (zX4 seen fs)))))),(56,.w (W bl.length)),(55,.w (W bl.length)),(6,.w (Pt 3)),(4,.w (Pt 1)),(54,.w (.c (.jc (zI bl)))),(8,.w (.c (.jc (zWx seen)))),(7,.w (.c (.jc (zWw fs))))],upM m v k l x++[some (own 6 (zI (out++r.flatMap (zX4 seen fs))))]):=by
 intro r;induction r with
 |nil =>
  intro i out hd hi ho;obtain rfl:=zUb hd hi;rw[zj zWI.eq_1];simp[z0p,upM,zf,zG,zX6]
 |cons b r ih =>
  intro i out hd hi ho;obtain⟨hil,hx,hd'⟩:=zL hd;have hw:=zB (i:=i) (by omega);have hC:=zZT seen hs 1 b;have hN:=z00 b (by rw[<-hx];exact hb _ (jb hil)) fs hfs;have jU:(out.length+1)*48<=140737488355328:=by omega
  have htk:List.take i out=List.take i out:=rfl;have eU:zX4 seen fs b=if zXy seen b=true then(if(nrB b (fs.filter (zXe b))).vlo<=(nrB b (fs.filter (zXe b))).vhi then [nrB b (fs.filter (zXe b))] else []) else [b]:=rfl
  rw[jW,eU];clear eU;by_cases c:zXy seen b=true
  ·rw[if_pos c];rw[c]at hC;generalize nrB b (fs.filter (zXe b))=q at *;by_cases d:q.vlo<=q.vhi
   ·rw[if_pos d,show out++([q]++List.flatMap (zX4 seen fs) r)=(out++[q])++List.flatMap (zX4 seen fs) r by simp,<-ih (i+1) (out++[q]) hd' hil (by simp;omega)];clear ih;simp only[ze,d,decide_true]at hC hN;rw[zj zWI.eq_1];simp (maxSteps:=1000000) [z0p,upM,zf,zG,zX6,hil,hx,hw,ze,hC,hN,jU,zg,zH]
   ·rw[if_neg d,jH,<-ih (i+1) out hd' hil (by omega)];clear ih;simp only[ze,d,decide_false]at hC hN;rw[zj zWI.eq_1];simp (maxSteps:=1000000) [z0p,upM,zf,zG,zX6,hil,hx,hw,ze,hC,hN,jU,zg,zH]
  ·have c':zXy seen b=false:=by simpa using c
   rw[if_neg c,show out++([b]++List.flatMap (zX4 seen fs) r)=(out++[b])++List.flatMap (zX4 seen fs) r by simp,<-ih (i+1) (out++[b]) hd' hil (by simp;omega)];clear ih;rw[c']at hC;simp only[ze]at hC;rw[zj zWI.eq_1];simp (maxSteps:=1000000) [z0p,upM,zf,zG,zX6,hil,hx,hw,ze,hC,jU,zg,zH]
theorem zYP{m:zD}(h:zcp m)(hs:zmX m)(seen:List Spn)(pts:List Pnt){l:List zk}(hv:∀b∈l,VB m b)(ha:l.Pairwise Apt):(zXm m seen pts l).length<=200000000:=by
 obtain⟨h1,h2⟩:=zZj (seen:=seen) (pts:=pts) hv ha;exact zYo h hs h1 h2
theorem Za{m:zD}(h:zcp m)(l:List Spn)(hl:l.length<=100000):∀(r:List Spn) (i:Nat) (out:List zk),l.drop i=r->i<=l.length->out.length<=i ->
  Y L Cs zWS (some [5,13,12,11,2]) 3 [(5,.w (.c (sl 2 6 (zI out)))),(13,.w (W i)),(12,.w (W l.length)),(11,.w (.c (.jc (zWx l)))),(2,.w (Pt 0))] [bx 5 (zf m),gb 3,some (own 6 (zI out))] =
    some (.exit 0,[(14,.w (Bo false)),(5,.w (.c (sl 2 6 (zI (out++(r.filter (onF m)).map zWu))))),(13,.w (W l.length)),(12,.w (W l.length)),(11,.w (.c (.jc (zWx l)))),(2,.w (Pt 0))],[bx 5 (zf m),gb 3,some (own 6 (zI (out++(r.filter (onF m)).map zWu)))]):=by
 intro r;induction r with
 |nil =>
  intro i out hd hi ho;obtain rfl:=zUb hd hi;rw[zj zWS.eq_1];simp
 |cons s r ih =>
  intro i out hd hi ho;obtain⟨hil,hs,hd'⟩:=zL hd;have hw:=zB (i:=i) (by omega);have hon:=z1M h s;have jU:(out.length+1)*48<=140737488355328:=by omega
  by_cases c:onF m s=true
  ·rw[List.filter_cons_of_pos c,ki,show out++zWu s::(r.filter (onF m)).map zWu=(out++[zWu s])++(r.filter (onF m)).map zWu by simp,<-ih (i+1) (out++[zWu s]) hd' hil (by simp;omega),zj zWS.eq_1];clear ih;rw[c]at hon;simp only[zf,zWX]at hon;simp[hil,hs,hw,zWX,ze,zWu,zf,hon,jU,zg,zH]
  ·rw[List.filter_cons_of_neg c,<-ih (i+1) out hd' hil (by omega),zj zWS.eq_1];clear ih;have c':onF m s=false:=by simpa using c
   rw[c']at hon;simp only[zf,zWX]at hon;simp[hil,hs,hw,zWX,zf,hon,zg,zH]
theorem z99{m:zD}(bs:List zk)(l:List zk)(hl:l.length<=100000):∀(r:List zk) (i:Nat) (out:List Spn),l.drop i=r->i<=l.length->out.length=i ->
  Y L Cs zW4 (some [8,34,33,32]) 4 [(8,.w (.c (sl 3 3 (zWx out)))),(34,.w (W i)),(33,.w (W l.length)),(32,.w (.c (.jc (zI l))))] [bx 5 (zf m),gb 3,fzB bs,some (own 3 (zWx out))] =
    some (.exit 2,[(35,.w (Bo false)),(8,.w (.c (sl 3 3 (zWx (out++r.map zXs))))),(34,.w (W l.length)),(33,.w (W l.length)),(32,.w (.c (.jc (zI l))))],[bx 5 (zf m),gb 3,fzB bs,some (own 3 (zWx (out++r.map zXs)))]):=by
 intro r;induction r with
 |nil =>
  intro i out hd hi ho;obtain rfl:=zUb hd hi;rw[zj zW4.eq_1];simp
 |cons b r ih =>
  intro i out hd hi ho;subst ho;obtain⟨hil,hb,hd'⟩:=zL hd;have hw:=zB (i:=out.length) (by omega);have jU:(out.length+1)*24<=140737488355328:=by omega
  rw[ki,show out++zXs b::r.map zXs=(out++[zXs b])++r.map zXs by simp,<-ih (out.length+1) (out++[zXs b]) hd' hil (by simp),zj zW4.eq_1];clear ih;simp[hil,hb,hw,zWX,ze,zXs,zf,jU,zg,zH]
theorem ZD{m:zD}(h:zcp m)(l:List Spn)(hl:l.length<=5000):R L Cs zY4 [.a (zf m),.c (.jc (zWx l))] []=some (.w (.c (.jc (zWx (zXa m l)))),[]):=by
 have h1:=Za h l (by omega) l 0 [] rfl (jE _) (jE _);have hfl:(l.filter (onF m)).length<=l.length:=qj _ _;have h2:=zD8 ((l.filter (onF m)).map zWu) (by simp;omega) (by
  intro x hx;obtain⟨s,hs,rfl⟩:=jZ.1 hx;exact z1E h (kF.1 hs).2)
 have hjl:=zkq ((l.filter (onF m)).map zWu);rw[qE]at hjl;have h3:=z99 (m:=m) ((l.filter (onF m)).map zWu) (zcz ((l.filter (onF m)).map zWu)) (by omega) _ 0 [] rfl (jE _) rfl;have htk:List.take (l.filter (onF m)).length ((l.filter (onF m)).map zWu)=(l.filter (onF m)).map zWu:=jF (by simp);unfold zXa;generalize zcz ((l.filter (onF m)).map zWu)=q at *;have hbl:((l.filter (onF m)).map zWu).length=(l.filter (onF m)).length:=qE _;generalize (l.filter (onF m)).map zWu=bs at *;generalize (l.filter (onF m)).length=n at *;subst hbl;simp only[zf,ji,jH,zic,zZb,sl,own,jB,zgg,zXJ,qE,uT,fzB]at h1 h2 h3 ⊢;rw[zUa zY7 rfl];have htk2:List.take q.length (zWx (q.map zXs))=zWx (q.map zXs):=jF (by simp);simp[zXG,h1,h2,h3,zg,zX,htk2]
theorem Za5{m:zD}(h:zcp m)(hs:zmX m)(l:List Spn)(hl:l.length<=5000)(fs:List Fnd)(hfs:fs.length<=100000):R L Cs zZp [.a (zf m),.c (.jc (zWx l)),.c (.jc (zWw fs))] []=some (.w (.c (.jc (zWx (zXD m l fs)))),[]):=by
 have h1:=ZD h l hl;have h2:=zZ4 h hs fs hfs fs 0 (zXa m l) rfl (jE _) (zZE h l);have hck:=h.chk;unfold zXD;simp only[zf,ji]at h1 h2 hck ⊢;rw[zUa zZy rfl];simp[zXY,h1,h2,hck,zg]
theorem Zal{m:zD}(h:zcp m)(hs:zmX m)(h1:zXl m)(k:zci)(hk:zdf m k=0)(x:zZP)(hst:x.Bq=k.tick)(hse:x.seen.length<=5000)(hp:x.pts.length<=1000) :
  R L Cs zYW [.a (zf m),.a (zG k),.a (zX6 x)] []=some (.w (.a (zG ⟨k.tick,zXm m x.seen x.pts k.jJ,k.ego⟩)),[]):=by
 obtain⟨st,se,pts⟩:=x;simp only at hst hse hp ⊢;subst hst;have hv:=zxJ h hk;have ha:=zFn h hk;have hl:=zYo h hs hv ha;have g1:=z1I k (by omega);have g2:=zuu h k (by omega);rw[hk]at g2;have qL:=hs.few;have g3:=z1x h h1 pts (by omega) (by omega);have hfl:=zZ5 h1 (pts.filter zXq) m.jf 0 rfl;have hcl:=qj zXq pts;have hfl2:(zWG m pts).length<=4000:=by
  unfold zWG;refine kd hfl (kd (Nat.mul_le_mul qL (kd hcl hp)) (by decide))
 have g4:=Za5 h hs se hse (zWG m pts) (by omega);have g5:=ZD h se hse;have hwl:=zZW m se;have hfV:VS m (zXD m se (zWG m pts)):=z0i h (zWG m pts) _ _ (zZE h se);obtain⟨v',g6⟩:=z0E h hs k ⟨k.tick,se,pts⟩ _ (zXa m se) hfV (zWG m pts) (zXD m se (zWG m pts)) 0 1 k.jJ rfl (jE _) hv ha;obtain⟨c1,c2⟩:=zZs (zXD m se (zWG m pts)) k.jJ hv ha;have hcl:=zYo h hs c1 c2;have g7:=z0D (m:=m) k v' (yU (zXD m se (zWG m pts)) k.jJ) ⟨k.tick,se,pts⟩ (zXa m se) (by omega) (zWG m pts) (by omega) (yU (zXD m se (zWG m pts)) k.jJ) (fun b hb=>(c1 b hb).vle) hcl _ 0 [] rfl (jE _) (jk _);have hul:=zYP h hs se pts hv ha;have hul':zXm m se pts k.jJ=(yU (zXD m se (zWG m pts)) k.jJ).flatMap (zX4 (zXa m se) (zWG m pts)):=rfl;simp only[jH,uT]at g6 g7;rw[<-hul']at g7;generalize zXm m se pts k.jJ=U at *;clear hul' hfl hfV hv ha c1 c2;generalize yU (zXD m se (zWG m pts)) k.jJ=C at *;generalize zXD m se (zWG m pts)=F at *;generalize zXa m se=S at *;generalize zWG m pts=D at *;simp only[zf,zG,zX6]at g1 g2 g3 g4 g5;simp only[upE,z0p,upM,zf,zG,zX6,sl,own,zic,zgg,jB,ji,kf,jH]at g6 g7;rw[zUa zY0 rfl];simp (maxSteps:=1000000) [zXB,zf,zG,zX6,g1,g2,g3,g4,g5,g6,g7,zg,zH,zX]
structure Pss where
 vH:Int
 part:Int
 lo:Int
 hi:Int
 deriving DecidableEq
def zKF(p:Pss):List Cl:=[I p.vH,I p.part,I p.lo,I p.hi]
def zKd(l:List Pss):List (List Cl):=l.map zKF
@[simp] theorem zLE(l:List Pss):(zKd l).length=l.length:=by simp[zKd]
@[simp] theorem zNO:zKd []=[]:=rfl
@[simp] theorem zPO(x:Pss)(l:List Pss):zKd (x::l)=zKF x::zKd l:=rfl
@[simp] theorem zMu(l k:List Pss):zKd (l++k)=zKd l++zKd k:=by simp[zKd]
@[simp] theorem zPM(l:List Pss):(zKd l).take l.length=zKd l:=jF (by simp)
@[simp] theorem zOV{l:List Pss}{i:Nat}(h:i<(zKd l).length):(zKd l)[i]=zKF (l[i]'(by simpa using h)):=by simp[zKd]
@[simp] theorem zNu(p:Pss):(zKF p).length=4:=rfl
@[simp] theorem zPN(l:List Pss):(∀x,x∈zKd l->x.length=4)<->True:=by simp[zKd]
def zI2(a b:Pss):Prop:=a.lo<b.lo\/(a.lo=b.lo/\a.vH<b.vH)
instance(a b:Pss):Decidable (zI2 a b):=by unfold zI2;infer_instance
def zN1(l:List Pss):Prop:=∀(i:Nat) (h:i+1<l.length),¬zI2 l[i+1] l[i]
def zLB(st:Int)(z:Nat)(x:Int):Nat->List Prt->List Pss
 |_,[]=>[]
 |k,p::r=>if p.lane=x then⟨z,k,st+p.lo,st+p.hi⟩::zLB st z x (k+1) r else zLB st z x (k+1) r
def zLA(st x:Int):Nat->List Zon->List Pss
 |_,[]=>[]
 |z,q::r=>zLB st z x 0 q.parts++zLA st x (z+1) r
def zKh(m:zD)(zs:List Zon):Int->List Int->List Pss
 |_,[]=>[]
 |a,x::r=>zLA a x 0 zs++zKh m zs (a+z8 m x) r
theorem zLR(st:Int)(z:Nat)(x:Int):∀(l:List Prt) (k:Nat),(zLB st z x k l).length<=l.length
 |[],k=>by simp[zLB]
 |p::l,k=>by
  have:=zLR st z x l (k+1);unfold zLB;split<;>simp<;>omega
structure zOj(p:Prt):Prop where
 lo:0<=p.lo/\p.lo<=1000000
 hi:0<=p.hi/\p.hi<=1000000
theorem zNv(st x:Int):∀(l:List Zon) (z:Nat),(∀q∈l,q.parts.length<=6)->(zLA st x z l).length<=6*l.length
 |[],z,_=>by simp[zLA]
 |q::l,z,h=>by
  have h1:=zNv st x l (z+1) fun y hy=>h y (jp _ hy)
  have h2:=zLR st z x q.parts 0;have h3:=h q (jr ..);unfold zLA;simp;omega
theorem zO7{m:zD}{zs:List Zon}{ss:List Sgn}(hf:zmq m zs ss):∀q∈zs,∀p∈q.parts,zOj p:=by
 intro q hq p hp;obtain⟨a0,a1,a2,a3,_⟩:=hf.pv q hq p hp;have:=zcX hf.vG a0;exact⟨by omega,by omega⟩
abbrev zQ0(m:zD)(o:List Pss):Mem:=[bx 5 (zf m),gb 4,some (own 4 (zKd o))]
abbrev rpS(o:List Pss):WV:=.c (.slice 2 o.length 4 0 o.length none)
abbrev zRQ(m:zD)(l:List Int)(i z k:Nat)(o:List Pss):Env:=[(5,.w (rpS o)),(9,.w (W k)),(2,.w (Pt 0)),(1,.w (.c (.jc (zu l)))),(8,.w (W z)),(6,.w (.c (.jc (zu (zW m 0 l))))),(7,.w (W i))]
theorem zRO{m:zD}(l:List Int)(i:Nat)(hil:i<l.length)(st:Int)(his:i<(zW m 0 l).length)(hst:(zW m 0 l)[i]=st)(hsb:0<=st/\st<=100000000)(x:Int)(hx:l[i]=x)(zs:List Zon)(hzz:m.k9=zk8 zs)(z:Nat)(hz:z<zs.length)(q:Zon)(hzq:zs[z]=q)(hq:q.parts.length<=6)(hpo:∀p∈q.parts,zOj p):∀(t:List Prt) (k:Nat) (o:List Pss),q.parts.drop k=t->k<=q.parts.length->o.length<=1000+k ->
  Y L Cs zJv (some [5,9,2,1,8,6,7]) 3 (zRQ m l i z k o) (zQ0 m o) =
    some (.exit 4,(37,.w (Bo false))::zRQ m l i z q.parts.length (o++zLB st z x k t),zQ0 m (o++zLB st z x k t)):=by
 intro t;induction t with
 |nil =>
  intro k o hd hk ho;obtain rfl:=zUb hd hk;have e0:(zk8 zs)[z]'(by simpa using hz)=zdP q:=by simp[hzq]
  rw[zj zJv.eq_1];simp[zLB,zf,hzz,hz,hzq,zdP]
 |cons p t ih =>
  intro k o hd hk ho;obtain⟨hkl,hp,hd'⟩:=zL hd;have hw:=zB (i:=k) (by omega);have hok:=hpo p (by rw[<-hp];exact jb hkl);have w1:IntKind.i64.wrap (st+p.lo)=st+p.lo:=zTd _ (by have:=hok.lo;omega) (by have:=hok.lo;omega);have w2:IntKind.i64.wrap (st+p.hi)=st+p.hi:=zTd _ (by have:=hok.hi;omega) (by have:=hok.hi;omega);have jU:(o.length+1)*32<=140737488355328:=by omega
  unfold zLB;by_cases c:p.lane=x
  ·have cb:(p.lane==x)=true:=by simp[c]
   rw[if_pos c];have h:=ih (k+1) (o++[⟨z,k,st+p.lo,st+p.hi⟩]) hd' hkl (by simp;omega);have e1:o++⟨z,k,st+p.lo,st+p.hi⟩::zLB st z x (k+1) t=(o++[⟨z,k,st+p.lo,st+p.hi⟩])++zLB st z x (k+1) t:=by simp
   rw[e1,<-h,zj zJv.eq_1];clear h ih e1;simp[zRQ,rpS,zQ0,own,zdP,zeB,zKF,hzz,hz,hzq,hil,hx,hkl,hp,hw,his,hst,w1,w2,c,cb,jU,zg,zf,zH]
  ·have cb:(p.lane==x)=false:=by simp[c]
   rw[if_neg c];have h:=ih (k+1) o hd' hkl (by omega);rw[<-h,zj zJv.eq_1];clear h ih;simp[zRQ,rpS,zQ0,own,zdP,zeB,zKF,hzz,hz,hzq,hil,hx,hkl,hp,hw,c,cb,zg,zf,zH]
abbrev zRX(m:zD)(l:List Int)(i z:Nat)(o:List Pss):Env:=[(5,.w (rpS o)),(2,.w (Pt 0)),(1,.w (.c (.jc (zu l)))),(8,.w (W z)),(6,.w (.c (.jc (zu (zW m 0 l))))),(7,.w (W i))]
theorem zRN{m:zD}(l:List Int)(i:Nat)(hil:i<l.length)(st:Int)(his:i<(zW m 0 l).length)(hst:(zW m 0 l)[i]=st)(hsb:0<=st/\st<=100000000)(x:Int)(hx:l[i]=x)(zs:List Zon)(hzz:m.k9=zk8 zs)(hz:zs.length<=12)(hq:∀q∈zs,q.parts.length<=6)(hpo:∀q∈zs,∀p∈q.parts,zOj p):∀(t:List Zon) (z:Nat) (o:List Pss),zs.drop z=t->z<=zs.length->o.length<=900+6*z ->
  Y L Cs zJu (some [5,2,1,8,6,7]) 3 (zRX m l i z o) (zQ0 m o)=some (.exit 2,(26,.w (Bo false))::zRX m l i zs.length (o++zLA st x z t),zQ0 m (o++zLA st x z t)):=by
 intro t;induction t with
 |nil =>
  intro z o hd hk ho;obtain rfl:=zUb hd hk;rw[zj zJu.eq_1];simp[zLA,zf,hzz]
 |cons q t ih =>
  intro z o hd hk ho;obtain⟨hkl,hp,hd'⟩:=zL hd;have hw:=zB (i:=z) (by omega);have hqm:q∈zs:=by rw[<-hp];exact jb hkl
  have hp6:=hq q hqm;have hpl:=zLR st z x q.parts 0;have h1:=zRO l i hil st his hst hsb x hx zs hzz z hkl q hp hp6 (hpo q hqm) q.parts 0 o rfl (jE _) (by omega);have h:=ih (z+1) (o++zLB st z x 0 q.parts) hd' hkl (by simp;omega);unfold zLA;rw[<-jA,<-h,zj zJu.eq_1];clear h ih;generalize zLB st z x 0 q.parts=pp at *;simp only[zRQ,rpS,zQ0,own,zf,hzz,ji,zLE,zMu,jt]at h1;simp[zRX,rpS,zQ0,own,hkl,hp,hw,h1,zg,zf,hzz,zH]
abbrev zRW(m:zD)(l:List Int)(i:Nat)(o:List Pss):Env:=[(5,.w (rpS o)),(2,.w (Pt 0)),(1,.w (.c (.jc (zu l)))),(6,.w (.c (.jc (zu (zW m 0 l))))),(7,.w (W i))]
theorem zRM{m:zD}(h:zcp m)(l:List Int)(hl:l.length<=8)(hon:zj2 m l)(zs:List Zon)(hzz:m.k9=zk8 zs)(hz:zs.length<=12)(hq:∀q∈zs,q.parts.length<=6)(hpo:∀q∈zs,∀p∈q.parts,zOj p):∀(t:List Int) (i:Nat) (a:Int) (o:List Pss),l.drop i=t->i<=l.length->(zW m 0 l).drop i=zW m a t->0<=a->a<=i*1000000->o.length<=100*i ->
  Y L Cs zJt (some [5,2,1,6,7]) 3 (zRW m l i o) (zQ0 m o)=some (.exit 0,(19,.w (Bo false))::zRW m l l.length (o++zKh m zs a t),zQ0 m (o++zKh m zs a t)):=by
 intro t;induction t with
 |nil =>
  intro i a o hd hk hs h0 h1 ho;obtain rfl:=zUb hd hk;have e:(zW m 0 l).length=l.length:=zcO ..;rw[zj zJt.eq_1];simp[zKh,e]
 |cons x t ih =>
  intro i a o hd hk hs h0 h1 ho;obtain⟨hkl,hp,hd'⟩:=zL hd;have hw:=zB (i:=i) (by omega);have hx:=hon x (by rw[<-hp];exact jb hkl);have hle:=zcX h hx;have e:(zW m 0 l).length=l.length:=zcO ..;have hsl:i<(zW m 0 l).length:=by rw[zcO];exact hkl
  have hsd:=kg hsl;rw[hs,zW]at hsd;simp only[List.cons.injEq]at hsd;have hzl:=zNv a x zs 0 hq;have g:=zRN l i hkl a hsl hsd.1.symm ⟨h0,by omega⟩ x hp zs hzz hz hq hpo zs 0 o rfl (jE _) (by omega);have hh:=ih (i+1) (a+z8 m x) (o++zLA a x 0 zs) hd' hkl hsd.2.symm (by omega) (by omega) (by simp;omega);unfold zKh;rw[<-jA,<-hh,zj zJt.eq_1];clear hh ih;generalize zLA a x 0 zs=pp at *;simp only[zRX,rpS,zQ0,own,zf,hzz,ji,zLE,zMu,jt]at g;simp[zRW,rpS,zQ0,own,hkl,hp,hw,g,zg,zf,hzz,zH,e]
theorem zRP(m:zD)(o:List Pss)(hs:zN1 o)(hl:o.length<=19)(i:Nat)(hi:i<o.length):Y L Cs zJs (some [12,11,5]) 3 [(12,.w (W i)),(11,.w (W i)),(5,.w (rpS o))] (zQ0 m o) =
  some (.exit 8,[(126,.w (Bo false)),(12,.w (W i)),(11,.w (W i)),(5,.w (rpS o))],zQ0 m o):=by
 cases i with
 |zero =>
  rw[zj zJs.eq_1];simp[zf]
 |succ j =>
  have h2:j<o.length:=by omega
  have hn:=hs j hi;have hw:IntKind.i64.wrap ((j:Int)+1-1)=(j:Int):=by rw[zTd _ (by omega) (by omega)];omega
  have hg:(0:Int)<(j:Int)+1:=by omega
  have hwj:IntKind.i64.wrap (j:Int)=(j:Int):=zTd _ (by omega) (by omega);have a1:(0:Int)<=(j:Int)+1:=by omega
  have a2:(j:Int)+1<(o.length:Int):=by omega
  have a3:((j:Int)+1).toNat=j+1:=by omega
  have a4:(j:Int)<(o.length:Int):=by omega
  generalize hu:o[j+1]=u at *;generalize hv:o[j]=v at *;unfold zI2 at hn;have n1:¬u.lo<v.lo:=by omega
  rw[zj zJs.eq_1];by_cases c:u.lo=v.lo
  ·have cb:(u.lo==v.lo)=true:=by simp[c]
   have n2:¬u.vH<v.vH:=by omega
   have n3:¬v.lo<v.lo:=by omega
   simp[zQ0,rpS,own,zf,hg,hw,hwj,hi,h2,a1,a2,a3,a4,hu,hv,zKF,n1,n2,n3,c]
  ·have cb:(u.lo==v.lo)=false:=by simp[c]
   simp[zQ0,rpS,own,zf,hg,hw,hwj,hi,h2,a1,a2,a3,a4,hu,hv,zKF,n1,c,cb]
theorem zRL(m:zD)(o:List Pss)(hs:zN1 o)(hl:o.length<=19):∀(n i:Nat),i+n=o.length\/(n=0/\o.length<=i)->∃i',Y L Cs zJr (some [11,5]) 3 [(11,.w (W i)),(5,.w (rpS o))] (zQ0 m o)=some (.exit 6,[(79,.w (Bo false)),(11,.w (W i')),(5,.w (rpS o))],zQ0 m o):=by
 intro n;induction n with
 |zero =>
  intro i hi;have hc:¬(i:Int)<o.length:=by omega
  have hc':¬i<o.length:=by omega
  refine⟨i,?_⟩;rw[zj zJr.eq_1];simp[rpS,hc,hc']
 |succ n ih =>
  intro i hi;have hil:i<o.length:=by omega
  have hc:(i:Int)<o.length:=by omega
  have hw:=zB (i:=i) (by omega);have hin:=zRP m o hs hl i hil;obtain⟨i',h⟩:=ih (i+1) (by omega);refine⟨i',?_⟩;rw[<-h,zj zJr.eq_1];simp only[zQ0,rpS,zf,own,zLE]at hin;simp[rpS,zQ0,zf,own,hc,hil,hw,hin]
theorem zRG{m:zD}(h:zcp m){l:List Int}(hr:zdA m l=0):R L Cs zQ4 [.a (zf m),.c (.jc (zu l))] []=some (.w (.c (.jc (zu (zW m 0 l)))),[]):=by
 obtain⟨hon,hne,hl8⟩:=zg1 h hr;have h1:=zp0 m h.small h.yQ l (by omega);have h2:=zvX h (l:=l) (by omega) hon;rw[hr]at h1;simp only[zf]at h1 h2;rw[zUa zQ6 rfl];simp[zJM,zf,h1,h2,zg,zX]
theorem zRH{m:zD}{zs:List Zon}{ss:List Sgn}(hf:zmq m zs ss){l:List Int}(hr:zdA m l=0)(hs:zN1 (zKh m zs 0 l))(hn:(zKh m zs 0 l).length<=19) :
  R L Cs zQ5 [.a (zf m),.c (.jc (zu l))] []=some (.w (.c (.jc (zKd (zKh m zs 0 l)))),[]):=by
 have h:=hf.vG;obtain⟨hon,hne,hl8⟩:=zg1 h hr;have hS:=zRG h hr;have g:=zRM h l hl8 hon zs hf.zd.z hf.zd.few hf.zd.pfew (zO7 hf) l 0 0 [] rfl (jE _) rfl (jQ _) (by omega) (by simp);rw[jH]at g;obtain⟨i',g2⟩:=zRL m (zKh m zs 0 l) hs hn ((zKh m zs 0 l).length-1) 1 (by omega);generalize zKh m zs 0 l=o at *;have hw:IntKind.i64.wrap 1=1:=rfl;simp only[zRW,rpS,zQ0,own,zf,zLE,zNO,jB,ji,kO]at g g2 hS;rw[zUa zQ7 rfl];simp[zJN,zf,hS,g,g2,zg,zX]
set_option maxRecDepth 100000
open Go Go.Eng
theorem zOu{m:zD}{zs:List Zon}{ss:List Sgn}(hf:zmq m zs ss)(hz:zs.length<=2)(hn:∀q∈zs,q.parts.length<=4){l:List Int}(hr:zdA m l=0):(zKh m zs 0 l).length<=16:=by
 have hl:=zlP hf.BC hr;have key:∀(t:List Zon) (a x:Int) (z:Nat),(∀q∈t,q.parts.length<=4)->(zLA a x z t).length<=4*t.length:=by
  intro t;induction t with
  |nil=>intro a x z _;simp[zLA]
  |cons q t ih =>
   intro a x z h;have h1:=ih a x (z+1) fun y hy=>h y (jp _ hy)
   have h2:=zLR a z x q.parts 0;have h3:=h q (jr ..);unfold zLA;simp;omega
 have k2:∀(t:List Int) (a:Int),(zKh m zs a t).length<=8*t.length:=by
  intro t;induction t with
  |nil=>intro a;simp[zKh]
  |cons x t ih =>
   intro a;have h1:=ih (a+z8 m x);have h2:=key zs a x 0 hn;unfold zKh;simp;omega
 have:=k2 l 0;omega
def zOT:List Pss->Bool
 |a::b::r=>!decide (zI2 b a)&&zOT (b::r)
 |_=>true
theorem zMq:∀{l:List Pss},zOT l=true->zN1 l
 |[],_=>fun i h=>by simp at h
 |[_],_=>fun i h=>by simp at h
 |a::b::r,h=>by
  simp only[zOT,jg,kU,decide_eq_false_iff_not]at h;intro i hi;cases i with
  |zero=>exact h.1
  |succ i=>exact zMq h.2 i (by simpa using hi)
def zTx(m:zD)(C:List Int->Bool):Bool:=(List.range 4).all fun x=>C [(x:Int)]&&(zS m x).all fun y=>C [(x:Int),y]
theorem zQa(k:Nat)(hk:k<7)(lim r o1 o2 o3 v:Int)(ws:List zCP):zTx (zq k lim r o1 o2 o3 v ws) (fun l=>zOT (zKh (zq k lim r o1 o2 o3 v ws) (zsP k r) 0 l))=true:=match k,hk with
 |0,_=>by kernel_rfl
 |1,_=>by kernel_rfl
 |2,_=>by kernel_rfl
 |3,_=>by kernel_rfl
 |4,_=>by kernel_rfl
 |5,_=>by kernel_rfl
 |6,_=>by kernel_rfl
theorem zTp{m:zD}(hs:zmX m){C:List Int->Bool}(qx:zTx m C=true){l:List Int}(hr:zdA m l=0):C l=true:=by
 have hl:=zlP hs hr;have few:=hs.few;have qx:=jx.1 qx
 match l,hl,hr with
 |[],_,hr=>cases hr
 |[x],_,hr =>
  simp only[zdA]at hr;split at hr
  ·cases hr
  split at hr
  ·cases hr
  split at hr
  ·cases hr
  rename_i h2 h3;obtain⟨n,rfl⟩:=jC (show 0<=x by omega);have:=qx n (kL.2 (by omega));rw[jg]at this;exact this.1
 |[x,y],_,hr =>
  simp only[zdA]at hr;split at hr
  ·cases hr
  split at hr
  ·cases hr
  split at hr
  ·cases hr
  rename_i h2 h3;split at hr
  ·cases hr
  split at hr
  ·rename_i hg;obtain⟨n,rfl⟩:=jC (show 0<=x by omega);have:=qx n (kL.2 (by omega));rw[jg]at this;simp only[goF,jg,decide_eq_true_eq]at hg;exact jx.1 this.2 y hg.1
  ·cases hr
theorem zOQ(k:Nat)(hk:k<7)(r:Int):(zsP k r).length<=2/\∀q∈zsP k r,q.parts.length<=4:=by
 match k,hk with
 |0,_ |1,_ |2,_ |3,_ |4,_ |5,_ |6,_=>simp[zsP]
set_option maxRecDepth 10000
open Go Go.Eng
def zV2(m:zD)(r:List Int)(tick:Int)(e:Ego)(a:Int):Prop:=1099511627776<=tick\/1099511627776<(zaN m r e a).shi
instance(m:zD)(r:List Int)(tick:Int)(e:Ego)(a:Int):Decidable (zV2 m r tick e a):=by unfold zV2;infer_instance
end Go.TrRun
/- Plain laws of cars, ramps, stops and profiles: no program in sight. -/
namespace Go.PlanLaw
structure Car where
 len:Int
 yY:Int
 qR:Int
 AW:Int
 delay:Int
def Car.ok(c:Car):Prop:=300<=c.len/\c.len<=20000/\1<=c.yY/\c.yY<=30/\20<=c.qR/\c.qR<=90/\5<=c.AW/\c.AW<=120/\0<=c.delay/\c.delay<=5
instance(c:Car):Decidable c.ok:=by unfold Car.ok;infer_instance
def zVH(c:Car)(x:Int):Int:=max (-c.qR) (min x c.yY)
def zFX(c:Car)(last w:Int):Int:=max (zVH c last-c.AW) (min (zVH c w) (zVH c last+c.AW))
def doV(v x:Int):Int:=min (max (v+max (-2000) (min x 2000)) 0) 2000
theorem zG1(v x:Int):0<=doV v x/\doV v x<=2000:=by unfold doV;omega
theorem zG2{c:Car}(h:c.ok)(x:Int):-c.qR<=zVH c x/\zVH c x<=c.yY:=by
 obtain⟨h1,h2,h3,h4,h5,h6,h7,h8,h9,h10⟩:=h;unfold zVH;omega
theorem zG3{c:Car}(h:c.ok){x:Int}(h1:-c.qR<=x)(h2:x<=c.yY):zVH c x=x:=by unfold zVH;omega
def zGI(c:Car):Nat->Bool->Int->Int->Option (List Int)
 |0,_,_,_=>none
 |m+1,f,last,v=>if f=true\/0<v\/0<last then(zGI c m false (zFX c last (-c.qR)) (doV v (zFX c last (-c.qR)))).map (zFX c last (-c.qR) :: ·) else some []
theorem zF7(c:Car)(m:Nat)(f:Bool)(last v:Int):zGI c (m+1) f last v=if(f=true\/0<v\/0<last) then(zGI c m false (zFX c last (-c.qR)) (doV v (zFX c last (-c.qR)))).map (zFX c last (-c.qR) :: ·) else some []:=rfl
theorem zG8(v x:Int)(hv:0<=v/\v<=2000)(hx:-100<=x/\x<=100):doV v x=max 0 (min 2000 (v+x)):=by unfold doV;omega
theorem zGx{c:Car}(h:c.ok)(last:Int):zFX c last (-c.qR)=max (zVH c last-c.AW) (-c.qR):=by
 obtain⟨h1,h2,h3,h4,h5,h6,h7,h8,h9,h10⟩:=h;unfold zFX zVH;omega
theorem zGM{c:Car}{last:Int}(h:c.ok)(h1:-c.qR<=last)(h2:last<=c.yY):zFX c last (-c.qR)=max (last-c.AW) (-c.qR):=by
 rw[zGx h last,zG3 h h1 h2]
theorem ends2{c:Car}(h:c.ok):∀(m:Nat) (last v:Int),-c.qR<=last->last<=-20->0<=v->v<=2000->v<=20*m->∃l,zGI c (m+1) false last v=some l/\l.length<=m
 |0,last,v,h1,h2,h3,h4,h5=>⟨[],by
   rw[zF7,if_neg (by simp;omega)],by simp⟩
 |m+1,last,v,h1,h2,h3,h4,h5=>by
  have hcar:=h;obtain⟨q1,q2,q3,q4,q5,q6,q7,q8,q9,q10⟩:=hcar;rw[zF7];split
  ·have hr:=zGM h h1 (by omega:last<=c.yY);have hd:=zG8 v (zFX c last (-c.qR)) ⟨h3,h4⟩ (by omega);obtain⟨l,hl,hn⟩:=ends2 h m (zFX c last (-c.qR)) (doV v (zFX c last (-c.qR))) (by omega) (by omega) (by omega) (by omega) (by omega);exact⟨_::l,by rw[hl];rfl,by simp;omega⟩
  ·exact⟨[],rfl,by simp⟩
theorem ends1{c:Car}(h:c.ok):∀(t:Nat) (last v:Int),-c.qR<=last->last<=c.yY->last<=5*t-20->0<=v->v<=2000->∃l,zGI c (101+t) false last v=some l/\l.length<=100+t
 |0,last,v,h1,h2,h3,h4,h5=>ends2 h 100 last v h1 (by omega) h4 h5 (by omega)
 |t+1,last,v,h1,h2,h3,h4,h5=>by
  have hcar:=h;obtain⟨q1,q2,q3,q4,q5,q6,q7,q8,q9,q10⟩:=hcar;rw[show 101+(t+1)=(101+t)+1 by omega,zF7];split
  ·have hr:=zGM h h1 h2;have hd:=zG1 v (zFX c last (-c.qR));obtain⟨l,hl,hn⟩:=ends1 h t (zFX c last (-c.qR)) (doV v (zFX c last (-c.qR))) (by omega) (by omega) (by omega) hd.1 hd.2;exact⟨_::l,by rw[hl];rfl,by simp;omega⟩
  ·exact⟨[],rfl,by simp⟩
theorem ends{c:Car}(h:c.ok)(last v:Int)(h4:0<=v)(h5:v<=2000):∃l,zGI c 111 true last v=some l/\0<l.length/\l.length<=110:=by
 have hcar:=h;obtain⟨q1,q2,q3,q4,q5,q6,q7,q8,q9,q10⟩:=hcar;have hr:=zGx h last;have hcl:=zG2 h last;have hd:=zG1 v (zFX c last (-c.qR));obtain⟨l,hl,hn⟩:=ends1 h 9 (zFX c last (-c.qR)) (doV v (zFX c last (-c.qR))) (by omega) (by omega) (by omega) hd.1 hd.2;refine⟨_::l,by rw[show 111=(101+9)+1 from rfl,zF7,if_pos (.inl rfl),hl];rfl,by simp,by simp;omega⟩
def chain(c:Car):Int->List Int->Prop
 |_,[]=>True
 |a,x::xs=>(-c.qR<=x/\x<=c.yY)/\(-c.AW<=x-a/\x-a<=c.AW)/\chain c x xs
def zG0:Int->List Int->Int
 |a,[]=>a
 |_,x::xs=>zG0 x xs
def zHd:Int->List Int->Int
 |v,[]=>v
 |v,x::xs=>zHd (doV v x) xs
structure Drv where
 last:Int
 v:Int
 l:List Int
def Drv.from(c:Car)(a:Int)(s:Drv):Prop:=chain c a s.l/\s.last=zG0 a s.l/\0<=s.v/\s.v<=2000
end Go.PlanLaw
namespace Go.TrRun.Pl
open Go Go.Eng Go.PlanLaw
def Drv.run(s:Drv)(l:List Int):Drv:=⟨zG0 s.last l,zHd s.v l,s.l++l⟩
end Go.TrRun.Pl
namespace Go.TrRun
open Go Go.Eng
theorem zRq(n:Nat)(p:Nat->Bool)(h:(List.range n).findIdx? p=none):(List.range n).any p=false:=by
 rw[kp]at h;simpa using h
theorem zRn(n:Nat)(p:Nat->Bool){i:Nat}(h:(List.range n).findIdx? p=some i):(List.range n).any p=true:=by
 obtain⟨h1,h2,_⟩:=jT.1 h;exact kc.2 ⟨_,jb h1,h2⟩
theorem zR0{m:zD}(h:zcp m)(x:Int):R L Cs zD9 [.a (zf m),W x] []=some (.w (Bo (decide (0<=x)&&decide (x<m.jf.length))),[]):=by
 have hk:=h.yQ;rw[zUa zEa rfl];simp only[zf]at hk;by_cases c1:0<=x
 ·by_cases c2:x<m.jf.length
  ·simp[zDW,zf,hk,c1,c2]
  ·simp[zDW,zf,hk,c1,c2]
 ·simp[zDW,zf,hk,c1]
theorem zRT{m:zD}{zs:List Zon}{ss:List Sgn}(hf:zmq m zs ss)(j:Nat)(hj:j<ss.length)(x:Int)(hx:0<=x/\x<m.jf.length)(tick:Int)(ht:0<=tick) :
  R L Cs zRa [.a (zf m),W j,W x,W tick] []=some (.w (Bo (zfA ss[j] x tick)),[]):=by
 have h1:=zR0 hf.vG x;have h2:=zrO ss[j] x tick (hf.zd.ph _ (jb hj));have hs:=hf.zd.s;have hji:(j:Int)<ss.length:=by omega
 simp only[zf,hx.1,hx.2,decide_true,Bool.and_self]at h1;simp only[zeq]at h2;rw[hs]at h1;rw[zUa zRd rfl];simp[zJV,zf,zeq,hs,h1,h2,hj,hji,ht]
@[simp] theorem zHc(k:zci):(zG k).length=6:=rfl
structure AgV where
 jy:List Int
 s:Int
 v:Int
 len:Int
 start:Int
 obey:Bool
 gone:Bool
def agC(a:AgV):List Cl:=[.jc (zu a.jy),I a.s,I a.v,I a.len,I a.start,.bool a.obey,.bool a.gone]
structure z2T where
 uR:Int
 vH:Int
 since:Int
 v6:Int
def z29(x:z2T):List Cl:=[I x.uR,I x.vH,I x.since,I x.v6]
structure SnV where
 tick:Int
 agents:List AgV
 ins:List z2T
def z5(l:List AgV):List (List Cl):=l.map agC
def z2H(l:List z2T):List (List Cl):=l.map z29
@[simp] theorem z7m(l:List AgV):(z5 l).length=l.length:=by simp[z5]
@[simp] theorem z6C{l:List AgV}{i:Nat}(h:i<(z5 l).length):(z5 l)[i]=agC (l[i]'(by simpa using h)):=by simp[z5]
@[simp] theorem z7w(a:AgV):(agC a).length=7:=rfl
@[simp] theorem z7l(l:List z2T):(z2H l).length=l.length:=by simp[z2H]
@[simp] theorem z6B{l:List z2T}{i:Nat}(h:i<(z2H l).length):(z2H l)[i]=z29 (l[i]'(by simpa using h)):=by simp[z2H]
@[simp] theorem z5R(a:z2T):(z29 a).length=4:=rfl
def snC(s:SnV):List Cl:=[I s.tick,.jc (z5 s.agents),.jc (z2H s.ins)]
def laF(st:List Int)(s:Int):Nat->Nat
 |0=>0
 |k+1=>if st.getD k 0<=s then k else laF st s k
theorem z6R(st:List Int)(s:Int):∀k,laF st s (k+1)<=k
 |0=>by simp[laF]
 |k+1=>by
  have:=z6R st s k;unfold laF;split<;>omega
structure KAg(m:zD)(a:AgV):Prop where
 jy:zdA m a.jy=0
 len:300<=a.len/\a.len<=20000
 start:0<=a.start/\a.start<=1099511627776
 s:0<=a.s/\a.s<=zmd m 0 a.jy
 late:0<a.start->a.s=0
 here:a.gone=false
def z4R(m:zD)(a:AgV):Nat:=laF (zW m 0 a.jy) a.s a.jy.length
def z42(m:zD)(a:AgV):Int:=a.jy.getD (z4R m a) 0
theorem KAg.on{m:zD}(h:zcp m){a:AgV}(ha:KAg m a):zj2 m a.jy/\a.jy≠[]/\a.jy.length<=8:=zg1 h ha.jy
theorem KAg.Cd{m:zD}(h:zcp m){a:AgV}(ha:KAg m a):z4R m a<a.jy.length:=by
 obtain⟨_,h2,_⟩:=ha.on h;have h0:0<a.jy.length:=ke.2 h2;unfold z4R;obtain⟨k,hk⟩:∃k,a.jy.length=k+1:=⟨a.jy.length-1,by omega⟩;rw[hk];have:=z6R (zW m 0 a.jy) a.s k;omega
theorem KAg.on_ok{m:zD}(h:zcp m){a:AgV}(ha:KAg m a):0<=z42 m a/\z42 m a<m.jf.length:=by
 have hl:=ha.Cd h;have e:z42 m a=a.jy[z4R m a]:=by simp[z42,jo,hl]
 rw[e];exact(ha.on h).1 _ (jb hl)
theorem KAg.yp{m:zD}(h:zcp m){a:AgV}(ha:KAg m a):0<=zmd m 0 a.jy/\zmd m 0 a.jy<=8000000:=by
 obtain⟨h1,_,h3⟩:=ha.on h;have:=zEC h a.jy 0 h1 (by omega);omega
theorem KAg.st_bd{m:zD}(h:zcp m){a:AgV}(ha:KAg m a){i:Nat}(hi:i<a.jy.length):0<=zb4 m a.jy i/\zb4 m a.jy i<=8000000:=by
 obtain⟨h1,_,h3⟩:=ha.on h;exact zmA (bar:=0) ⟨h,h3,h1,by omega⟩ hi
theorem z58(m:zD)(a:AgV)(st:List Int)(hl:st.length<=100):∀(f i:Nat),i+f=st.length ->
  Y L Cs z23 (some [7,8,6,3]) 2 [(7,.w (W (laF st a.s i))),(8,.w (W i)),(6,.w (.c (.jc (zu st)))),(3,.w (Pt 1))] [bx 5 (zf m),bx 7 (agC a)] =
    some (.exit 0,[(16,.w (Bo false)),(7,.w (W (laF st a.s st.length))),(8,.w (W st.length)),(6,.w (.c (.jc (zu st)))),(3,.w (Pt 1))],[bx 5 (zf m),bx 7 (agC a)]):=by
 intro f;induction f with
 |zero =>
  intro i hi;obtain rfl:i=st.length:=by omega
  rw[zj z23.eq_1];simp
 |succ f ih =>
  intro i hi;have hil:i<st.length:=by omega
  have hw:=zB (i:=i) (by omega);rw[<-ih (i+1) (by omega),zj z23.eq_1];clear ih;rw[laF];by_cases c:st[i]<=a.s
  ·have c':st.getD i 0<=a.s:=by simpa [hil]using c
   rw[if_pos c'];simp[agC,zf,hil,hw,c]
  ·have c':¬st.getD i 0<=a.s:=by simpa [hil]using c
   rw[if_neg c'];simp[agC,zf,hil,hw,c]
theorem z6w{m:zD}(h:zcp m){a:AgV}(ha:KAg m a):R L Cs z4n [.a (zf m),.a (agC a)] []=some (.t [W (z42 m a),W (a.s-zb4 m a.jy (z4R m a))],[]):=by
 obtain⟨_,_,h3⟩:=ha.on h;have hs:=ha.st_bd h (ha.Cd h);have hS:=zRG h ha.jy;have hl:=z58 m a (zW m 0 a.jy) (by rw[zcO];omega) a.jy.length 0 (by rw[zcO];omega);have h1:=ha.s;have h2:=ha.yp h;have w1:=kQ (a.s-zb4 m a.jy (z4R m a));have hat:=ha.Cd h;unfold z42;rw[zcO]at hl;have e1:laF (zW m 0 a.jy) a.s a.jy.length=z4R m a:=rfl;rw[e1,show laF (zW m 0 a.jy) a.s 0=0 from rfl]at hl;generalize z4R m a=k at *;have hk:k<(zW m 0 a.jy).length:=by rw[zcO];exact hat
 have e2:(zW m 0 a.jy)[k]=zb4 m a.jy k:=by simp[zb4,hk]
 simp only[zf,agC,ji]at hS hl;rw[zUa z4s rfl];simp[z3r,zf,agC,hS,hl,hk,hat,e2,w1,zg]
theorem z7e{m:zD}(h:zcp m){a:AgV}(ha:KAg m a):R L Cs z4o [.a (zf m),.a (agC a)] []=some (.w (Bo false),[]):=by
 have hS:=zEp h ha.jy;have h1:=ha.s;have h2:=ha.yp h;have h3:=ha.len;have w1:=kQ (a.s-a.len);have hc:¬zmd m 0 a.jy<a.s-a.len:=by omega
 simp only[zf]at hS;rw[zUa z4t rfl];simp[z3s,zf,agC,hS,w1,hc,zg]
theorem z6s{m:zD}(h:zcp m){a:AgV}(ha:KAg m a):R L Cs z4m [.a (agC a)] []=some (.w (Bo true),[]):=by
 have h1:=ha.s;have h2:=ha.yp h;have h3:=ha.len;have c1:a.s<=1099511627776:=by omega
 have c2:0<=a.len:=by omega
 have c3:a.len<=1099511627776:=by omega
 rw[zUa z4r rfl];simp[z3q,agC,h1.1,c1,c2,c3,zg]
theorem z56(s:SnV)(i:Nat)(hi:i<s.agents.length)(hg:s.agents[i].gone=false):R L Cs z3I [.a (snC s),W i] []=some (.w (Bo (decide (s.agents[i].start<=s.tick))),[]):=by
 rw[zUa z4i rfl];by_cases c:s.agents[i].start<=s.tick
 ·simp[z3b,snC,agC,hi,c,hg,zg]
 ·simp[z3b,snC,agC,hi,c,hg,zg]
def z3z(m:zD)(a:AgV):Int:=if 0<=a.v/\a.v<=zeR (zaK m (z42 m a)) then 0 else 2
theorem z50{m:zD}{a:AgV}(h:¬z3z m a=0):z3z m a=2:=by unfold z3z at *;split at h<;>simp_all
theorem z5b{m:zD}{x:Int}(h:0<=x/\x<m.jf.length):∃j:Nat,∃hj:j<m.jf.length,x=(j:Int)/\zaK m x=m.jf[j].kind:=by
 obtain⟨j,rfl⟩:=jC h.1;have hj:j<m.jf.length:=by omega
 exact⟨j,hj,rfl,by simp[zaK,hj]⟩
theorem z5q{m:zD}(h:zcp m)(s:SnV)(ht:0<=s.tick)(i:Nat)(hi:i<s.agents.length)(ha:KAg m s.agents[i])(h0:i=0->s.agents[i].start=0) :
  R L Cs z3u [.a (zf m),.a (snC s),W i] []=some (.w (W (z3z m s.agents[i])),[]):=by
 have hR:=zp0 m h.small h.yQ s.agents[i].jy (by have:=(ha.on h).2.2;omega);rw[ha.jy]at hR;have hE:=zEp h ha.jy;have hL:=z6w h ha;have hG:=z7e h ha;have AC:=ha.yp h;obtain⟨h1,h2,h3,h4,h5,h6⟩:=ha;have hon:=KAg.on_ok h ⟨h1,h2,h3,h4,h5,h6⟩;have hk:=zu9 h hon;have hB:=zhv hk;obtain⟨j,hj,ej,ek⟩:=z5b hon;unfold z3z;generalize s.agents[i].s-zb4 m s.agents[i].jy (z4R m s.agents[i])=off at *;generalize z42 m s.agents[i]=x at *;generalize hag:s.agents[i]=a at *;subst ej;have hnum:(decide (a.len<300)=false)/\decide (20000<a.len)=false/\decide (a.start<0)=false/\decide (1099511627776<a.start)=false/\decide (a.s<0)=false/\decide (zmd m 0 a.jy+a.len+2000<a.s)=false:=by
  refine⟨?_,?_,?_,?_,?_,?_⟩<;>simp<;>omega
 obtain⟨n1,n2,n3,n4,n5,n6⟩:=hnum;have w1:=kQ (zmd m 0 a.jy+a.len);have w2:=kQ (zmd m 0 a.jy+a.len+2000);have hlate:(decide (s.tick<a.start) && !(a.s==0))=false:=by
  by_cases c:s.tick<a.start
  ·have:=h5 (by omega);simp[this]
  ·simp[c]
 have hzero:((i:Int)==0 && !(a.start==0))=false:=by
  by_cases c:i=0
  ·simp[h0 c]
  ·simp[c]
 have hob:(decide (s.tick<a.start) && !(a.s==0)||(i:Int)==0 && !(a.start==0))=false:=by rw[hlate,hzero];rfl
 have m1:¬a.len<300:=by omega
 have m2:¬20000<a.len:=by omega
 have m3:¬a.start<0:=by omega
 have m4:¬1099511627776<a.start:=by omega
 have m5:¬a.s<0:=by omega
 have m6:¬zmd m 0 a.jy+a.len+2000<a.s:=by omega
 rw[ek]at hB ⊢;simp only[zf,agC,h6]at hR hE hL hG hB;rw[zUa z3W rfl];by_cases c1:a.v<0
 ·have c1':¬(0<=a.v/\a.v<=zeR m.jf[j].kind):=by omega
  rw[if_neg c1'];simp[z2w,zf,snC,hi,hag,agC,zo,hj,hR,hE,hL,hG,hB,h6,w1,w2,m1,m2,m3,m4,m5,m6,c1,zg,zH]
 ·by_cases c2:zeR m.jf[j].kind<a.v
  ·have c1':¬(0<=a.v/\a.v<=zeR m.jf[j].kind):=by omega
   rw[if_neg c1'];simp[z2w,zf,snC,hi,hag,agC,zo,hj,hR,hE,hL,hG,hB,h6,w1,w2,m1,m2,m3,m4,m5,m6,c1,c2,zg,zH]
  ·have c1':(0<=a.v/\a.v<=zeR m.jf[j].kind):=by omega
   rw[if_pos c1'];by_cases d1:s.tick<a.start
   ·have d2:a.s=0:=h5 (by omega);have d3:i≠0:=by intro e;have:=h0 e;omega
    have d3':((i:Int)==0)=false:=by simp[d3]
    have d2b:(a.s !=0)=false:=by simp[d2]
    simp[z2w,zf,snC,hi,hag,agC,zo,hj,hR,hE,hL,hG,hB,h6,w1,w2,m1,m2,m3,m4,m5,m6,c1,c2,d1,d2b,d3',zg,zH]
   ·by_cases d3:i=0
    ·have d4:=h0 d3;have d3b:((i:Int)==0)=true:=by simp[d3]
     have d4b:(a.start !=0)=false:=by simp[d4]
     simp[z2w,zf,snC,hi,hag,agC,zo,hj,hR,hE,hL,hG,hB,h6,w1,w2,m1,m2,m3,m4,m5,m6,c1,c2,d1,d3b,d4b,zg,zH]
    ·have d3':((i:Int)==0)=false:=by simp[d3]
     simp[z2w,zf,snC,hi,hag,agC,zo,hj,hR,hE,hL,hG,hB,h6,w1,w2,m1,m2,m3,m4,m5,m6,c1,c2,d1,d3,d3',zg,zH]
abbrev z3A:z2T:=⟨0,0,0,0⟩
def z7a(x y:z2T):Bool:=decide (x.uR<y.uR)||decide (x.uR=y.uR)&&decide (x.vH<=y.vH)
def z5F(nA nZ:Nat)(l:List z2T)(i:Nat):Bool :=
 decide ((l.getD i z3A).uR<0)||decide ((nA:Int)<=(l.getD i z3A).uR)||decide ((l.getD i z3A).vH<0)||decide ((nZ:Int)<=(l.getD i z3A).vH)||(match i with |0=>false |k+1=>z7a (l.getD (k+1) z3A) (l.getD k z3A))
def zIY(tick:Int)(x:z2T):Bool:=decide (x.since<0)||decide (tick<x.since)||decide (x.v6<0)||decide (100<x.v6)
structure KSn(m:zD)(s:SnV):Prop where
 tick:0<=s.tick/\s.tick<=1099511627776
 ags:∀a∈s.agents,KAg m a
 few:s.agents.length<=8
 some:0<s.agents.length
 first:(s.agents[0]'some).start=0
 ins:s.ins.length<=1000
def z31(m:zD)(s:SnV):Int :=
 if s.agents.any (fun a=>decide (z3z m a≠0)) then 2 else
 if(List.range s.ins.length).any (z5F s.agents.length m.k9.length s.ins) then 11 else
 if s.ins.any (zIY s.tick) then 2 else 0
theorem z5V(m:zD)(s:SnV)(hn:s.ins.length<=1000)(i:Nat)(hi:i<s.ins.length) :
  Y L Cs z2F (some [7,2,3]) 2 [(7,.w (W i)),(2,.w (Pt 0)),(3,.w (Pt 1))] [bx 5 (zf m),bx 3 (snC s)] =
    if z5F s.agents.length m.k9.length s.ins i then some (.ret,[(4,.w (W 11))],[bx 5 (zf m),bx 3 (snC s),bxv 1 4 (z29 s.ins[i])])
    else Y L Cs z2F (some [7,2,3]) 2 [(7,.w (W (i+1:Nat))),(2,.w (Pt 0)),(3,.w (Pt 1))] [bx 5 (zf m),bx 3 (snC s)]:=by
 have hw:=zB (i:=i) (by omega);rw[zj z2F.eq_1];unfold z5F;rw[show s.ins.getD i z3A=s.ins[i] by simp[hi]];by_cases c1:s.ins[i].uR<0
 ·simp[snC,z29,zf,hi,c1,zg,zH]
 by_cases c2:(s.agents.length:Int)<=s.ins[i].uR
 ·simp[snC,z29,zf,hi,c1,c2,zg,zH]
 by_cases c3:s.ins[i].vH<0
 ·simp[snC,z29,zf,hi,c1,c2,c3,zg,zH]
 by_cases c4:(m.k9.length:Int)<=s.ins[i].vH
 ·simp[snC,z29,zf,hi,c1,c2,c3,c4,zg,zH]
 cases i with
 |zero =>
  have w1:IntKind.i64.wrap 1=1:=rfl;simp[snC,z29,zf,hi,w1,c1,c2,c3,c4,zg,zH]
 |succ k =>
  have hk:k<s.ins.length:=by omega
  have wk:=kQ (k:Int);simp only[show s.ins.getD (k+1) z3A=s.ins[k+1] by simp[hi],show s.ins.getD k z3A=s.ins[k] by simp[hk]];unfold z7a;have qf:(0:Int)<(k:Int)+1:=by omega
  have a0:IntKind.i64.wrap ((k:Int)+1-1)=(k:Int):=by rw[zTd _ (by omega) (by omega)];omega
  have a1:(0:Int)<=(k:Int)+1:=by omega
  have a2:(k:Int)+1<(s.ins.length:Int):=by omega
  have a3:((k:Int)+1).toNat=k+1:=by omega
  have a4:(k:Int)<(s.ins.length:Int):=by omega
  have hw2:=kQ ((k:Int)+1+1);generalize hy:s.ins[k]=y at *;generalize hx:s.ins[k+1]=x at *;by_cases c5:x.uR<y.uR
  ·simp[snC,z29,zf,hi,hx,hy,a0,a1,a2,a3,a4,hk,wk,qf,c1,c2,c3,c4,c5,zg,zH]
  by_cases c6:x.uR=y.uR
  ·have c6':(x.uR==y.uR)=true:=by simp[c6]
   have c6d:decide (x.uR=y.uR)=true:=by simp[c6]
   by_cases c7:x.vH<=y.vH
   ·simp[snC,z29,zf,hi,hx,hy,a0,a1,a2,a3,a4,hk,wk,qf,c1,c2,c3,c4,c5,c6',c6d,c7,zg,zH]
   ·simp[snC,z29,zf,hi,hx,hy,a0,a1,a2,a3,a4,hk,hw2,wk,qf,c1,c2,c3,c4,c5,c6',c6d,c7,zg,zH]
  ·have c6':(x.uR==y.uR)=false:=by simp[c6]
   simp[snC,z29,zf,hi,hx,hy,a0,a1,a2,a3,a4,hk,hw2,wk,qf,c1,c2,c3,c4,c5,c6',c6,zg,zH]
theorem z6G{m:zD}(h:zcp m)(s:SnV)(hs:KSn m s):Y L Cs z2G (some [2,3,6]) 2 [(2,.w (Pt 0)),(3,.w (Pt 1)),(6,.w (W 0))] [bx 5 (zf m),bx 3 (snC s)] =
  some (if s.agents.any (fun a=>decide (z3z m a≠0)) then(.ret,[(4,.w (W 2))],[bx 5 (zf m),bx 3 (snC s)]) else(.exit 0,[(36,.w (Bo false)),(3,.w (Pt 1)),(2,.w (Pt 0)),(6,.w (W s.agents.length))],[bx 5 (zf m),bx 3 (snC s)])):=by
 have qL:=hs.few;have hC:∀(i:Nat) (hi:i<s.agents.length),R L Cs z3u [.a (zf m),.a (snC s),W i] []=some (.w (W (z3z m s.agents[i])),[]):=fun i hi=>z5q h s hs.tick.1 i hi (hs.ags _ (jb hi)) (by rintro rfl;exact hs.first)
 have:=zpE (L:=L) (Cs:=Cs) (b:=z2G) (live:=some [2,3,6]) (n0:=2) s.agents (fun i=>[(2,.w (Pt 0)),(3,.w (Pt 1)),(6,.w (W i))]) [bx 5 (zf m),bx 3 (snC s)] (fun a=>decide (z3z m a≠0)) (.ret,[(4,.w (W 2))],[bx 5 (zf m),bx 3 (snC s)]) (.exit 0,[(36,.w (Bo false)),(3,.w (Pt 1)),(2,.w (Pt 0)),(6,.w (W s.agents.length))],[bx 5 (zf m),bx 3 (snC s)])
  (fun i hi hb=>by
   have hw:=zB (i:=i) (by omega);have hc:=hC i hi;have e0:z3z m s.agents[i]=0:=by simpa using hb
   rw[e0]at hc;simp only[zf,snC]at hc;rw[zj z2G.eq_1];simp[zf,snC,hi,hw,hc])
  (fun i hi hb=>by
   have hc:=hC i hi;have e0:z3z m s.agents[i]=2:=z50 (by simpa using hb);rw[e0]at hc;simp only[zf,snC]at hc;rw[zj z2G.eq_1];simp[zf,snC,hi,hc])
  (by rw[zj z2G.eq_1];simp[snC,zf])
 simpa using this
theorem z5f{m:zD}(h:zcp m)(s:SnV)(hs:KSn m s):R L Cs z3m [.a (zf m),.a (snC s)] []=some (.w (W (z31 m s)),[]):=by
 have hk:=h.yQ;have ht:=hs.tick;have qL:=hs.few;have qT:=hs.some;have AB:=hs.ins;have h1:=z6G h s hs;have h2:=zxf (L:=L) (Cs:=Cs) (b:=z2F) (live:=some [7,2,3]) (n0:=2) (List.range s.ins.length) (fun i=>[(7,.w (W i)),(2,.w (Pt 0)),(3,.w (Pt 1))]) [bx 5 (zf m),bx 3 (snC s)] (z5F s.agents.length m.k9.length s.ins) (fun i=>(.ret,[(4,.w (W 11))],[bx 5 (zf m),bx 3 (snC s),bxv 1 4 (z29 (s.ins.getD i z3A))])) (.exit 2,[(50,.w (Bo false)),(7,.w (W s.ins.length)),(2,.w (Pt 0)),(3,.w (Pt 1))],[bx 5 (zf m),bx 3 (snC s)])
  (fun i hi hb=>by
   rw[vY]at hi;rw[List.getElem_range]at hb;rw[z5V m s AB i hi,hb];simp)
  (fun i hi hb=>by
   rw[vY]at hi;rw[List.getElem_range]at hb;rw[z5V m s AB i hi,hb];simp[hi])
  (by rw[zj z2F.eq_1];simp[snC,zf])
 have h3:=zxf (L:=L) (Cs:=Cs) (b:=z2R) (live:=some [3,9]) (n0:=2) s.ins (fun i=>[(3,.w (Pt 1)),(9,.w (W i))]) [bx 5 (zf m),bx 3 (snC s)] (zIY s.tick) (fun i=>(.ret,[(4,.w (W 2))],[bx 5 (zf m),bx 3 (snC s),bxv 1 4 (z29 (s.ins.getD i z3A))])) (.exit 4,[(124,.w (Bo false)),(3,.w (Pt 1)),(9,.w (W s.ins.length))],[bx 5 (zf m),bx 3 (snC s)])
  (fun i hi hb=>by
   have hw:=zB (i:=i) (by omega);unfold zIY at hb;simp only[uk,decide_eq_false_iff_not]at hb;rw[zj z2R.eq_1];simp[zf,snC,z29,hi,hw,hb,zg,zH])
  (fun i hi hb=>by
   rw[zj z2R.eq_1];rw[show s.ins.getD i z3A=s.ins[i] by simp[hi]];unfold zIY at hb;by_cases c1:s.ins[i].since<0
   ·simp[zf,snC,z29,hi,c1,zg,zH]
   by_cases c2:s.tick<s.ins[i].since
   ·simp[zf,snC,z29,hi,c1,c2,zg,zH]
   by_cases c3:s.ins[i].v6<0
   ·simp[zf,snC,z29,hi,c1,c2,c3,zg,zH]
   by_cases c4:100<s.ins[i].v6
   ·simp[zf,snC,z29,hi,c1,c2,c3,c4,zg,zH]
   ·simp[c1,c2,c3,c4]at hb)
  (by rw[zj z2R.eq_1];simp[snC,zf])
 have t1:¬s.tick<0:=by omega
 have t2:¬1099511627776<s.tick:=by omega
 have t3:((s.agents.length:Int)==0)=false:=beq_false_of_ne (by omega);have t3':s.agents≠[]:=by intro e;simp[e]at qT
 have t4:¬8<s.agents.length:=by omega
 have t4':¬(8:Int)<s.agents.length:=by omega
 unfold z31;simp only[zf,snC,ji]at hk h1 h2 h3;rw[zUa z3L rfl];by_cases c1:s.agents.any (fun a=>decide (z3z m a≠0))
 ·rw[if_pos c1]at h1 ⊢;simp[z2I,zf,snC,hk,t1,t2,t3,t3',t4,t4',h1,zg]
 ·rw[if_neg c1]at h1 ⊢;cases e2:(List.range s.ins.length).findIdx? (z5F s.agents.length m.k9.length s.ins)with
  |some i =>
   rw[zRn _ _ e2];rw[e2]at h2;simp[z2I,zf,snC,hk,t1,t2,t3,t3',t4,t4',h1,h2,zg]
  |none =>
   rw[zRq _ _ e2];rw[e2]at h2;cases e3:s.ins.findIdx? (zIY s.tick)with
   |some i =>
    rw[e3]at h3;obtain⟨g1,g2,_⟩:=jT.1 e3;have:s.ins.any (zIY s.tick)=true:=kc.2 ⟨_,jb g1,g2⟩;rw[this];simp[z2I,zf,snC,hk,t1,t2,t3,t3',t4,t4',h1,h2,h3,zg]
   |none =>
    rw[e3]at h3;rw[kp]at e3;have:s.ins.any (zIY s.tick)=false:=by simpa using e3
    rw[this];simp[z2I,zf,snC,hk,t1,t2,t3,t3',t4,t4',h1,h2,h3,zg]
theorem z5c(l:List zk)(hl:l.length<=100000000000)(fnv:Cl)(f:zk->Bool)(M:Mem)(hc:∀p∈l,zx (R L Cs) ⟨true⟩ (.c fnv) [.a (ze p)] M=some (.w (Bo (f p)),M,.no)) :
  ∃k:Int,R L Cs zjK [.c (.jc (zI l)),.c fnv] M=some (.w (W k),M)/\(decide (0<=k)=l.any f):=by
 have htk:∀p:zk,List.take (ze p).length (ze p)=ze p:=fun p=>yf
 have h:=zxf (L:=L) (Cs:=Cs) (b:=zbF) (live:=some [7,1,0,8]) (n0:=M.length) l (fun i=>[(7,.w (W l.length)),(1,.w (.c fnv)),(0,.w (.c (.jc (zI l)))),(8,.w (W i))]) M f (fun i=>(.ret,[(4,.w (W i))],M)) (.exit 0,[(9,.w (Bo false)),(0,.w (.c (.jc (zI l)))),(1,.w (.c fnv)),(7,.w (W l.length)),(8,.w (W l.length))],M) ?_ ?_ ?_
 ·cases hq:l.findIdx? f with
  |none =>
   rw[hq]at h;refine⟨-1,?_,?_⟩
   ·simp only[ji]at h;rw[zUa zj5 rfl];simp[zc2,h]
   ·rw[kp]at hq;have:l.any f=false:=by simpa using hq
    rw[this];decide
  |some k =>
   rw[hq]at h;refine⟨k,?_,?_⟩
   ·simp only[ji]at h;rw[zUa zj5 rfl];simp[zc2,h]
   ·obtain⟨h1,h2,_⟩:=jT.1 hq;have:l.any f=true:=kc.2 ⟨_,jb h1,h2⟩;rw[this];simp
 ·intro i hi hp;have hw:=zB (i:=i) (by omega);have hcc:=hc l[i] (jb hi);have ht:=htk l[i];simp only[zDd]at ht;rw[hp]at hcc;rw[zj zbF.eq_1];simp[hi,hw,hcc,ht,-zx]
 ·intro i hi hp;have hcc:=hc l[i] (jb hi);have ht:=htk l[i];simp only[zDd]at ht;rw[hp]at hcc;rw[zj zbF.eq_1];simp[hi,hcc,ht,-zx]
 ·rw[zj zbF.eq_1];simp
theorem ZaX(l:List Fnd)(hl:l.length<=100000000000)(fnv:Cl)(f:Fnd->Bool)(M:Mem)(hc:∀p∈l,zx (R L Cs) ⟨true⟩ (.c fnv) [.a (zWN p)] M=some (.w (Bo (f p)),M,.no)) :
  ∃k:Int,R L Cs z8y [.c (.jc (zWw l)),.c fnv] M=some (.w (W k),M)/\(decide (0<=k)=l.any f):=by
 have htk:∀p:Fnd,List.take (zWN p).length (zWN p)=zWN p:=fun p=>yf
 have h:=zxf (L:=L) (Cs:=Cs) (b:=z7Q) (live:=some [7,1,0,8]) (n0:=M.length) l (fun i=>[(7,.w (W l.length)),(1,.w (.c fnv)),(0,.w (.c (.jc (zWw l)))),(8,.w (W i))]) M f (fun i=>(.ret,[(4,.w (W i))],M)) (.exit 0,[(9,.w (Bo false)),(0,.w (.c (.jc (zWw l)))),(1,.w (.c fnv)),(7,.w (W l.length)),(8,.w (W l.length))],M) ?_ ?_ ?_
 ·cases hq:l.findIdx? f with
  |none =>
   rw[hq]at h;refine⟨-1,?_,?_⟩
   ·simp only[ji]at h;rw[zUa z8m rfl];simp[z7X,h]
   ·rw[kp]at hq;have:l.any f=false:=by simpa using hq
    rw[this];decide
  |some k =>
   rw[hq]at h;refine⟨k,?_,?_⟩
   ·simp only[ji]at h;rw[zUa z8m rfl];simp[z7X,h]
   ·obtain⟨h1,h2,_⟩:=jT.1 hq;have:l.any f=true:=kc.2 ⟨_,jb h1,h2⟩;rw[this];simp
 ·intro i hi hp;have hw:=zB (i:=i) (by omega);have hcc:=hc l[i] (jb hi);have ht:=htk l[i];simp only[z1L]at ht;rw[hp]at hcc;rw[zj z7Q.eq_1];simp[hi,hw,hcc,ht,-zx]
 ·intro i hi hp;have hcc:=hc l[i] (jb hi);have ht:=htk l[i];simp only[z1L]at ht;rw[hp]at hcc;rw[zj z7Q.eq_1];simp[hi,hcc,ht,-zx]
 ·rw[zj z7Q.eq_1];simp
def htF(b:zk)(f:Fnd):Bool:=decide (f.lo<=b.hi)&&decide (b.lo<=f.hi)
theorem Zbc(f:Fnd)(b:zk):R L Cs z8c [.a (zWN f),.c (.ptr 0 0 0 0)] [bx 6 (ze b)]=some (.w (Bo (htF b f)),[bx 6 (ze b)]):=by
 rw[zUa z83 rfl];unfold htF;by_cases c1:f.lo<=b.hi<;>by_cases c2:b.lo<=f.hi<;>simp[z8d,zWN,ze,c1,c2,zg,zH]
theorem Za6(b:zk)(l:List Fnd)(hl:l.length<=100000000000):R L Cs z8t [.c (.jc (zWw l)),.c (.fn z8c [] [.ptr 0 0 0 0])] [bx 6 (ze b)]=some (.w (Bo (l.any (htF b))),[bx 6 (ze b)]):=by
 obtain⟨k,h1,h2⟩:=ZaX l hl (.fn z8c [] [.ptr 0 0 0 0]) (htF b) [bx 6 (ze b)] (fun f _=>by
  have h:=Zbc f b;simp only[ze,zWN]at h;simp[h,ze,zWN])
 rw[zUa z8u rfl];simp only[ze]at h1;simp[z71,h1,h2,ze]
def exB(m:zD)(p:Pnt)(b:zk):Bool:=if h:0<=b.lane/\b.lane.toNat<m.jf.length then(zXt b.lane (m.jf[b.lane.toNat]'h.2) p).any (htF b) else false
theorem Zy{m:zD}(h1:zXl m){l:zfn}(hl:l∈m.jf)(x:Int)(p:Pnt):(zXt x l p).length<=1:=by
 have:=(zYS h1 hl p).1;simpa [zXt]using this
theorem Zbj{m:zD}(h:zcp m)(h1:zXl m)(v:Nat)(p:Pnt)(hp:zXq p=true)(b:zk):R L Cs z8j [.a (ze b),.c (.ptr 0 0 0 0),.c (.ptr 1 0 0 0)] [bx 5 (zf m),bxv v 3 (zYi p)]=some (.w (Bo (exB m p b)),[bx 5 (zf m),bxv v 3 (zYi p)]):=by
 rw[zUa z9i rfl];unfold exB;by_cases c1:0<=b.lane
 ·obtain⟨j,hj⟩:=jC c1;by_cases c2:j<m.jf.length
  ·have hF:=z1F h h1 c2 p hp;have hC:=Za6 b (zXt j m.jf[j] p) (by have:=Zy h1 (jb c2) j p;omega);have c3:(j:Int)<m.jf.length:=by omega
   obtain⟨lane,lo,hi,vlo,vhi,hold⟩:=b;simp only at hj;subst hj;have hc:0<=(j:Int)/\(j:Int).toNat<m.jf.length:=⟨c1,by simpa using c2⟩;rw[dif_pos hc];simp only[uX];generalize zXt j m.jf[j] p=fs at *;simp only[zf,zYi,ze]at hF hC;simp[z70,zf,zYi,ze,c3,hF,hC,zg,zH]
  ·have c3:¬b.lane<m.jf.length:=by omega
   rw[dif_neg (by rw[hj];simpa using c2)];simp[z70,zf,zYi,ze,c1,c3,zg,zH]
 ·rw[dif_neg (fun h=>c1 h.1)];simp[z70,zf,zYi,ze,c1,zg,zH]
theorem Zbe{m:zD}(h:zcp m)(h1:zXl m)(v:Nat)(p:Pnt)(hp:zXq p=true)(l:List zk)(hl:l.length<=100000000000):R L Cs z3f [.c (.jc (zI l)),.c (.fn z8j [] [.ptr 0 0 0 0,.ptr 1 0 0 0])] [bx 5 (zf m),bxv v 3 (zYi p)]=some (.w (Bo (l.any (exB m p))),[bx 5 (zf m),bxv v 3 (zYi p)]):=by
 obtain⟨k,e1,e2⟩:=z5c l hl (.fn z8j [] [.ptr 0 0 0 0,.ptr 1 0 0 0]) (exB m p) [bx 5 (zf m),bxv v 3 (zYi p)] (fun b _=>by
  have h:=Zbj h h1 v p hp b;simp only[ze,zf,zYi]at h;simp[h,ze,zf,zYi])
 rw[zUa z3h rfl];simp only[zf,zYi]at e1;simp[z2O,e1,e2,zf,zYi]
theorem ZF{m:zD}(h:zcp m)(h1:zXl m)(k:zci)(hk:k.jJ.length<=100000000000)(pts:List Pnt)(hp:pts.length<=1000)(hex:∀p∈pts,zXq p=true->k.jJ.any (exB m p)=true):R L Cs z9x [.a (zf m),.a (zG k),.c (.jc (zWs pts))] []=some (.w (Bo true),[]):=by
 have hC:=z0z pts hp;have hck:=h.chk;have hfl:=qj zXq pts;have hex':∀p∈pts.filter zXq,zXq p=true/\k.jJ.any (exB m p)=true:=fun p hq=>by
  obtain⟨a,b⟩:=kF.1 hq;exact⟨b,hex p a b⟩
 generalize pts.filter zXq=q at *;have hL:=zpE (L:=L) (Cs:=Cs) (b:=z76) (live:=some [15,14,3,4,16]) (n0:=2) q (fun i=>[(15,.w (W q.length)),(14,.w (.c (.jc (zWs q)))),(3,.w (Pt 0)),(4,.w (Pt 1)),(16,.w (W i))]) [bx 5 (zf m),bx 6 (zG k)] (fun _=>false) (.ret,[],[]) (.exit 0,[(17,.w (Bo false)),(4,.w (Pt 1)),(3,.w (Pt 0)),(14,.w (.c (.jc (zWs q)))),(15,.w (W q.length)),(16,.w (W q.length))],[bx 5 (zf m),bx 6 (zG k)])
  (fun i hi _=>by
   have hw:=zB (i:=i) (by omega);have hci:(i:Int)<q.length:=by omega
   have hh:=hex' _ (jb hi);have hE:=Zbe h h1 1 q[i] hh.1 k.jJ hk;rw[hh.2]at hE;have hlen:(zWs q).length=q.length:=by simp[zWs]
   have qr:(zWs q)[i]?=some (zYi q[i]):=by simp[zWs,hi]
   generalize q[i]=p at *;simp only[zf,zYi,zG]at hE;rw[zj z76.eq_1];simp only[zYi]at qr;simp[zf,zG,zYi,hci,hw,hlen,qr,hE,zg,zH])
  (fun i hi hb=>by cases hb)
  (by rw[zj z76.eq_1];simp[zf,zG])
 have hlen:(zWs q).length=q.length:=by simp[zWs]
 simp only[zf,zG,ji]at hC hck hL;rw[zUa z9y rfl];have hany:(q.any fun _=>false)=false:=by simp
 rw[hany]at hL;simp[z8o,zf,zG,hC,hck,hlen,hL,zg,zH]
def z4Q(m:zD)(a:AgV)(i:Nat)(x:Int):Spn:=⟨x,max 0 (a.s-a.len-zb4 m a.jy i),min (a.s-zb4 m a.jy i) (z8 m x)⟩
def z4F(m:zD)(a:AgV):Nat->List Int->List Spn
 |_,[]=>[]
 |i,x::r=>(if(z4Q m a i x).lo<=(z4Q m a i x).hi then [z4Q m a i x] else [])++z4F m a (i+1) r
theorem z51(m:zD)(a:AgV):∀(r:List Int) (i:Nat),(z4F m a i r).length<=r.length
 |[],_=>by simp[z4F]
 |x::r,i=>by
  have:=z51 m a r (i+1);unfold z4F;split<;>simp<;>omega
def z2B(m:zD)(a:AgV):List Spn:=z4F m a 0 a.jy
theorem z38{m:zD}(h:zcp m){a:AgV}(ha:KAg m a):(z2B m a).length<=8:=by
 have:=z51 m a a.jy 0;have:=(ha.on h).2.2;unfold z2B;omega
theorem z59{m:zD}(h:zcp m){a:AgV}(ha:KAg m a):∀(r:List Int) (i:Nat) (out:List Spn),a.jy.drop i=r->i<=a.jy.length->out.length<=i ->
  Y L Cs z2V (some [5,7,6,2,3]) 4 [(5,.w (.c (sl 3 3 (zWx out)))),(7,.w (W i)),(6,.w (.c (.jc (zu (zW m 0 a.jy))))),(2,.w (Pt 0)),(3,.w (Pt 1))] [bx 5 (zf m),bx 7 (agC a),gb 3,some (own 3 (zWx out))] =
    some (.exit 0,[(20,.w (Bo false)),(5,.w (.c (sl 3 3 (zWx (out++z4F m a i r))))),(7,.w (W a.jy.length)),(6,.w (.c (.jc (zu (zW m 0 a.jy))))),(2,.w (Pt 0)),(3,.w (Pt 1))],[bx 5 (zf m),bx 7 (agC a),gb 3,some (own 3 (zWx (out++z4F m a i r)))]):=by
 obtain⟨hon,hne,hl8⟩:=ha.on h;have hsl:(zW m 0 a.jy).length=a.jy.length:=zcO _ _ _;intro r;induction r with
 |nil =>
  intro i out hd hi ho;obtain rfl:=zUb hd hi;rw[zj z2V.eq_1];simp[z4F,hsl]
 |cons x r ih =>
  intro i out hd hi ho;obtain⟨hil,hx,hd'⟩:=zL hd;have hw:=zB (i:=i) (by omega);have hxm:=hon x (by rw[<-hx];exact jb _);have hL:=zEV h hxm;have hst:=ha.st_bd h hil;have h1:=ha.s;have h2:=ha.yp h;have h3:=ha.len;have hsi:i<(zW m 0 a.jy).length:=by omega
  have e2:(zW m 0 a.jy)[i]=zb4 m a.jy i:=by simp[zb4,hsi]
  have w1:=kQ (a.s-a.len);have w2:=kQ (a.s-a.len-zb4 m a.jy i);have w3:=kQ (a.s-zb4 m a.jy i);have jU:(out.length+1)*24<=140737488355328:=by omega
  have hci:(i:Int)<a.jy.length:=by omega
  unfold z4F;simp only[zf]at hL;by_cases c:(z4Q m a i x).lo<=(z4Q m a i x).hi
  ·rw[if_pos c,<-jA,<-ih (i+1) (out++[z4Q m a i x]) hd' hil (by simp;omega),zj z2V.eq_1];clear ih;simp only[z4Q]at c;simp[z4Q,zWX,agC,hil,hci,hx,hsl,hsi,e2,hL,zf,hw,w1,w2,w3,c,jU,zg,zH]
  ·rw[if_neg c,jH,<-ih (i+1) out hd' hil (by omega),zj z2V.eq_1];clear ih;simp only[z4Q]at c;simp[agC,hil,hci,hx,hsl,hsi,e2,hL,zf,hw,w1,w2,w3,c,zg,zH]
theorem z5H{m:zD}(h:zcp m){a:AgV}(ha:KAg m a):R L Cs z4p [.a (zf m),.a (agC a)] []=some (.w (.c (.jc (zWx (z2B m a)))),[]):=by
 have hl:=z59 h ha a.jy 0 [] rfl (jE _) (jk _);have hS:=zRG h ha.jy;have AJ:=z6s h ha;rw[jH]at hl;have e:z4F m a 0 a.jy=z2B m a:=rfl;rw[e]at hl;simp only[zf,agC,ji,sl,own,zZb,jB,zXJ]at hl hS AJ;rw[zUa z4v rfl];simp[z3t,zf,agC,AJ,hS,hl,zg,zX]
structure z7y(m:zD)(zs:List Zon)(ss:List Sgn):Prop where
 full:zmq m zs ss
 pos:0<m.jf.length
 zn2:zs.length<=2
 srt:∀l,zdA m l=0->zN1 (zKh m zs 0 l)
 few:∀l,zdA m l=0->(zKh m zs 0 l).length<=19
theorem z7A(k:Nat)(hk:k<7){lim r o1 o2 o3 v:Int}{ws:List zCP}(nu:zp2 k lim r o1 o2 o3 v ws):z7y (zq k lim r o1 o2 o3 v ws) (zsP k r) (ssP k r o1 o2 o3):=by
 have hf:=zCE k hk nu;obtain⟨z1,z2⟩:=zOQ k hk r;refine⟨hf,zE9 k hk _ _ _ _ _ _ _,z1,fun l hr=>zMq (zTp hf.BC (zQa k hk lim r o1 o2 o3 v ws) hr),fun l hr=>?_⟩;have:=zOu hf z1 z2 hr;omega
def z5u(m:zD)(zs:List Zon)(a:AgV)(z:Int)(p:Pss):Bool:=decide (p.vH=z)&&decide (a.s-a.len<=p.hi)&&decide (p.lo<=a.s)
def z4Y(m:zD)(zs:List Zon)(a:AgV)(z:Int):Bool:=(zKh m zs 0 a.jy).any (z5u m zs a z)
theorem z4G{m:zD}{zs:List Zon}{ss:List Sgn}(hF:z7y m zs ss){a:AgV}(ha:KAg m a)(z:Int):R L Cs z3B [.a (zf m),.a (agC a),.a (agC a),W z] []=some (.w (Bo (z4Y m zs a z)),[]):=by
 have h:=hF.full.vG;have hP:=zRH hF.full ha.jy (hF.srt _ ha.jy) (hF.few _ ha.jy);have hpl:=hF.few _ ha.jy;have AJ:=z6s h ha;have h1:=ha.s;have h2:=ha.yp h;have h3:=ha.len;have w1:=kQ (a.s-a.len);unfold z4Y;generalize zKh m zs 0 a.jy=ps at *;have hL:=zpE (L:=L) (Cs:=Cs) (b:=z2L) (live:=some [3,5,6,9,10]) (n0:=3) ps (fun i=>[(3,.w (W z)),(5,.w (Pt 1)),(6,.w (Pt 2)),(9,.w (.c (.jc (zKd ps)))),(10,.w (W i))]) [bx 5 (zf m),bx 7 (agC a),bx 7 (agC a)] (z5u m zs a z) (.ret,[(8,.w (Bo true))],[bx 5 (zf m),bx 7 (agC a),bx 7 (agC a)]) (.exit 0,[(26,.w (Bo false)),(9,.w (.c (.jc (zKd ps)))),(6,.w (Pt 2)),(5,.w (Pt 1)),(3,.w (W z)),(10,.w (W ps.length))],[bx 5 (zf m),bx 7 (agC a),bx 7 (agC a)])
  (fun i hi hb=>by
   have hw:=zB (i:=i) (by omega);generalize hp:ps[i]=p at *;unfold z5u at hb;rw[zj z2L.eq_1];by_cases c1:p.vH=z
   ·have b1:(p.vH==z)=true:=by simp[c1]
    by_cases c2:a.s-a.len<=p.hi
    ·have c3:¬p.lo<=a.s:=by simpa [c1,c2]using hb
     simp[zf,agC,zKF,hi,hp,hw,w1,b1,c2,c3]
    ·simp[zf,agC,zKF,hi,hp,hw,w1,b1,c2]
   ·have b1:(p.vH==z)=false:=by simp[c1]
    simp[zf,agC,zKF,hi,hp,hw,w1,b1])
  (fun i hi hb=>by
   generalize hp:ps[i]=p at *;unfold z5u at hb;simp only[jg,decide_eq_true_eq]at hb;obtain⟨⟨c1,c2⟩,c3⟩:=hb;have b1:(p.vH==z)=true:=by simp[c1]
   rw[zj z2L.eq_1];simp[zf,agC,zKF,hi,hp,w1,b1,c2,c3])
  (by rw[zj z2L.eq_1];simp[zf,agC])
 simp only[zf,agC,ji]at hP AJ hL;rw[zUa z34 rfl];cases hq:ps.any (z5u m zs a z)with
 |true =>
  rw[hq]at hL;simp[z24,zf,agC,hP,AJ,hL,zg]
 |false =>
  rw[hq]at hL;simp[z24,zf,agC,hP,AJ,hL,zg]
theorem z5x(st:Int)(z:Nat)(x:Int):∀(l:List Prt) (k:Nat) (p:Pss),p∈zLB st z x k l->p.vH=z/\∃q∈l,q.lane=x
 |[],_,_,h=>by simp[zLB]at h
 |q::l,k,p,h=>by
  unfold zLB at h;split at h
  ·rename_i c;rcases js.1 h with rfl|h
   ·exact⟨rfl,q,by simp,c⟩
   ·obtain⟨h1,q',h2,h3⟩:=z5x st z x l _ p h;exact⟨h1,q',by simp[h2],h3⟩
  ·obtain⟨h1,q',h2,h3⟩:=z5x st z x l _ p h;exact⟨h1,q',by simp[h2],h3⟩
theorem z6m(st x:Int):∀(l:List Zon) (z:Nat) (p:Pss),p∈zLA st x z l->∃j:Nat,∃hj:j<l.length,p.vH=((z+j:Nat):Int)/\∃q∈l[j].parts,q.lane=x
 |[],_,_,h=>by simp[zLA]at h
 |q::l,z,p,h=>by
  unfold zLA at h;rcases jm.1 h with h|h
  ·obtain⟨h1,h2⟩:=z5x st z x _ _ p h;exact⟨0,by simp,by simpa using h1,by simpa using h2⟩
  ·obtain⟨j,hj,h1,h2⟩:=z6m st x l (z+1) p h;exact⟨j+1,by simp;omega,by rw[h1];congr 1;omega,by simpa using h2⟩
theorem z6n(m:zD)(zs:List Zon):∀(r:List Int) (a:Int) (p:Pss),p∈zKh m zs a r->∃x∈r,∃j:Nat,∃hj:j<zs.length,p.vH=(j:Int)/\∃q∈zs[j].parts,q.lane=x
 |[],_,_,h=>by simp[zKh]at h
 |x::r,a,p,h=>by
  unfold zKh at h;rcases jm.1 h with h|h
  ·obtain⟨j,hj,h1,h2⟩:=z6m a x zs 0 p h;exact⟨x,by simp,j,hj,by simpa using h1,h2⟩
  ·obtain⟨y,hy,h'⟩:=z6n m zs r _ p h;exact⟨y,by simp[hy],h'⟩
def z6b(q:Zon)(l:List Int):Option Nat:=l.findIdx? fun x=>(zjF q x).isSome
theorem z5g{m:zD}{zs:List Zon}{ss:List Sgn}(hf:zmq m zs ss){l:List Int}(hr:zdA m l=0)(z:Nat)(hz:z<zs.length) :
  R L Cs z4b [.a (zf m),.c (.jc (zu l)),W z] []=some (.w (W (match z6b zs[z] l with |some i=>(i:Int) |none=>-1)),[]):=by
 obtain⟨_,_,hl8⟩:=zg1 hf.vG hr;have h1:=zp0 m hf.vG.small hf.vG.yQ l (by omega);rw[hr]at h1;have hzz:=hf.zd.z;have hcz:(z:Int)<zs.length:=by omega
 have hpf:=hf.zd.pfew _ (jb hz);have hL:=zxf (L:=L) (Cs:=Cs) (b:=z2S) (live:=some [3,2,1,7]) (n0:=1) l (fun i=>[(3,.w (Pt 0)),(2,.w (W z)),(1,.w (.c (.jc (zu l)))),(7,.w (W i))]) [bx 5 (zf m)] (fun x=>(zjF zs[z] x).isSome) (fun i=>(.ret,[(6,.w (W i))],[bx 5 (zf m),bxv 1 4 (zeB ((zjF zs[z] (l.getD i 0)).getD zto))])) (.exit 0,[(28,.w (Bo false)),(1,.w (.c (.jc (zu l)))),(2,.w (W z)),(3,.w (Pt 0)),(7,.w (W l.length))],[bx 5 (zf m)])
  (fun i hi hb=>by
   have hw:=zB (i:=i) (by omega);have hp:=zxM zs[z] l[i] (by omega);rw[hb]at hp;generalize hx:l[i]=x at *;generalize (zjF zs[z] x).getD zto=y at *;simp only[zeB,zdP]at hp;rw[zj z2S.eq_1];simp[zf,hzz,zdP,zeB,hi,hz,hcz,hx,hw,hp,zg,zH])
  (fun i hi hb=>by
   have hp:=zxM zs[z] l[i] (by omega);rw[hb]at hp;rw[show l.getD i 0=l[i] by simp[hi]];generalize hx:l[i]=x at *;generalize (zjF zs[z] x).getD zto=y at *;simp only[zeB,zdP]at hp;rw[zj z2S.eq_1];simp[zf,hzz,zdP,zeB,hi,hz,hcz,hx,hp,zg,zH])
  (by rw[zj z2S.eq_1];simp[zf])
 have z0:¬(z:Int)<0:=by omega
 have z1:¬zs.length<=z:=by omega
 simp only[zf,hzz,ji]at h1 hL;rw[zUa z4j rfl];unfold z6b;cases hq:l.findIdx? (fun x=>(zjF zs[z] x).isSome)with
 |none =>
  rw[hq]at hL;simp[z3c,zf,hzz,h1,hL,hz,hcz,z0,z1,zg]
 |some i =>
  rw[hq]at hL;simp[z3c,zf,hzz,h1,hL,hz,hcz,z0,z1,zg]
theorem z5Z{m:zD}{zs:List Zon}{a:AgV}{z:Nat}(hz:z<zs.length)(hp:z4Y m zs a z=true):∃i,z6b zs[z] a.jy=some i/\i<a.jy.length:=by
 unfold z4Y at hp;obtain⟨p,hp1,hp2⟩:=kc.1 hp;obtain⟨x,hx,j,hj,h1,q,h2,h3⟩:=z6n m zs a.jy 0 p hp1;unfold z5u at hp2;simp only[jg,decide_eq_true_eq]at hp2;have e:j=z:=by have:=hp2.1.1;omega
 subst e;unfold z6b;cases hq:a.jy.findIdx? (fun x=>(zjF zs[j] x).isSome)with
 |some i =>
  obtain⟨g1,_⟩:=jT.1 hq;exact⟨i,rfl,g1⟩
 |none =>
  rw[kp]at hq;have:=hq x hx;unfold zjF at this;simp at this;exact absurd h3 (this q h2)
def z5a(x y:Spn):Bool:=decide (x.lane=y.lane)&&decide (x.lo<=y.hi)&&decide (y.lo<=x.hi)
abbrev toM(m:zD)(a b:AgV):Mem:=[bx 5 (zf m),bx 7 (agC a),bx 7 (agC b)]
theorem z5Q(m:zD)(a b:AgV)(k l:List Spn)(hk:k.length<=8)(hl:l.length<=8)(i:Nat)(hi:i<k.length):Y L Cs z2A (some [8,7,9,10]) 3 [(8,.w (.c (.jc (zWx l)))),(7,.w (.c (.jc (zWx k)))),(9,.w (W i)),(10,.w (W (0:Nat)))] (toM m a b) =
  some (if l.any (z5a k[i]) then(.ret,[(6,.w (Bo true))],toM m a b) else(.exit 2,[(26,.w (Bo false)),(9,.w (W i)),(7,.w (.c (.jc (zWx k)))),(8,.w (.c (.jc (zWx l)))),(10,.w (W l.length))],toM m a b)):=by
 have hci:(i:Int)<k.length:=by omega
 generalize hx:k[i]=x at *;refine zpE (L:=L) (Cs:=Cs) (b:=z2A) (live:=some [8,7,9,10]) (n0:=3) l (fun j=>[(8,.w (.c (.jc (zWx l)))),(7,.w (.c (.jc (zWx k)))),(9,.w (W i)),(10,.w (W j))]) (toM m a b) (z5a x) _ _ ?_ ?_ ?_
 ·intro j hj hb;have hw:=zB (i:=j) (by omega);generalize hy:l[j]=y at *;unfold z5a at hb;rw[zj z2A.eq_1];by_cases c1:x.lane=y.lane
  ·have b1:(x.lane==y.lane)=true:=by simp[c1]
   by_cases c2:x.lo<=y.hi
   ·have c3:¬y.lo<=x.hi:=by simpa [c1,c2]using hb
    simp[toM,zf,agC,zWX,hi,hci,hj,hx,hy,hw,b1,c2,c3]
   ·simp[toM,zf,agC,zWX,hi,hci,hj,hx,hy,hw,b1,c2]
  ·have b1:(x.lane==y.lane)=false:=by simp[c1]
   simp[toM,zf,agC,zWX,hi,hci,hj,hx,hy,hw,b1]
 ·intro j hj hb;generalize hy:l[j]=y at *;unfold z5a at hb;simp only[jg,decide_eq_true_eq]at hb;obtain⟨⟨c1,c2⟩,c3⟩:=hb;have b1:(x.lane==y.lane)=true:=by simp[c1]
  rw[zj z2A.eq_1];simp[toM,zf,agC,zWX,hi,hci,hj,hx,hy,b1,c2,c3]
 ·rw[zj z2A.eq_1];simp[toM,zf,agC]
theorem z55{m:zD}(h:zcp m){a b:AgV}(ha:KAg m a)(hb:KAg m b):R L Cs z3y [.a (zf m),.a (agC a),.a (agC b)] []=some (.w (Bo ((z2B m a).any fun x=>(z2B m b).any (z5a x))),[]):=by
 have h1:=z5H h ha;have h2:=z5H h hb;have hk:=z38 h ha;have hl:=z38 h hb;generalize z2B m a=k at *;generalize z2B m b=l at *;have hL:=zpE (L:=L) (Cs:=Cs) (b:=z2J) (live:=some [8,7,9]) (n0:=3) k (fun i=>[(8,.w (.c (.jc (zWx l)))),(7,.w (.c (.jc (zWx k)))),(9,.w (W i))]) (toM m a b) (fun x=>l.any (z5a x)) (.ret,[(6,.w (Bo true))],toM m a b) (.exit 0,[(20,.w (Bo false)),(8,.w (.c (.jc (zWx l)))),(7,.w (.c (.jc (zWx k)))),(9,.w (W k.length))],toM m a b)
  (fun i hi hb=>by
   have hw:=zB (i:=i) (by omega);have hI:=z5Q m a b k l hk hl i hi;rw[hb]at hI;simp only[toM,zf,agC,ji]at hI;rw[zj z2J.eq_1];simp[toM,zf,agC,hi,hw,hI])
  (fun i hi hb=>by
   have hI:=z5Q m a b k l hk hl i hi;rw[hb]at hI;simp only[toM,zf,agC,ji]at hI;rw[zj z2J.eq_1];simp[toM,zf,agC,hi,hI])
  (by rw[zj z2J.eq_1];simp[toM,zf,agC])
 simp only[toM,zf,agC,ji]at h1 h2 hL;rw[zUa z30 rfl];cases hq:k.any (fun x=>l.any (z5a x))with
 |true =>
  rw[hq]at hL;simp[z21,zf,agC,h1,h2,hL,zg]
 |false =>
  rw[hq]at hL;simp[z21,zf,agC,h1,h2,hL,zg]
theorem z7f{m:zD}{zs:List Zon}{ss:List Sgn}(hF:z7y m zs ss){a:AgV}(ha:KAg m a)(z:Nat)(hz:z<zs.length):∃r,R L Cs z3M [.a (zf m),.a (agC a),W z,W 0] []=some (.w (W r),[]):=by
 have hf:=hF.full;have hE:=z5g hf ha.jy z hz;obtain⟨hon,_,hl8⟩:=ha.on hf.vG;have hzz:=hf.zd.z;have hcz:(z:Int)<zs.length:=by omega
 have hpf:=hf.zd.pfew _ (jb hz);have hsg:=hf.zd.sig _ (jb hz);rw[zUa z4u rfl];cases he:z6b zs[z] a.jy with
 |none =>
  rw[he]at hE;refine⟨0,?_⟩;simp only[zf,hzz,agC]at hE;simp[z2K,zf,hzz,agC,hE,zg]
 |some i =>
  rw[he]at hE;have hi:i<a.jy.length:=(jT.1 he).1;have hci:(i:Int)<a.jy.length:=by omega
  have hx:=hon _ (jb hi);generalize hxx:a.jy[i]=x at *;generalize hq:zs[z]=q at *;have hn0:¬(i:Int)<0:=by omega
  by_cases c:0<q.yi
  ·obtain⟨j,hj⟩:∃j:Nat,q.yi-1=(j:Int):=⟨(q.yi-1).toNat,by omega⟩;have hjl:j<ss.length:=by omega
   have hsf:=hf.zd.sfew;have hG:=zRT hf j hjl x hx 0 (by omega);have hw:IntKind.i64.wrap (q.yi-1)=(j:Int):=by rw[zTd _ (by omega) (by omega)];exact hj
   generalize zfA ss[j] x 0=g at *;simp only[zf,hzz,agC]at hE hG;cases g with
   |true =>
    refine⟨2,?_⟩;simp[z2K,zf,hzz,zdP,agC,hE,hG,hz,hcz,hq,hi,hci,hn0,hxx,c,hw,zg,zH]
   |false =>
    refine⟨0,?_⟩;simp[z2K,zf,hzz,zdP,agC,hE,hG,hz,hcz,hq,hi,hci,hn0,hxx,c,hw,zg,zH]
  ·have hL:=zxf (L:=L) (Cs:=Cs) (b:=z2U) (live:=some [5,9,10,11]) (n0:=3) q.parts (fun i'=>[(5,.w (Pt 1)),(9,.w (W i)),(10,.w (Pt 2)),(11,.w (W i'))]) [bx 5 (zf m),bx 7 (agC a),bxv 1 2 (zdP q)] (fun p=>decide (p.lane=x)) (fun j=>(.ret,[(8,.w (W (q.parts.getD j zto).v6))],[bx 5 (zf m),bx 7 (agC a),bxv 1 2 (zdP q)])) (.exit 0,[(42,.w (Bo false)),(9,.w (W i)),(5,.w (Pt 1)),(10,.w (Pt 2)),(11,.w (W q.parts.length))],[bx 5 (zf m),bx 7 (agC a),bxv 1 2 (zdP q)])
    (fun j hj hb=>by
     have hw:=zB (i:=j) (by omega);generalize hp:q.parts[j]=p at *;have hb:¬p.lane=x:=by simpa using hb
     have b1:(p.lane==x)=false:=by simp[hb]
     rw[zj z2U.eq_1];simp[zf,zdP,agC,zeB,hi,hci,hxx,hj,hp,hw,b1])
    (fun j hj hb=>by
     rw[show q.parts.getD j zto=q.parts[j] by simp[hj]];generalize hp:q.parts[j]=p at *;have b1:(p.lane==x)=true:=by simpa using hb
     rw[zj z2U.eq_1];simp[zf,zdP,agC,zeB,hi,hci,hxx,hj,hp,b1])
    (by rw[zj z2U.eq_1];simp[zf,zdP,agC])
   simp only[zf,hzz,agC,zdP,ji]at hE hL;cases hy:q.parts.findIdx? (fun p=>decide (p.lane=x))with
   |none =>
    rw[hy]at hL;refine⟨0,?_⟩;simp[z2K,zf,hzz,zdP,agC,hE,hL,hz,hcz,hq,hn0,c,zg,zH]
   |some j =>
    rw[hy]at hL;refine⟨(q.parts.getD j zto).v6,?_⟩;simp only at hL;simp[z2K,zf,hzz,zdP,agC,hE,hL,hz,hcz,hq,hn0,c,zg,zH]
abbrev znM(m:zD)(s:SnV)(out:List Int):Mem:=[bx 5 (zf m),bx 3 (snC s),bx 3 (snC s),gb 1,some (own 1 (zu out))]
abbrev znE(i j z:Nat)(out:List Int):Env:=[(12,.w (W z)),(6,.w (Pt 1)),(3,.w (W i)),(7,.w (Pt 2)),(4,.w (W j)),(11,.w (.c (sl 4 1 (zu out)))),(5,.w (Pt 0))]
theorem z61{m:zD}{zs:List Zon}{ss:List Sgn}(hF:z7y m zs ss)(s:SnV)(i j:Nat)(hi:i<s.agents.length)(hj:j<s.agents.length)(ha:KAg m s.agents[i])(hb:KAg m s.agents[j]):∀(f z:Nat) (out:List Int),z+f=zs.length->out.length<=z->∃qF:List Int,
  Y L Cs z20 (some [12,6,3,7,4,11,5]) 5 (znE i j z out) (znM m s out)=some (.exit 0,[(19,.w (Bo false)),(12,.w (W zs.length)),(6,.w (Pt 1)),(3,.w (W i)),(7,.w (Pt 2)),(4,.w (W j)),(11,.w (.c (sl 4 1 (zu qF)))),(5,.w (Pt 0))],znM m s qF):=by
 have hf:=hF.full;have hzz:=hf.zd.z;have qL:=hf.zd.few;intro f;induction f with
 |zero =>
  intro z out hz _;obtain rfl:z=zs.length:=by omega
  refine⟨out,?_⟩;rw[zj z20.eq_1];simp[znE,znM,zf,hzz]
 |succ f ih =>
  intro z out hz ho;have hzl:z<zs.length:=by omega
  have hcz:(z:Int)<zs.length:=by omega
  have hw:=zB (i:=z) (by omega);have hP1:=z4G hF ha z;have hP2:=z4G hF hb z;have hE1:=z5g hf ha.jy z hzl;have hE2:=z5g hf hb.jy z hzl;have hS1:z4Y m zs s.agents[i] z=true->∃u,z6b zs[z] s.agents[i].jy=some u/\u<s.agents[i].jy.length:=z5Z hzl;have hS2:z4Y m zs s.agents[j] z=true->∃u,z6b zs[z] s.agents[j].jy=some u/\u<s.agents[j].jy.length:=z5Z hzl;have hci:(i:Int)<s.agents.length:=by omega
  have hcj:(j:Int)<s.agents.length:=by omega
  have jU:(out.length+1)*8<=140737488355328:=by omega
  generalize hag:s.agents[i]=a at *;generalize hbg:s.agents[j]=b at *;generalize z4Y m zs a z=p1 at *;generalize z4Y m zs b z=p2 at *;rw[zj z20.eq_1];simp only[zf,hzz,agC]at hP1 hP2 hE1 hE2;cases p1 with
  |false =>
   obtain⟨qF,h⟩:=ih (z+1) out (by omega) (by omega);refine⟨qF,?_⟩;rw[<-h];clear ih h hS1 hS2;simp[znE,znM,zf,hzz,snC,agC,hi,hci,hj,hcj,hag,hbg,hzl,hcz,hw,hP1,hP2,zg,zH]
  |true =>
   cases p2 with
   |false =>
    obtain⟨qF,h⟩:=ih (z+1) out (by omega) (by omega);refine⟨qF,?_⟩;rw[<-h];clear ih h hS1 hS2;simp[znE,znM,zf,hzz,snC,agC,hi,hci,hj,hcj,hag,hbg,hzl,hcz,hw,hP1,hP2,zg,zH]
   |true =>
    obtain⟨u,e1,hu⟩:=hS1 rfl;obtain⟨v,e2,hv⟩:=hS2 rfl;clear hS1 hS2;rw[e1]at hE1;rw[e2]at hE2;have hcu:(u:Int)<a.jy.length:=by omega
    have hcv:(v:Int)<b.jy.length:=by omega
    by_cases c:a.jy[u]=b.jy[v]
    ·have cb:(a.jy[u]==b.jy[v])=true:=by simp[c]
     have cb2:(a.jy[u] !=b.jy[v])=false:=by simp[c]
     obtain⟨qF,h⟩:=ih (z+1) out (by omega) (by omega);refine⟨qF,?_⟩;rw[<-h];clear ih h;simp[znE,znM,zf,hzz,snC,agC,hi,hci,hj,hcj,hag,hbg,hzl,hcz,hw,hP1,hP2,hE1,hE2,hu,hv,hcu,hcv,cb,cb2,zg,zH]
    ·have cb:(a.jy[u]==b.jy[v])=false:=by simp[c]
     have cb2:(a.jy[u] !=b.jy[v])=true:=by simp[c]
     obtain⟨qF,h⟩:=ih (z+1) (out++[(z:Int)]) (by omega) (by simp;omega);refine⟨qF,?_⟩;rw[<-h];clear ih h;simp[znE,znM,zf,hzz,snC,agC,hi,hci,hj,hcj,hag,hbg,hzl,hcz,hw,hP1,hP2,hE1,hE2,hu,hv,hcu,hcv,cb,cb2,jU,zg,zH]
theorem z6X{m:zD}{zs:List Zon}{ss:List Sgn}(hF:z7y m zs ss)(s:SnV)(i j:Nat)(hi:i<s.agents.length)(hj:j<s.agents.length)(ha:KAg m s.agents[i])(hb:KAg m s.agents[j]):∃out:List Int,R L Cs z3H [.a (zf m),.a (snC s),.a (snC s),W i,W j] []=some (.w (.c (.jc (zu out))),[]):=by
 obtain⟨out,h⟩:=z61 hF s i j hi hj ha hb zs.length 0 [] (by omega) (by simp);refine⟨out,?_⟩;simp only[znE,znM,zf,snC,sl,own,zay,jB,zfq,ji]at h;rw[zUa z4h rfl];simp[z3n,zf,snC,h,zg,zX]
structure z45 where
 r:Int
 s:Int
 v:Int
 len:Int
 start:Int
 dis:Bool
def z3N(x:z45):List Cl:=[I x.r,I x.s,I x.v,I x.len,I x.start,.bool x.dis]
theorem z5w(k:Int):300<=zeR k/\zeR k<=2000:=by unfold zeR;split<;>(try split)<;>omega
theorem z5h{m:zD}{zs:List Zon}{ss:List Sgn}(hF:z7y m zs ss)(x:z45)(first:Bool):∃a,KAg m a/\(first=true->a.start=0)/\(x.len % 4700=0->a.len=300)/\R L Cs z4y [.a (zf m),.a (z3N x),Bo first] []=some (.w (.a (agC a)),[]):=by
 have h:=hF.full.vG;have hR0:=zE3 h x.r;have hl0:=zD0 x.len 4700 (by omega) (by omega);have hl1:=zDJ x.len 4700 (by omega);have wl:=kQ (300+x.len % 4700);have hb4:=zEW x.start 4 (by omega) (by omega);have hb40:=zEW x.start 40 (by omega) (by omega);have hbr:=zDJ x.start 40 (by omega);have hr0:=zE5 hF.full hF.pos x.r;obtain⟨k,hk⟩:=zES h x.r;have hrk:=zE5 hF.full hF.pos k;generalize zDT m x.r=r0 at *;generalize zDT m k=rk at *;generalize x.len % 4700=ln at *;generalize x.start % 40=b40 at *;generalize hb:x.start % 4=b4 at *;have fin:∀(r:List Int) (hr:zdA m r=0),∃(x0:Int) (t:List Int) (j:Nat) (hj:j<m.jf.length),r=x0::t/\x0=(j:Int)/\(m.jf[j].kind=1\/m.jf[j].kind=2\/m.jf[j].kind=3):=by
  intro r hr;obtain⟨hon,hne,_⟩:=zg1 h hr;cases r with
  |nil=>exact absurd rfl hne
  |cons y t =>
   obtain⟨j,hj,ej,ek⟩:=z5b (hon y (by simp));exact⟨y,t,j,hj,rfl,ej,h.kind _ (jb hj)⟩
 have gen:∀(r:List Int) (hr:zdA m r=0) (x0:Int) (t:List Int) (j:Nat) (hj:j<m.jf.length),r=x0::t->0<=x.s % (zmd m 0 r+1)/\x.s % (zmd m 0 r+1)<=zmd m 0 r/\0<=zmd m 0 r/\zmd m 0 r<=8000000:=by
  intro r hr x0 t j hj e;obtain⟨hon,hne,hl8⟩:=zg1 h hr;have:=zEC h r 0 hon (by omega);have:=zDJ x.s (zmd m 0 r+1) (by omega);omega
 rw[zUa z4A rfl];cases first with
 |true =>
  obtain⟨x0,t,j,hj,er,rfl,hkd⟩:=fin rk hrk;obtain⟨g1,g2,g3,g4⟩:=gen rk hrk _ _ j hj er;have hE:=zEp h hrk;have hS:=zD0 x.s (zmd m 0 rk+1) (by omega) (by omega);have wE:=kQ (zmd m 0 rk+1);generalize x.s % (zmd m 0 rk+1)=sv at *;have hB:=zhv hkd;have htb:=z5w m.jf[j].kind;have wT:=kQ (zeR m.jf[j].kind+1);have hV:=zD0 x.v (zeR m.jf[j].kind+1) (by omega) (by omega);generalize x.v % (zeR m.jf[j].kind+1)=vv at *;generalize zeR m.jf[j].kind=tv at *;by_cases c:tv<1000
  ·refine⟨⟨rk,sv,vv,300,0,false,false⟩,⟨hrk,by simp only[];omega,by simp only[];omega,⟨g1,g2⟩,fun h=>absurd h (by simp),rfl⟩,fun _=>rfl,(fun _=>rfl),?_⟩;subst er;simp only[zf,zaP]at hR0 hk hE;simp[z2E,zf,z3N,agC,zo,hR0,hk,hE,hS,hV,hB,hl0,wl,wE,wT,hj,c,hb4,zg,zH,zX]
  ·refine⟨⟨rk,sv,vv,300+ln,0,false,false⟩,⟨hrk,by simp only[];omega,by simp only[];omega,⟨g1,g2⟩,fun h=>absurd h (by simp),rfl⟩,fun _=>rfl,(fun h0=>by show 300+ln=300;omega),?_⟩;subst er;simp only[zf,zaP]at hR0 hk hE;simp[z2E,zf,z3N,agC,zo,hR0,hk,hE,hS,hV,hB,hl0,wl,wE,wT,hj,c,hb4,zg,zH,zX]
 |false =>
  obtain⟨x0,t,j,hj,er,rfl,hkd⟩:=fin r0 hr0;obtain⟨g1,g2,g3,g4⟩:=gen r0 hr0 _ _ j hj er;have hE:=zEp h hr0;have hS:=zD0 x.s (zmd m 0 r0+1) (by omega) (by omega);have wE:=kQ (zmd m 0 r0+1);generalize x.s % (zmd m 0 r0+1)=sv at *;have hB:=zhv hkd;have htb:=z5w m.jf[j].kind;have wT:=kQ (zeR m.jf[j].kind+1);have hV:=zD0 x.v (zeR m.jf[j].kind+1) (by omega) (by omega);generalize x.v % (zeR m.jf[j].kind+1)=vv at *;generalize zeR m.jf[j].kind=tv at *;have wb:=kQ b40;by_cases c:tv<1000
  ·by_cases d:b4=3
   ·have db:(b4==3)=true:=by simp[d]
    refine⟨⟨r0,0,vv,300,b40,!x.dis,false⟩,⟨hr0,by simp only[];omega,by simp only[];omega,⟨by simp,g3⟩,fun _=>rfl,rfl⟩,(fun h=>Bool.noConfusion h),(fun _=>rfl),?_⟩;subst er;simp only[zf,zaP]at hR0 hE;simp[z2E,zf,z3N,agC,zo,hR0,hE,hS,hV,hB,hl0,wl,wE,wT,wb,hj,c,db,hb4,hb40,zg,zH,zX]
   ·have db:(b4==3)=false:=by simp[d]
    refine⟨⟨r0,sv,vv,300,0,!x.dis,false⟩,⟨hr0,by simp only[];omega,by simp only[];omega,⟨g1,g2⟩,fun h=>absurd h (by simp),rfl⟩,fun _=>rfl,(fun _=>rfl),?_⟩;subst er;simp only[zf,zaP]at hR0 hE;simp[z2E,zf,z3N,agC,zo,hR0,hE,hS,hV,hB,hl0,wl,wE,wT,hj,c,db,hb4,zg,zH,zX]
  ·by_cases d:b4=3
   ·have db:(b4==3)=true:=by simp[d]
    refine⟨⟨r0,0,vv,300+ln,b40,!x.dis,false⟩,⟨hr0,by simp only[];omega,by simp only[];omega,⟨by simp,g3⟩,fun _=>rfl,rfl⟩,(fun h=>Bool.noConfusion h),(fun h0=>by show 300+ln=300;omega),?_⟩;subst er;simp only[zf,zaP]at hR0 hE;simp[z2E,zf,z3N,agC,zo,hR0,hE,hS,hV,hB,hl0,wl,wE,wT,wb,hj,c,db,hb4,hb40,zg,zH,zX]
   ·have db:(b4==3)=false:=by simp[d]
    refine⟨⟨r0,sv,vv,300+ln,0,!x.dis,false⟩,⟨hr0,by simp only[];omega,by simp only[];omega,⟨g1,g2⟩,fun h=>absurd h (by simp),rfl⟩,fun _=>rfl,(fun h0=>by show 300+ln=300;omega),?_⟩;subst er;simp only[zf,zaP]at hR0 hE;simp[z2E,zf,z3N,agC,zo,hR0,hE,hS,hV,hB,hl0,wl,wE,wT,hj,c,db,hb4,zg,zH,zX]
theorem z2C{l:List Int}(h:l≠[]):zu l≠[]:=by simpa [zu]using h
theorem copy0:R L Cs z2u [.a [I 0,.jc (z5 []),.jc []]] []=some (.w (.a [I 0,.je,.je]),[]):=by
 rw[zUa z2D rfl];simp[z2v,snC,agC,zg,z5,z2H];rw[zj z7C.eq_1];simp[zX,zg,agC,zH]
theorem copy1(a:AgV)(ha:a.jy≠[]/\a.jy.length<=8):R L Cs z2u [.a [I 0,.jc (z5 [a]),.jc []]] []=some (.w (.a [I 0,.slice 0 1 7 0 1 none,.je]),[some { box:=false,esz:=7,rows:=z5 [a],gen:=1,fz:=false,ver:=1 }]):=by
 have a1:=z2C ha.1;have a2:a.jy.length*8<=140737488355328:=by omega
 have w1:IntKind.i64.wrap 1=1:=rfl;rw[zUa z2D rfl];simp[z2v,snC,agC,zg,z5,z2H];rw[zj z7C.eq_1];simp[zX,zg,agC,a1,a2,w1,zH];rw[zj z7C.eq_1];simp[zX,zg,agC,a1,a2,w1,zH]
theorem copy2(a b:AgV)(ha:a.jy≠[]/\a.jy.length<=8)(hb:b.jy≠[]/\b.jy.length<=8):R L Cs z2u [.a [I 0,.jc (z5 [a,b]),.jc []]] []=some (.w (.a [I 0,.slice 0 2 7 0 2 none,.je]),[some { box:=false,esz:=7,rows:=z5 [a,b],gen:=2,fz:=false,ver:=2 }]):=by
 have a1:=z2C ha.1;have a2:a.jy.length*8<=140737488355328:=by omega
 have b1:=z2C hb.1;have b2:b.jy.length*8<=140737488355328:=by omega
 have w1:IntKind.i64.wrap 1=1:=rfl;have w2:IntKind.i64.wrap 2=2:=rfl;rw[zUa z2D rfl];simp[z2v,snC,agC,zg,z5,z2H];rw[zj z7C.eq_1];simp[zX,zg,agC,a1,a2,b1,b2,w1,w2,zH];rw[zj z7C.eq_1];simp[zX,zg,agC,a1,a2,b1,b2,w1,w2,zH];rw[zj z7C.eq_1];simp[zX,zg,agC,a1,a2,b1,b2,w1,w2,zH]
theorem copy3(a b c:AgV)(ha:a.jy≠[]/\a.jy.length<=8)(hb:b.jy≠[]/\b.jy.length<=8)(hc:c.jy≠[]/\c.jy.length<=8):R L Cs z2u [.a [I 0,.jc (z5 [a,b,c]),.jc []]] []=some (.w (.a [I 0,.slice 0 3 7 0 3 none,.je]),[some { box:=false,esz:=7,rows:=z5 [a,b,c],gen:=3,fz:=false,ver:=3 }]):=by
 have a1:=z2C ha.1;have a2:a.jy.length*8<=140737488355328:=by omega
 have b1:=z2C hb.1;have b2:b.jy.length*8<=140737488355328:=by omega
 have c1:=z2C hc.1;have c2:c.jy.length*8<=140737488355328:=by omega
 have w1:IntKind.i64.wrap 1=1:=rfl;have w2:IntKind.i64.wrap 2=2:=rfl;have w3:IntKind.i64.wrap 3=3:=rfl;rw[zUa z2D rfl];simp[z2v,snC,agC,zg,z5,z2H];rw[zj z7C.eq_1];simp[zX,zg,agC,a1,a2,b1,b2,c1,c2,w1,w2,w3,zH];rw[zj z7C.eq_1];simp[zX,zg,agC,a1,a2,b1,b2,c1,c2,w1,w2,w3,zH];rw[zj z7C.eq_1];simp[zX,zg,agC,a1,a2,b1,b2,c1,c2,w1,w2,w3,zH];rw[zj z7C.eq_1];simp[zX,zg,agC,a1,a2,b1,b2,c1,c2,w1,w2,w3,zH]
theorem copy4(a b c d:AgV)(ha:a.jy≠[]/\a.jy.length<=8)(hb:b.jy≠[]/\b.jy.length<=8)(hc:c.jy≠[]/\c.jy.length<=8)(hd:d.jy≠[]/\d.jy.length<=8):R L Cs z2u [.a [I 0,.jc (z5 [a,b,c,d]),.jc []]] []=some (.w (.a [I 0,.slice 0 4 7 0 4 none,.je]),[some { box:=false,esz:=7,rows:=z5 [a,b,c,d],gen:=4,fz:=false,ver:=4 }]):=by
 have a1:=z2C ha.1;have a2:a.jy.length*8<=140737488355328:=by omega
 have b1:=z2C hb.1;have b2:b.jy.length*8<=140737488355328:=by omega
 have c1:=z2C hc.1;have c2:c.jy.length*8<=140737488355328:=by omega
 have d1:=z2C hd.1;have d2:d.jy.length*8<=140737488355328:=by omega
 have w1:IntKind.i64.wrap 1=1:=rfl;have w2:IntKind.i64.wrap 2=2:=rfl;have w3:IntKind.i64.wrap 3=3:=rfl;have w4:IntKind.i64.wrap 4=4:=rfl;rw[zUa z2D rfl];simp[z2v,snC,agC,zg,z5,z2H];rw[zj z7C.eq_1];simp[zX,zg,agC,a1,a2,b1,b2,c1,c2,d1,d2,w1,w2,w3,w4,zH];rw[zj z7C.eq_1];simp[zX,zg,agC,a1,a2,b1,b2,c1,c2,d1,d2,w1,w2,w3,w4,zH];rw[zj z7C.eq_1];simp[zX,zg,agC,a1,a2,b1,b2,c1,c2,d1,d2,w1,w2,w3,w4,zH];rw[zj z7C.eq_1];simp[zX,zg,agC,a1,a2,b1,b2,c1,c2,d1,d2,w1,w2,w3,w4,zH];rw[zj z7C.eq_1];simp[zX,zg,agC,a1,a2,b1,b2,c1,c2,d1,d2,w1,w2,w3,w4,zH]
theorem copy5(a b c d e:AgV)(ha:a.jy≠[]/\a.jy.length<=8)(hb:b.jy≠[]/\b.jy.length<=8)(hc:c.jy≠[]/\c.jy.length<=8)(hd:d.jy≠[]/\d.jy.length<=8)(he:e.jy≠[]/\e.jy.length<=8):R L Cs z2u [.a [I 0,.jc (z5 [a,b,c,d,e]),.jc []]] []=some (.w (.a [I 0,.slice 0 5 7 0 5 none,.je]),[some { box:=false,esz:=7,rows:=z5 [a,b,c,d,e],gen:=5,fz:=false,ver:=5 }]):=by
 have a1:=z2C ha.1;have a2:a.jy.length*8<=140737488355328:=by omega
 have b1:=z2C hb.1;have b2:b.jy.length*8<=140737488355328:=by omega
 have c1:=z2C hc.1;have c2:c.jy.length*8<=140737488355328:=by omega
 have d1:=z2C hd.1;have d2:d.jy.length*8<=140737488355328:=by omega
 have e1:=z2C he.1;have e2:e.jy.length*8<=140737488355328:=by omega
 have w1:IntKind.i64.wrap 1=1:=rfl;have w2:IntKind.i64.wrap 2=2:=rfl;have w3:IntKind.i64.wrap 3=3:=rfl;have w4:IntKind.i64.wrap 4=4:=rfl;have w5:IntKind.i64.wrap 5=5:=rfl;rw[zUa z2D rfl];simp[z2v,snC,agC,zg,z5,z2H];rw[zj z7C.eq_1];simp[zX,zg,agC,a1,a2,b1,b2,c1,c2,d1,d2,e1,e2,w1,w2,w3,w4,w5,zH];rw[zj z7C.eq_1];simp[zX,zg,agC,a1,a2,b1,b2,c1,c2,d1,d2,e1,e2,w1,w2,w3,w4,w5,zH];rw[zj z7C.eq_1];simp[zX,zg,agC,a1,a2,b1,b2,c1,c2,d1,d2,e1,e2,w1,w2,w3,w4,w5,zH];rw[zj z7C.eq_1];simp[zX,zg,agC,a1,a2,b1,b2,c1,c2,d1,d2,e1,e2,w1,w2,w3,w4,w5,zH];rw[zj z7C.eq_1];simp[zX,zg,agC,a1,a2,b1,b2,c1,c2,d1,d2,e1,e2,w1,w2,w3,w4,w5,zH];rw[zj z7C.eq_1];simp[zX,zg,agC,a1,a2,b1,b2,c1,c2,d1,d2,e1,e2,w1,w2,w3,w4,w5,zH]
theorem copy6(a b c d e f:AgV)(ha:a.jy≠[]/\a.jy.length<=8)(hb:b.jy≠[]/\b.jy.length<=8)(hc:c.jy≠[]/\c.jy.length<=8)(hd:d.jy≠[]/\d.jy.length<=8)(he:e.jy≠[]/\e.jy.length<=8)(hf:f.jy≠[]/\f.jy.length<=8):R L Cs z2u [.a [I 0,.jc (z5 [a,b,c,d,e,f]),.jc []]] []=some (.w (.a [I 0,.slice 0 6 7 0 6 none,.je]),[some { box:=false,esz:=7,rows:=z5 [a,b,c,d,e,f],gen:=6,fz:=false,ver:=6 }]):=by
 have a1:=z2C ha.1;have a2:a.jy.length*8<=140737488355328:=by omega
 have b1:=z2C hb.1;have b2:b.jy.length*8<=140737488355328:=by omega
 have c1:=z2C hc.1;have c2:c.jy.length*8<=140737488355328:=by omega
 have d1:=z2C hd.1;have d2:d.jy.length*8<=140737488355328:=by omega
 have e1:=z2C he.1;have e2:e.jy.length*8<=140737488355328:=by omega
 have f1:=z2C hf.1;have f2:f.jy.length*8<=140737488355328:=by omega
 have w1:IntKind.i64.wrap 1=1:=rfl;have w2:IntKind.i64.wrap 2=2:=rfl;have w3:IntKind.i64.wrap 3=3:=rfl;have w4:IntKind.i64.wrap 4=4:=rfl;have w5:IntKind.i64.wrap 5=5:=rfl;have w6:IntKind.i64.wrap 6=6:=rfl;rw[zUa z2D rfl];simp[z2v,snC,agC,zg,z5,z2H];rw[zj z7C.eq_1];simp[zX,zg,agC,a1,a2,b1,b2,c1,c2,d1,d2,e1,e2,f1,f2,w1,w2,w3,w4,w5,w6,zH];rw[zj z7C.eq_1];simp[zX,zg,agC,a1,a2,b1,b2,c1,c2,d1,d2,e1,e2,f1,f2,w1,w2,w3,w4,w5,w6,zH];rw[zj z7C.eq_1];simp[zX,zg,agC,a1,a2,b1,b2,c1,c2,d1,d2,e1,e2,f1,f2,w1,w2,w3,w4,w5,w6,zH];rw[zj z7C.eq_1];simp[zX,zg,agC,a1,a2,b1,b2,c1,c2,d1,d2,e1,e2,f1,f2,w1,w2,w3,w4,w5,w6,zH];rw[zj z7C.eq_1];simp[zX,zg,agC,a1,a2,b1,b2,c1,c2,d1,d2,e1,e2,f1,f2,w1,w2,w3,w4,w5,w6,zH];rw[zj z7C.eq_1];simp[zX,zg,agC,a1,a2,b1,b2,c1,c2,d1,d2,e1,e2,f1,f2,w1,w2,w3,w4,w5,w6,zH];rw[zj z7C.eq_1];simp[zX,zg,agC,a1,a2,b1,b2,c1,c2,d1,d2,e1,e2,f1,f2,w1,w2,w3,w4,w5,w6,zH]
theorem copy7(a b c d e f g:AgV)(ha:a.jy≠[]/\a.jy.length<=8)(hb:b.jy≠[]/\b.jy.length<=8)(hc:c.jy≠[]/\c.jy.length<=8)(hd:d.jy≠[]/\d.jy.length<=8)(he:e.jy≠[]/\e.jy.length<=8)(hf:f.jy≠[]/\f.jy.length<=8)(hg:g.jy≠[]/\g.jy.length<=8):R L Cs z2u [.a [I 0,.jc (z5 [a,b,c,d,e,f,g]),.jc []]] []=some (.w (.a [I 0,.slice 0 7 7 0 7 none,.je]),[some { box:=false,esz:=7,rows:=z5 [a,b,c,d,e,f,g],gen:=7,fz:=false,ver:=7 }]):=by
 have a1:=z2C ha.1;have a2:a.jy.length*8<=140737488355328:=by omega
 have b1:=z2C hb.1;have b2:b.jy.length*8<=140737488355328:=by omega
 have c1:=z2C hc.1;have c2:c.jy.length*8<=140737488355328:=by omega
 have d1:=z2C hd.1;have d2:d.jy.length*8<=140737488355328:=by omega
 have e1:=z2C he.1;have e2:e.jy.length*8<=140737488355328:=by omega
 have f1:=z2C hf.1;have f2:f.jy.length*8<=140737488355328:=by omega
 have g1:=z2C hg.1;have g2:g.jy.length*8<=140737488355328:=by omega
 have w1:IntKind.i64.wrap 1=1:=rfl;have w2:IntKind.i64.wrap 2=2:=rfl;have w3:IntKind.i64.wrap 3=3:=rfl;have w4:IntKind.i64.wrap 4=4:=rfl;have w5:IntKind.i64.wrap 5=5:=rfl;have w6:IntKind.i64.wrap 6=6:=rfl;have w7:IntKind.i64.wrap 7=7:=rfl;rw[zUa z2D rfl];simp[z2v,snC,agC,zg,z5,z2H];rw[zj z7C.eq_1];simp[zX,zg,agC,a1,a2,b1,b2,c1,c2,d1,d2,e1,e2,f1,f2,g1,g2,w1,w2,w3,w4,w5,w6,w7,zH];rw[zj z7C.eq_1];simp[zX,zg,agC,a1,a2,b1,b2,c1,c2,d1,d2,e1,e2,f1,f2,g1,g2,w1,w2,w3,w4,w5,w6,w7,zH];rw[zj z7C.eq_1];simp[zX,zg,agC,a1,a2,b1,b2,c1,c2,d1,d2,e1,e2,f1,f2,g1,g2,w1,w2,w3,w4,w5,w6,w7,zH];rw[zj z7C.eq_1];simp[zX,zg,agC,a1,a2,b1,b2,c1,c2,d1,d2,e1,e2,f1,f2,g1,g2,w1,w2,w3,w4,w5,w6,w7,zH];rw[zj z7C.eq_1];simp[zX,zg,agC,a1,a2,b1,b2,c1,c2,d1,d2,e1,e2,f1,f2,g1,g2,w1,w2,w3,w4,w5,w6,w7,zH];rw[zj z7C.eq_1];simp[zX,zg,agC,a1,a2,b1,b2,c1,c2,d1,d2,e1,e2,f1,f2,g1,g2,w1,w2,w3,w4,w5,w6,w7,zH];rw[zj z7C.eq_1];simp[zX,zg,agC,a1,a2,b1,b2,c1,c2,d1,d2,e1,e2,f1,f2,g1,g2,w1,w2,w3,w4,w5,w6,w7,zH];rw[zj z7C.eq_1];simp[zX,zg,agC,a1,a2,b1,b2,c1,c2,d1,d2,e1,e2,f1,f2,g1,g2,w1,w2,w3,w4,w5,w6,w7,zH]
def z32(l:List z45):List (List Cl):=l.map z3N
@[simp] theorem z7n(l:List z45):(z32 l).length=l.length:=by simp[z32]
@[simp] theorem z6D{l:List z45}{i:Nat}(h:i<(z32 l).length):(z32 l)[i]=z3N (l[i]'(by simpa using h)):=by simp[z32]
@[simp] theorem z7t(a:z45):(z3N a).length=6:=rfl
@[simp] theorem z66(l:List AgV):(∀x,x∈z5 l->x.length=7)<->True:=by simp[z5]
def z3C:List Cl:=[I 0,.jc [],.jc []]
def z6t(m:zD):Prop:=∀l:List AgV,0<l.length->l.length<=7->(∀a∈l,KAg m a)->(∀h:0<l.length,l[0].start=0)->∃(e:Int) (ins:List z2T),ins.length<=1000/\(z31 m ⟨0,l,[]⟩=0->l.length=1->e=0)/\R L Cs z3v [.a (zf m),.c (.jc (z5 l))] []=some (.t [.a (if e=0 then snC ⟨0,l,ins⟩ else z3C),W e],[])
def agW(l:List AgV):Cl:=if l=[] then .slice 2 0 7 0 0 none else .jc (z5 l)
abbrev scM(m:zD)(v:Nat)(st:List Cl):Mem:=[bx 5 (zf m),bx 3 [I 0,.je,.je],gb 7,bxv v 3 st]
abbrev scE(q:List z45)(l:List AgV)(i:Nat):Env:=[(5,.w (.c (agW l))),(8,.w (W i)),(4,.w (Pt 1)),(1,.w (.c (.jc (z32 q)))),(2,.w (Pt 0)),(6,.w (Pt 3))]
def z6u(m:zD)(l:List AgV)(st:List Cl):Prop:=(∃A B:List (List Cl),st=[I 0,.jc A,.jc B])/\(∀a∈l,KAg m a)/\(∀h:0<l.length,l[0].start=0)/\(l≠[]->∃ins:List z2T,ins.length<=1000/\st=snC ⟨0,l,ins⟩)
theorem z6A{m:zD}{zs:List Zon}{ss:List Sgn}(hF:z7y m zs ss)(hN:z6t m)(q:List z45)(hq:q.length<=7)(v:Nat)(st:List Cl)(hst:z6u m [] st)(i:Nat)(hi:i<q.length):∃(l:List AgV) (v':Nat) (st':List Cl),l.length<=i+1/\z6u m l st'/\Y L Cs z2s (some [5,8,4,1,2,6]) 4 (scE q [] i) (scM m v st)=Y L Cs z2s (some [5,8,4,1,2,6]) 4 (scE q l (i+1)) (scM m v' st'):=by
 have hw:=zB (i:=i) (by omega);obtain⟨a,ha,h0,_,hA⟩:=z5h hF q[i] true;obtain⟨e,ins,AB,_,hNw⟩:=hN [a] (by simp) (by simp) (by simpa using ha) (by intro _;exact h0 rfl);have hci:(i:Int)<q.length:=by omega
 obtain⟨A,B,rfl⟩:=hst.1;simp only[zf,z3N,agC,z5,ki,qK]at hA hNw;by_cases c:e=0
 ·refine⟨[a],v+1,snC ⟨0,[a],ins⟩,by simp,⟨⟨_,_,rfl⟩,by simpa using ha,by intro _;exact h0 rfl,fun _=>⟨ins,AB,rfl⟩⟩,?_⟩;subst c;rw[if_pos rfl]at hNw;rw[zj z2s.eq_1];simp only[snC,z5,ki,qK,agC]at hNw;simp[scE,scM,agW,z3C,zf,z3N,agC,hi,hci,hw,hA,hNw,zg,zH,zX,snC,z5]
 ·refine⟨[],v,_,by simp,hst,?_⟩;have cb:(e==0)=false:=by simp[c]
  rw[if_neg c]at hNw;rw[zj z2s.eq_1];simp only[z3C]at hNw;simp[scE,scM,agW,z3C,zf,z3N,agC,hi,hci,hw,hA,hNw,c,cb,zg,zH,zX]
theorem z64{m:zD}{zs:List Zon}{ss:List Sgn}(hF:z7y m zs ss)(hN:z6t m)(q:List z45)(hq:q.length<=7)(v:Nat)(st:List Cl)(l:List AgV)(hl:l≠[])(hst:z6u m l st)(i:Nat)(hi:i<q.length)(hli:l.length<=i):∃(l':List AgV) (v':Nat) (st':List Cl),l'.length<=i+1/\z6u m l' st'/\Y L Cs z2s (some [5,8,4,1,2,6]) 4 (scE q l i) (scM m v st)=Y L Cs z2s (some [5,8,4,1,2,6]) 4 (scE q l' (i+1)) (scM m v' st'):=by
 have hw:=zB (i:=i) (by omega);have hp:0<l.length:=ke.2 hl;obtain⟨a,ha,h0,_,hA⟩:=z5h hF q[i] false;have uj:∀x∈l++[a],KAg m x:=by
  intro x hx;rcases jm.1 hx with hx|hx
  ·exact hst.2.1 x hx
  ·simp at hx;rw[hx];exact ha
 have hfst:∀h:0<(l++[a]).length,(l++[a])[0].start=0:=by
  intro h;rw[List.getElem_append_left hp];exact hst.2.2.1 hp
 obtain⟨e,ins,AB,_,hNw⟩:=hN (l++[a]) (by simp) (by simp;omega) uj hfst;have hci:(i:Int)<q.length:=by omega
 obtain⟨A,B,rfl⟩:=hst.1;have l8:l.length<8:=by omega
 have l8':(l.length:Int)<8:=by omega
 have l0:((l.length:Int)==0)=false:=beq_false_of_ne (by omega);have lr:z5 l≠[]:=by simpa [z5]using hl
 have room1:l.length*64<=140737488355328:=by omega
 have room2:(l.length+1)*64<=140737488355328:=by omega
 have tk:(z5 l).take l.length=z5 l:=jF (by simp);have tk2:∀r:List Cl,List.take (l.length+1) (z5 l++[r])=z5 l++[r]:=fun r=>jF (by simp)
 have ra:z5 (l++[a])=z5 l++[agC a]:=by simp[z5]
 have lne:l++[a]≠[]:=by simp
 simp only[zf,z3N]at hA hNw;by_cases c:e=0
 ·refine⟨l++[a],v+1,snC ⟨0,l++[a],ins⟩,by simp;omega,⟨⟨_,_,rfl⟩,uj,hfst,fun _=>⟨ins,AB,rfl⟩⟩,?_⟩;subst c;rw[if_pos rfl]at hNw;rw[zj z2s.eq_1];simp only[snC,ra,agC]at hNw hA;simp[scE,scM,agW,hl,lr,z3C,zf,z3N,agC,hi,hci,hw,hA,hNw,l8,l8',l0,room1,room2,tk,tk2,zg,zH,zX,snC,ra]
 ·refine⟨l,v,_,by omega,hst,?_⟩;have cb:(e==0)=false:=by simp[c]
  rw[if_neg c]at hNw;rw[zj z2s.eq_1];simp only[z3C,ra,agC]at hNw hA;simp[scE,scM,agW,hl,lr,z3C,zf,z3N,agC,hi,hci,hw,hA,hNw,c,cb,l8,l8',l0,room1,room2,tk,tk2,zg,zH,zX]
theorem z65{m:zD}{zs:List Zon}{ss:List Sgn}(hF:z7y m zs ss)(hN:z6t m)(q:List z45)(hq:q.length<=7):∀(f i v:Nat) (st:List Cl) (l:List AgV),i+f=q.length->l.length<=i->z6u m l st->∃(l':List AgV) (v':Nat) (st':List Cl) (b:Bool),l'.length<=7/\z6u m l' st'/\Y L Cs z2s (some [5,8,4,1,2,6]) 4 (scE q l i) (scM m v st)=some (.exit 0,[(25,.w (Bo b)),(5,.w (.c (agW l'))),(8,.w (W q.length)),(4,.w (Pt 1)),(1,.w (.c (.jc (z32 q)))),(2,.w (Pt 0)),(6,.w (Pt 3))],scM m v' st'):=by
 intro f;induction f with
 |zero =>
  intro i v st l hi hl hst;obtain rfl:i=q.length:=by omega
  refine⟨l,v,st,false,by omega,hst,?_⟩;obtain⟨A,B,rfl⟩:=hst.1;rw[zj z2s.eq_1];by_cases c:l=[]<;>simp[scE,scM,agW,c,zf,z3C]
 |succ f ih =>
  intro i v st l hi hl hst;by_cases c:l=[]
  ·subst c;obtain⟨l2,v2,st2,h1,h2,h3⟩:=z6A hF hN q hq v st hst i (by omega);rw[h3];exact ih (i+1) v2 st2 l2 (by omega) h1 h2
  ·obtain⟨l2,v2,st2,h1,h2,h3⟩:=z64 hF hN q hq v st l c hst i (by omega) hl;rw[h3];exact ih (i+1) v2 st2 l2 (by omega) h1 h2
end Go.TrRun
