/- This text proves what functions of this seat's program answer, run by the evaluator; no condition. -/
import Derived.Test.YtammkplkmigccaaGreatXTx2
set_option maxHeartbeats 8000000
set_option linter.unusedVariables false
set_option linter.unusedSimpArgs false
set_option linter.unusedSectionVars false
set_option maxRecDepth 10000
namespace Go.TrRun
open Go Go.Eng
abbrev z7j:List Cl:=[I 0,.je,.je]
abbrev z4M(fz:Bool)(va:Nat)(l:List AgV):Option Blk:=some { box:=false,esz:=7,rows:=z5 l,gen:=l.length,fz:=fz,ver:=va }
abbrev z4w(fz:Bool)(vb:Nat)(s:List z2T):Option Blk:=some { box:=false,esz:=4,rows:=z2H s,gen:=s.length,fz:=fz,ver:=vb }
abbrev z4k(y:z2T):Option Blk:=some { box:=false,esz:=4,rows:=[z29 y],gen:=1,fz:=false,ver:=1 }
def nwT(q:Nat)(fz:Bool)(vb:Nat)(x y:z2T)(s:List z2T):Mem:=if q=0 then [] else if q=1 then [z4k x,z4w fz vb s] else [z4k x,z4w fz vb s,z4k y]
def nwI(q:Nat)(s:List z2T):Cl:=if q=0 then .je else .slice 5 s.length 4 0 s.length none
abbrev nwM(m:zD)(l:List AgV)(v q:Nat)(fz:Bool)(va vb:Nat)(x y:z2T)(s:List z2T):Mem:=bx 5 (zf m)::bx 3 z7j::bxv v 3 [I 0,.slice 3 l.length 7 0 l.length none,nwI q s]::z4M fz va l::nwT q fz vb x y s
abbrev z49(l:List AgV)(i z:Nat):Env:=[(10,.w (W z)),(4,.w (Pt 1)),(1,.w (.c (.jc (z5 l)))),(9,.w (W i)),(2,.w (Pt 0)),(6,.w (Pt 2))]
theorem z63(l:List AgV):(z5 l).take l.length=z5 l:=jF (by simp)
theorem z62(l:List z2T):(z2H l).take l.length=z2H l:=jF (by simp)
theorem z5U(l:List z2T)(a:z2T):z2H (l++[a])=z2H l++[z29 a]:=by simp[z2H]
def z46:z2T:=⟨0,0,0,0⟩
structure NwC(m:zD)(l:List AgV):Prop where
 there:∀(s:List z2T) (i:Nat) (hi:i<l.length),R L Cs z3I [.a [I 0,.jc (z5 l),.jc (z2H s)],W i] []=some (.w (Bo (decide ((l[i]'hi).start<=0))),[])
 pres:∀(i:Nat) (hi:i<l.length) (z:Nat),z<m.k9.length->∃b,R L Cs z3B [.a (zf m),.a (agC (l[i]'hi)),.a (agC (l[i]'hi)),W z] []=some (.w (Bo b),[])
 v6:∀(i:Nat) (hi:i<l.length) (z:Nat),z<m.k9.length->∃r,R L Cs z3M [.a (zf m),.a (agC (l[i]'hi)),W z,W 0] []=some (.w (W r),[])
 touch:∀(i j:Nat) (hi:i<l.length) (hj:j<l.length),∃b,R L Cs z3y [.a (zf m),.a (agC (l[i]'hi)),.a (agC (l[j]'hj))] []=some (.w (Bo b),[])
 k9:∀(s:List z2T) (i j:Nat) (hi:i<l.length) (hj:j<l.length),s.length<=1000->∃out:List Int,R L Cs z3H [.a (zf m),.a [I 0,.jc (z5 l),.jc (z2H s)],.a [I 0,.jc (z5 l),.jc (z2H s)],W i,W j] []=some (.w (.c (.jc (zu out))),[])
 gone:∀(i:Nat) (hi:i<l.length),(l[i]'hi).gone=false
 few:l.length<=7
 zn2:m.k9.length<=2
def NwI(q n0 z:Nat)(s:List z2T):Prop:=q=0/\n0=4/\s=[]\/q=1/\n0=4/\1<=z/\s≠[]\/q=2/\n0=4/\2<=z/\s≠[]\/q=1/\n0=6/\s≠[]\/q=2/\n0=7/\s≠[]
theorem z5X{m:zD}{l:List AgV}(h:NwC m l)(i:Nat)(hi:i<l.length)(z v q n0 va vb:Nat)(x y:z2T)(s:List z2T)(hq:NwI q n0 z s)(hz:z=m.k9.length\/z<m.k9.length/\¬(l[i]'hi).start<=0):∃b,
  Y L Cs z7 (some [10,4,1,9,2,6]) n0 (z49 l i z) (nwM m l v q false va vb x y s)=some (.exit 4,[(50,.w (Bo b)),(10,.w (W z)),(4,.w (Pt 1)),(1,.w (.c (.jc (z5 l)))),(9,.w (W i)),(2,.w (Pt 0)),(6,.w (Pt 2))],nwM m l v q false va vb x y s):=by
 have hT:=h.there s i hi;have tk:=z63 l;have tk2:=z62 s;refine⟨false,?_⟩;rcases hz with hz |⟨hz,hs⟩
 ·subst hz;rw[zj z7.eq_1];rcases hq with⟨rfl,rfl,rfl⟩ |⟨rfl,rfl,_,hs⟩ |⟨rfl,rfl,_,hs⟩ |⟨rfl,rfl,hs⟩ |⟨rfl,rfl,hs⟩<;>simp[zf,nwT,nwI]
 ·rw[decide_eq_false hs]at hT;have hcz:(z:Int)<m.k9.length:=by omega
  rw[zj z7.eq_1];rcases hq with⟨rfl,rfl,rfl⟩ |⟨rfl,rfl,_,hs⟩ |⟨rfl,rfl,_,hs⟩ |⟨rfl,rfl,hs⟩ |⟨rfl,rfl,hs⟩<;>first |(simp[zf,nwT,nwI,hz,hcz,hT,tk,tk2,zX,zg];done) |(simp[z2H]at hT;simp[zf,nwT,nwI,hz,hcz,hT,tk,tk2,zX,zg];done)|skip
theorem z6O{m:zD}{l:List AgV}(h:NwC m l)(i:Nat)(hi:i<l.length)(z v q n0 va vb:Nat)(x y:z2T)(s:List z2T)(hl:s.length<=1000)(hb:q≠0->vb=s.length)(hq:NwI q n0 z s)(hz:z<m.k9.length)(hs:(l[i]'hi).start<=0):∃(v' q' vb':Nat) (x' y':z2T) (s':List z2T),s'.length<=s.length+1/\(q'≠0->vb'=s'.length)/\NwI q' n0 (z+1) s' /\
  Y L Cs z7 (some [10,4,1,9,2,6]) n0 (z49 l i z) (nwM m l v q false va vb x y s)=Y L Cs z7 (some [10,4,1,9,2,6]) n0 (z49 l i (z+1)) (nwM m l v' q' false va vb' x' y' s'):=by
 have hT:=h.there s i hi;rw[decide_eq_true hs]at hT;obtain⟨p,hP⟩:=h.pres i hi z hz;obtain⟨r,hR⟩:=h.v6 i hi z hz;have htwo:=h.zn2;have qL:=h.few;have tk:=z63 l;have tk2:=z62 s;have hcz:(z:Int)<m.k9.length:=by omega
 have hci:(i:Int)<l.length:=by omega
 have hw:=zB (i:=z) (by omega);have hro:(s.length+1)*32<=140737488355328:=by omega
 have hsn:=z5U s ⟨i,z,0,r⟩;simp only[zf,agC]at hP hR;cases p with
 |false =>
  refine⟨v,q,vb,x,y,s,by omega,hb,?_,?_⟩
  ·rcases hq with⟨rfl,rfl,rfl⟩ |⟨rfl,rfl,_,hs⟩ |⟨rfl,rfl,_,hs⟩ |⟨rfl,rfl,hs⟩ |⟨rfl,rfl,hs⟩<;>simp[*,NwI]<;>omega
  rw[zj z7.eq_1];rcases hq with⟨rfl,rfl,rfl⟩ |⟨rfl,rfl,_,hs⟩ |⟨rfl,rfl,_,hs⟩ |⟨rfl,rfl,hs⟩ |⟨rfl,rfl,hs⟩<;>first |(simp[z49,nwM,zf,agC,nwT,nwI,hi,hci,hz,hcz,hw,hT,hP,tk,tk2,zX,zg,zH];done) |(simp[z2H]at hT;simp[z49,nwM,zf,agC,nwT,nwI,hi,hci,hz,hcz,hw,hT,hP,tk,tk2,zX,zg,zH];done)|skip
 |true =>
  rcases hq with⟨rfl,rfl,rfl⟩ |⟨rfl,rfl,hz1,hs⟩ |⟨rfl,rfl,hz2,hs⟩ |⟨rfl,rfl,hs⟩ |⟨rfl,rfl,hs⟩
  ·refine⟨v+1,1,1,⟨i,z,0,r⟩,y,[⟨i,z,0,r⟩],by simp,by simp,by simp[NwI],?_⟩;simp[z2H]at hT;rw[zj z7.eq_1];simp[z49,nwM,z4k,z4w,jt,zf,agC,z29,z2H,nwT,nwI,hi,hci,hz,hcz,hw,hT,hP,hR,tk,tk2,zX,zg,zH]
  ·obtain rfl:=hb (by omega);refine⟨v+1,2,s.length+1,x,⟨i,z,0,r⟩,s++[⟨i,z,0,r⟩],by simp,by simp,?_,?_⟩
   ·right;right;left;exact⟨rfl,rfl,by omega,by simp⟩
   rw[zj z7.eq_1];simp[z49,nwM,z4k,z4w,jt,zf,agC,z29,nwT,nwI,hi,hci,hz,hcz,hw,hT,hP,hR,hro,hsn,tk,tk2,zX,zg,zH]
  ·omega
  ·obtain rfl:=hb (by omega);refine⟨v+1,1,s.length+1,x,y,s++[⟨i,z,0,r⟩],by simp,by simp,?_,?_⟩
   ·right;right;right;left;exact⟨rfl,rfl,by simp⟩
   rw[zj z7.eq_1];simp[z49,nwM,z4k,z4w,jt,zf,agC,z29,nwT,nwI,hi,hci,hz,hcz,hw,hT,hP,hR,hro,hsn,tk,tk2,zX,zg,zH]
  ·obtain rfl:=hb (by omega);refine⟨v+1,2,s.length+1,x,y,s++[⟨i,z,0,r⟩],by simp,by simp,?_,?_⟩
   ·right;right;right;right;exact⟨rfl,rfl,by simp⟩
   rw[zj z7.eq_1];simp[z49,nwM,z4k,z4w,jt,zf,agC,z29,nwT,nwI,hi,hci,hz,hcz,hw,hT,hP,hR,hro,hsn,tk,tk2,zX,zg,zH]
theorem z6P{m:zD}{l:List AgV}(h:NwC m l)(i:Nat)(hi:i<l.length)(n0 va:Nat):∀(f z v q vb:Nat) (x y:z2T) (s:List z2T),z+f=m.k9.length->s.length+f<=1000->(q≠0->vb=s.length)->NwI q n0 z s->∃(b:Bool) (z' v' q' vb':Nat) (x' y':z2T) (s':List z2T),s'.length<=s.length+f/\(q'≠0->vb'=s'.length)/\NwI q' n0 z' s' /\
  Y L Cs z7 (some [10,4,1,9,2,6]) n0 (z49 l i z) (nwM m l v q false va vb x y s)=some (.exit 4,[(50,.w (Bo b)),(10,.w (W z')),(4,.w (Pt 1)),(1,.w (.c (.jc (z5 l)))),(9,.w (W i)),(2,.w (Pt 0)),(6,.w (Pt 2))],nwM m l v' q' false va vb' x' y' s'):=by
 intro f;induction f with
 |zero =>
  intro z v q vb x y s hz _ hb hq;obtain⟨b,e⟩:=z5X h i hi z v q n0 va vb x y s hq (.inl (by omega));exact⟨b,z,v,q,vb,x,y,s,by omega,hb,hq,e⟩
 |succ f ih =>
  intro z v q vb x y s hz hl hb hq;by_cases hs:(l[i]'hi).start<=0
  ·obtain⟨v1,q1,vb1,x1,y1,s1,h1,h2,h3,h4⟩:=z6O h i hi z v q n0 va vb x y s (by omega) hb hq (by omega) hs;obtain⟨b,z2,v2,q2,vb2,x2,y2,s2,g1,g2,g3,g4⟩:=ih (z+1) v1 q1 vb1 x1 y1 s1 (by omega) (by omega) h2 h3;exact⟨b,z2,v2,q2,vb2,x2,y2,s2,by omega,g2,g3,h4.trans g4⟩
  ·obtain⟨b,e⟩:=z5X h i hi z v q n0 va vb x y s hq (.inr ⟨by omega,hs⟩);exact⟨b,z,v,q,vb,x,y,s,by omega,hb,hq,e⟩
def NwJ(q:Nat)(s:List z2T):Prop:=q=0/\s=[]\/q=1/\s≠[]\/q=2/\s≠[]
theorem NwI.j{q n0 z:Nat}{s:List z2T}(h:NwI q n0 z s):NwJ q s:=by
 rcases h with⟨h1,_,h2⟩ |⟨h1,_,_,h2⟩ |⟨h1,_,_,h2⟩ |⟨h1,_,h2⟩ |⟨h1,_,h2⟩<;>simp[NwJ,h1,h2]
abbrev z5W(l:List AgV)(i:Nat):Env:=[(4,.w (Pt 1)),(1,.w (.c (.jc (z5 l)))),(9,.w (W i)),(2,.w (Pt 0)),(6,.w (Pt 2))]
theorem z6M{m:zD}{l:List AgV}(h:NwC m l)(i:Nat)(hi:i<l.length)(va v q vb:Nat)(x y:z2T)(s:List z2T)(hl:s.length+2<=1000)(hb:q≠0->vb=s.length)(hq:NwJ q s):∃(v' q' vb':Nat) (x' y':z2T) (s':List z2T),s'.length<=s.length+2/\(q'≠0->vb'=s'.length)/\NwJ q' s' /\
  Y L Cs z2M (some [4,1,9,2,6]) 4 (z5W l i) (nwM m l v q false va vb x y s)=Y L Cs z2M (some [4,1,9,2,6]) 4 (z5W l (i+1)) (nwM m l v' q' false va vb' x' y' s'):=by
 have htwo:=h.zn2;have qL:=h.few;have hci:(i:Int)<l.length:=by omega
 have hw:=zB (i:=i) (by omega);obtain⟨n0,hn0,hI⟩:∃n0,n0=(nwM m l v q false va vb x y s).length/\NwI q n0 0 s:=by
  rcases hq with⟨rfl,rfl⟩ |⟨rfl,hs⟩ |⟨rfl,hs⟩
  ·exact⟨4,by simp[nwT],by simp[NwI]⟩
  ·exact⟨6,by simp[nwT],by simp[NwI,hs]⟩
  ·exact⟨7,by simp[nwT],by simp[NwI,hs]⟩
 obtain⟨b,z2,v2,q2,vb2,x2,y2,s2,g1,g2,g3,g4⟩:=z6P h i hi n0 va m.k9.length 0 v q vb x y s (by omega) (by omega) hb hI;refine⟨v2,q2,vb2,x2,y2,s2,by omega,g2,g3.j,?_⟩;rw[zj z2M.eq_1];rcases hq with⟨rfl,rfl⟩ |⟨rfl,hs⟩ |⟨rfl,hs⟩<;>rcases g3.j with⟨rfl,rfl⟩ |⟨rfl,hs2⟩ |⟨rfl,hs2⟩<;>simp[z49,nwM,nwT,nwI]at hn0 g4<;>subst hn0<;>simp[z5W,nwM,nwT,nwI,hi,hci,hw,g4,zH]
theorem z6N{m:zD}{l:List AgV}(h:NwC m l)(va:Nat):∀(f i v q vb:Nat) (x y:z2T) (s:List z2T),i+f=l.length->s.length+2*f<=1000->(q≠0->vb=s.length)->NwJ q s->∃(v' q' vb':Nat) (x' y':z2T) (s':List z2T),s'.length<=s.length+2*f/\(q'≠0->vb'=s'.length)/\NwJ q' s' /\
  Y L Cs z2M (some [4,1,9,2,6]) 4 (z5W l i) (nwM m l v q false va vb x y s)=some (.exit 2,(38,.w (Bo false))::z5W l l.length,nwM m l v' q' false va vb' x' y' s'):=by
 intro f;induction f with
 |zero =>
  intro i v q vb x y s hi _ hb hq;obtain rfl:i=l.length:=by omega
  refine⟨v,q,vb,x,y,s,by omega,hb,hq,?_⟩;rw[zj z2M.eq_1];rcases hq with⟨rfl,rfl⟩ |⟨rfl,hs⟩ |⟨rfl,hs⟩<;>simp[z5W,nwM,nwT,nwI]
 |succ f ih =>
  intro i v q vb x y s hi hl hb hq;obtain⟨v1,q1,vb1,x1,y1,s1,h1,h2,h3,h4⟩:=z6M h i (by omega) va v q vb x y s (by omega) hb hq;obtain⟨v2,q2,vb2,x2,y2,s2,g1,g2,g3,g4⟩:=ih (i+1) v1 q1 vb1 x1 y1 s1 (by omega) (by omega) h2 h3;exact⟨v2,q2,vb2,x2,y2,s2,by omega,g2,g3,h4.trans g4⟩
theorem z6Q{m:zD}{l:List AgV}(h:NwC m l)(M:Mem)(hM:M.length=4):∀(f i:Nat),i+f=l.length ->
  Y L Cs z28 (some [6,2,1,8,4]) 4 [(6,.w (Pt 2)),(2,.w (Pt 0)),(1,.w (.c (.jc (z5 l)))),(8,.w (W i)),(4,.w (Pt 1))] M=some (.exit 0,[(26,.w (Bo false)),(1,.w (.c (.jc (z5 l)))),(2,.w (Pt 0)),(6,.w (Pt 2)),(8,.w (W l.length)),(4,.w (Pt 1))],M):=by
 have qL:=h.few;intro f;induction f with
 |zero =>
  intro i hi;obtain rfl:i=l.length:=by omega
  rw[zj z28.eq_1];simp
 |succ f ih =>
  intro i hi;have hil:i<l.length:=by omega
  have hci:(i:Int)<l.length:=by omega
  have hw:=zB (i:=i) (by omega);have hg:=h.gone i hil;rw[<-ih (i+1) (by omega),zj z28.eq_1];simp[agC,hil,hci,hg,hw,hM]
abbrev z4a(l:List AgV)(i j:Nat):Env:=[(12,.w (W j)),(4,.w (Pt 1)),(6,.w (Pt 2)),(2,.w (Pt 0)),(11,.w (W i)),(1,.w (.c (.jc (z5 l))))]
abbrev nwR(m:zD)(l:List AgV)(v q:Nat)(fz:Bool)(va vb:Nat)(x y:z2T)(s:List z2T):Mem:=bx 5 (zf m)::bxv 1 3 z7j::bxv v 3 [I 0,.slice 3 l.length 7 0 l.length none,nwI q s]::z4M fz va l::nwT q fz vb x y s
theorem z6K{m:zD}{l:List AgV}(h:NwC m l)(i j:Nat)(hi:i<l.length)(hj:j<l.length)(fz:Bool)(va v q vb n0:Nat)(x y:z2T)(s:List z2T)(hl:s.length<=1000)(hq:NwJ q s)(hn:n0=(nwM m l v q fz va vb x y s).length) :
  (∃fz' va' vb',Y L Cs z6 (some [12,4,6,2,11,1]) n0 (z4a l i j) (nwM m l v q fz va vb x y s)=Y L Cs z6 (some [12,4,6,2,11,1]) n0 (z4a l i (j+1)) (nwM m l v q fz' va' vb' x y s)) \/
  (∃fz' va' vb',Y L Cs z6 (some [12,4,6,2,11,1]) n0 (z4a l i j) (nwM m l v q fz va vb x y s)=some (.ret,[(4,.w (Pt 1)),(5,.w (W 12))],nwR m l v q fz' va' vb' x y s)):=by
 have hT:=h.there s i hi;have hU:=h.there s j hj;obtain⟨t,hO⟩:=h.touch i j hi hj;obtain⟨out,hZ⟩:=h.k9 s i j hi hj hl;have qL:=h.few;have tk:=z63 l;have tk2:=z62 s;have hci:(i:Int)<l.length:=by omega
 have hcj:(j:Int)<l.length:=by omega
 have hw:=zB (i:=j) (by omega);have r0:z2H []=[]:=rfl;simp only[zf,agC]at hO hZ;by_cases c1:(l[i]'hi).start<=0
 ·rw[decide_eq_true c1]at hT;by_cases c2:(l[j]'hj).start<=0
  ·rw[decide_eq_true c2]at hU;cases t with
   |true =>
    right;refine⟨fz,va,vb,?_⟩;rw[zj z6.eq_1];rcases hq with⟨rfl,rfl⟩ |⟨rfl,hs⟩ |⟨rfl,hs⟩<;>simp[z4a,nwM,nwT,nwI]at hn<;>subst hn<;>(try simp only[r0]at hT hU hZ)<;>cases fz<;>simp[z4a,nwM,nwR,z4k,z4w,z4M,zf,agC,nwT,nwI,hi,hj,hci,hcj,hw,hT,hU,hO,tk,tk2,zX,zg,zH]
   |false =>
    by_cases c3:out=[]
    ·left;subst c3;refine⟨true,if fz then va else va+1,if q=0 then vb else if fz then vb else vb+1,?_⟩;rw[zj z6.eq_1];rcases hq with⟨rfl,rfl⟩ |⟨rfl,hs⟩ |⟨rfl,hs⟩<;>simp[z4a,nwM,nwT,nwI]at hn<;>subst hn<;>(try simp only[r0]at hT hU hZ)<;>cases fz<;>simp[z4a,nwM,nwR,z4k,z4w,z4M,zf,agC,nwT,nwI,hi,hj,hci,hcj,hw,hT,hU,hO,hZ,tk,tk2,zX,zg,zH]
    ·right;have c4:0<out.length:=ke.2 c3;refine⟨true,if fz then va else va+1,if q=0 then vb else if fz then vb else vb+1,?_⟩;rw[zj z6.eq_1];rcases hq with⟨rfl,rfl⟩ |⟨rfl,hs⟩ |⟨rfl,hs⟩<;>simp[z4a,nwM,nwT,nwI]at hn<;>subst hn<;>(try simp only[r0]at hT hU hZ)<;>cases fz<;>simp[z4a,nwM,nwR,z4k,z4w,z4M,zf,agC,nwT,nwI,hi,hj,hci,hcj,hw,hT,hU,hO,hZ,c4,tk,tk2,zX,zg,zH]
  ·rw[decide_eq_false c2]at hU;left;refine⟨fz,va,vb,?_⟩;rw[zj z6.eq_1];rcases hq with⟨rfl,rfl⟩ |⟨rfl,hs⟩ |⟨rfl,hs⟩<;>simp[z4a,nwM,nwT,nwI]at hn<;>subst hn<;>(try simp only[r0]at hT hU hZ)<;>cases fz<;>simp[z4a,nwM,nwR,z4k,z4w,z4M,zf,agC,nwT,nwI,hi,hj,hci,hcj,hw,hT,hU,tk,tk2,zX,zg,zH]
 ·rw[decide_eq_false c1]at hT;left;refine⟨fz,va,vb,?_⟩;rw[zj z6.eq_1];rcases hq with⟨rfl,rfl⟩ |⟨rfl,hs⟩ |⟨rfl,hs⟩<;>simp[z4a,nwM,nwT,nwI]at hn<;>subst hn<;>(try simp only[r0]at hT hU hZ)<;>cases fz<;>simp[z4a,nwM,nwR,z4k,z4w,z4M,zf,agC,nwT,nwI,hi,hj,hci,hcj,hw,hT,hU,tk,tk2,zX,zg,zH]
abbrev z48(l:List AgV)(i:Nat):Env:=[(4,.w (Pt 1)),(6,.w (Pt 2)),(2,.w (Pt 0)),(11,.w (W i)),(1,.w (.c (.jc (z5 l))))]
theorem z6L{m:zD}{l:List AgV}(h:NwC m l)(i:Nat)(hi:i<l.length)(v q n0:Nat)(x y:z2T)(s:List z2T)(hl:s.length<=1000)(hq:NwJ q s)(hn:∀fz va vb,n0=(nwM m l v q fz va vb x y s).length):∀(f j:Nat) (fz:Bool) (va vb:Nat),j+f=l.length ->
  (∃fz' va' vb',Y L Cs z6 (some [12,4,6,2,11,1]) n0 (z4a l i j) (nwM m l v q fz va vb x y s)=some (.exit 8,(90,.w (Bo false))::z4a l i l.length,nwM m l v q fz' va' vb' x y s)) \/
  (0<f/\∃fz' va' vb',Y L Cs z6 (some [12,4,6,2,11,1]) n0 (z4a l i j) (nwM m l v q fz va vb x y s)=some (.ret,[(4,.w (Pt 1)),(5,.w (W 12))],nwR m l v q fz' va' vb' x y s)):=by
 intro f;induction f with
 |zero =>
  intro j fz va vb hj;obtain rfl:j=l.length:=by omega
  left;refine⟨fz,va,vb,?_⟩;rw[zj z6.eq_1];simp[z4a,nwM]
 |succ f ih =>
  intro j fz va vb hj;rcases z6K h i j hi (by omega) fz va v q vb n0 x y s hl hq (hn fz va vb)with⟨f1,a1,b1,e⟩|e
  ·rcases ih (j+1) f1 a1 b1 (by omega)with⟨f2,a2,b2,e2⟩ |⟨_,f2,a2,b2,e2⟩
   ·exact .inl ⟨f2,a2,b2,e.trans e2⟩
   ·exact .inr ⟨by omega,f2,a2,b2,e.trans e2⟩
  ·exact .inr ⟨by omega,e⟩
theorem z68(q:Nat)(fz fz':Bool)(vb vb':Nat)(x y:z2T)(s:List z2T):(nwT q fz vb x y s).length=(nwT q fz' vb' x y s).length:=by
 unfold nwT;split
 ·rfl
 ·split<;>rfl
theorem z6I{m:zD}{l:List AgV}(h:NwC m l)(i:Nat)(hi:i<l.length)(fz:Bool)(va v q vb n0:Nat)(x y:z2T)(s:List z2T)(hl:s.length<=1000)(hq:NwJ q s)(hn:∀fz va vb,n0=(nwM m l v q fz va vb x y s).length) :
  (∃fz' va' vb',Y L Cs z2t (some [4,6,2,11,1]) n0 (z48 l i) (nwM m l v q fz va vb x y s)=Y L Cs z2t (some [4,6,2,11,1]) n0 (z48 l (i+1)) (nwM m l v q fz' va' vb' x y s)) \/
  (1<l.length/\∃fz' va' vb',Y L Cs z2t (some [4,6,2,11,1]) n0 (z48 l i) (nwM m l v q fz va vb x y s)=some (.ret,[(4,.w (Pt 1)),(5,.w (W 12))],nwR m l v q fz' va' vb' x y s)):=by
 have qL:=h.few;have hci:(i:Int)<l.length:=by omega
 have hw:=zB (i:=i) (by omega);rcases z6L h i hi v q n0 x y s hl hq hn (l.length-(i+1)) (i+1) fz va vb (by omega)with⟨f1,a1,b1,e⟩ |⟨hlt,f1,a1,b1,e⟩
 ·left;refine⟨f1,a1,b1,?_⟩;have hn1:=hn fz va vb;rw[zj z2t.eq_1];rcases hq with⟨rfl,rfl⟩ |⟨rfl,hs⟩ |⟨rfl,hs⟩<;>simp[nwM,nwT]at hn1<;>subst hn1<;>simp[z4a,nwM,nwT,nwI]at e<;>simp[z48,nwM,nwT,nwI,hi,hci,hw,e]
 ·right;refine⟨by omega,f1,a1,b1,?_⟩;have hn1:=hn fz va vb;rw[zj z2t.eq_1];rcases hq with⟨rfl,rfl⟩ |⟨rfl,hs⟩ |⟨rfl,hs⟩<;>simp[nwM,nwT]at hn1<;>subst hn1<;>simp[z4a,nwM,nwR,nwT,nwI]at e<;>simp[z48,nwM,nwR,nwT,nwI,hi,hci,hw,e]
theorem z6J{m:zD}{l:List AgV}(h:NwC m l)(v q n0:Nat)(x y:z2T)(s:List z2T)(hl:s.length<=1000)(hq:NwJ q s)(hn:∀fz va vb,n0=(nwM m l v q fz va vb x y s).length):∀(f i:Nat) (fz:Bool) (va vb:Nat),i+f=l.length ->
  (∃fz' va' vb',Y L Cs z2t (some [4,6,2,11,1]) n0 (z48 l i) (nwM m l v q fz va vb x y s)=some (.exit 6,(82,.w (Bo false))::z48 l l.length,nwM m l v q fz' va' vb' x y s)) \/
  (1<l.length/\∃fz' va' vb',Y L Cs z2t (some [4,6,2,11,1]) n0 (z48 l i) (nwM m l v q fz va vb x y s)=some (.ret,[(4,.w (Pt 1)),(5,.w (W 12))],nwR m l v q fz' va' vb' x y s)):=by
 intro f;induction f with
 |zero =>
  intro i fz va vb hi;obtain rfl:i=l.length:=by omega
  left;refine⟨fz,va,vb,?_⟩;rw[zj z2t.eq_1];simp[z48,nwM]
 |succ f ih =>
  intro i fz va vb hi;rcases z6I h i (by omega) fz va v q vb n0 x y s hl hq hn with⟨f1,a1,b1,e⟩|e
  ·rcases ih (i+1) f1 a1 b1 (by omega)with⟨f2,a2,b2,e2⟩ |⟨hlt,f2,a2,b2,e2⟩
   ·exact .inl ⟨f2,a2,b2,e.trans e2⟩
   ·exact .inr ⟨hlt,f2,a2,b2,e.trans e2⟩
  ·exact .inr e
theorem z6Y{m:zD}{l:List AgV}(h:NwC m l)(hl:0<l.length)(e:Int)(hC:R L Cs z3m [.a (zf m),.a [I 0,.jc (z5 l),.jc []]] []=some (.w (W e),[]))
  (hP:R L Cs z2u [.a [I 0,.jc (z5 l),.jc []]] []=some (.w (.a [I 0,.slice 0 l.length 7 0 l.length none,.je]),[z4M false l.length l])) :
  ∃(e':Int) (ins:List z2T),ins.length<=1000/\(e=0->l.length=1->e'=0)/\R L Cs z3v [.a (zf m),.c (.jc (z5 l))] []=some (.t [.a (if e'=0 then [I 0,.jc (z5 l),.jc (z2H ins)] else [I 0,.jc [],.jc []]),W e'],[]):=by
 have qL:=h.few;have tk:=z63 l;simp only[zf]at hC;by_cases c:e=0
 ·subst c;have h1:=z6Q h (nwM m l 1 0 false l.length 0 z46 z46 []) (by simp[nwT]) l.length 0 (by omega);obtain⟨v,q,vb,x,y,s,g1,g2,g3,h3⟩:=z6N h l.length l.length 0 1 0 0 z46 z46 [] (by omega) (by simp;omega) (fun h=>absurd rfl h) (.inl ⟨rfl,rfl⟩);have hs:s.length<=1000:=by simp at g1;omega
  have tk2:=z62 s;rcases z6J h v q _ x y s hs g3 (fun fz va vb=>show(nwM m l v q false 0 0 x y s).length=_ by simp only[nwM,jw];rw[z68]) l.length 0 false l.length vb (by omega)with⟨f1,a1,b1,h5⟩ |⟨hlt,f1,a1,b1,h5⟩
  ·refine⟨0,s,hs,fun _ _=>rfl,?_⟩;rw[zUa z3l rfl];rcases g3 with⟨rfl,rfl⟩ |⟨rfl,hs2⟩ |⟨rfl,hs2⟩<;>simp[z5W,z48,nwM,nwT,nwI,zf]at h1 h3 h5<;>cases f1<;>simp[z2X,zf,hC,hP,h1,h3,h5,tk,tk2,show z2H []=[] from rfl,zg,zH,zX]
  ·refine⟨12,[],by simp,fun _ h1=>by omega,?_⟩;rw[zUa z3l rfl];rcases g3 with⟨rfl,rfl⟩ |⟨rfl,hs2⟩ |⟨rfl,hs2⟩<;>simp[z5W,z48,nwM,nwR,nwT,nwI,zf]at h1 h3 h5<;>cases f1<;>simp[z2X,zf,hC,hP,h1,h3,h5,tk,tk2,zg,zH,zX]
 ·refine⟨e,[],by simp,fun h0 _=>h0,?_⟩;have cb:(e==0)=false:=by simp[c]
  have cc:(e !=0)=true:=by simp[c]
  rw[zUa z3l rfl];simp[z2X,zf,hC,hP,c,cb,cc,tk,zg,zH,zX]
theorem z7g(l:List AgV)(h0:0<l.length)(hl:l.length<=7)(h:∀a∈l,a.jy≠[]/\a.jy.length<=8):R L Cs z2u [.a [I 0,.jc (z5 l),.jc []]] []=some (.w (.a [I 0,.slice 0 l.length 7 0 l.length none,.je]),[z4M false l.length l]):=by
 match l,h0,hl,h with
 |[a],_,_,h=>exact copy1 a (h a (by simp))
 |[a,b],_,_,h=>exact copy2 a b (h a (by simp)) (h b (by simp))
 |[a,b,c],_,_,h=>exact copy3 a b c (h a (by simp)) (h b (by simp)) (h c (by simp))
 |[a,b,c,d],_,_,h=>exact copy4 a b c d (h a (by simp)) (h b (by simp)) (h c (by simp)) (h d (by simp))
 |[a,b,c,d,e],_,_,h=>exact copy5 a b c d e (h a (by simp)) (h b (by simp)) (h c (by simp)) (h d (by simp)) (h e (by simp))
 |[a,b,c,d,e,f],_,_,h=>exact copy6 a b c d e f (h a (by simp)) (h b (by simp)) (h c (by simp)) (h d (by simp)) (h e (by simp)) (h f (by simp))
 |[a,b,c,d,e,f,g],_,_,h=>exact copy7 a b c d e f g (h a (by simp)) (h b (by simp)) (h c (by simp)) (h d (by simp)) (h e (by simp)) (h f (by simp)) (h g (by simp))
 |_::_::_::_::_::_::_::_::_,_,hl,_=>simp at hl
theorem z7o{m:zD}{zs:List Zon}{ss:List Sgn}(hF:z7y m zs ss):z6t m:=by
 intro l h0 hl hk hfst;have h:=hF.full.vG;have hz:m.k9.length=zs.length:=by rw[hF.full.zd.z];simp
 have hc:NwC m l:={
  there:=fun s i hi=>z56 ⟨0,l,s⟩ i hi (hk _ (jb hi)).here
  pres:=fun i hi z _=>⟨_,z4G hF (hk _ (jb hi)) z⟩
  v6:=fun i hi z hzl=>z7f hF (hk _ (jb hi)) z (by omega)
  touch:=fun i j hi hj=>⟨_,z55 h (hk _ (jb hi)) (hk _ (jb hj))⟩
  k9:=fun s i j hi hj _=>z6X hF ⟨0,l,s⟩ i j hi hj (hk _ (jb hi)) (hk _ (jb hj))
  gone:=fun i hi=>(hk _ (jb hi)).here
  few:=hl
  zn2:=by have:=hF.zn2;omega }
 have hC:=z5f h ⟨0,l,[]⟩ ⟨by simp,hk,by simp only;omega,h0,hfst h0,by simp⟩;exact z6Y hc h0 _ hC (z7g l h0 hl fun a ha=>⟨((hk a ha).on h).2.1,((hk a ha).on h).2.2⟩)
theorem z6h{m:zD}(h:zcp m):R L Cs z3m [.a (zf m),.a [I 0,.jc [],.jc []]] []=some (.w (W 6),[]):=by
 have hk:=h.yQ;simp only[zf]at hk;rw[zUa z3L rfl];simp[z2I,zf,hk,zg]
theorem z6Z{m:zD}(h:zcp m):R L Cs z3v [.a (zf m),.c (.jc [])] []=some (.t [.a z3C,W 6],[]):=by
 have hC:=z6h h;have hP:=copy0;simp only[zf,z5,qK]at hC hP;rw[zUa z3l rfl];simp[z2X,zf,hC,hP,z3C,zg,zH,zX]
theorem z6o{m:zD}(h:zcp m):∀(l:List Int) (a:Int),(∀x∈l,0<=x/\x<m.jf.length)->a<=zmd m a l
 |[],_,_=>jQ _
 |x::t,a,ho=>by
  have h1:=zcX h (ho x (by simp));have h2:=z6o h t (a+z8 m x) (fun y hy=>ho y (by simp[hy]));unfold zmd;omega
theorem z6U{m:zD}(h:zcp m){l:List Int}(hr:zdA m l=0):1000<=zmd m 0 l:=by
 obtain⟨hon,hne,hl8⟩:=zg1 h hr;cases l with
 |nil=>exact absurd rfl hne
 |cons x t =>
  have h1:=zcX h (hon x (by simp));have h2:=z6o h t (0+z8 m x) (fun y hy=>hon y (by simp[hy]));unfold zmd;omega
theorem z69{m:zD}(h:zcp m)(a:AgV)(ha:KAg m a)(hv:a.v=0):z31 m ⟨0,[a],[]⟩=0:=by
 have h1:=z5w (zaK m (z42 m a));have:z3z m a=0:=by unfold z3z;rw[hv,if_pos (by omega)]
 simp[z31,this]
theorem z7i{m:zD}{zs:List Zon}{ss:List Sgn}(hF:z7y m zs ss)(q:List z45)(hq:q.length<=7):∃s,KSn m s/\R L Cs z4x [.a (zf m),.c (.jc (z32 q))] []=some (.w (.a (snC s)),[]):=by
 have h:=hF.full.vG;have hN:=z7o hF;have hn:=z6Z h;obtain⟨l,v,st,b,hl,hst,hL⟩:=z65 hF hN q hq q.length 0 1 z3C [] (by omega) (by simp) ⟨⟨_,_,rfl⟩,by simp,fun h=>absurd h (by simp),fun h=>absurd rfl h⟩;obtain⟨A,B,rfl⟩:=hst.1;by_cases c:l=[]
 ·subst c;obtain⟨a,ha,h0,hln,hA⟩:=z5h hF ⟨0,1048576,0,0,0,false⟩ true;have hlen:=hln (by simp);have hb:=z6U h ha.jy;obtain⟨rt,as,av,al,ast,ao,ag⟩:=a;simp only at hlen hb h0;subst hlen;have hka:KAg m ⟨rt,301,0,300,ast,ao,ag⟩:=⟨ha.jy,by simp,ha.start,⟨by simp,by simp only;omega⟩,fun hp=>absurd (h0 (by simp)) (by simp only at hp;omega),ha.here⟩;obtain⟨e,ins,AB,he,hNw⟩:=hN [⟨rt,301,0,300,ast,ao,ag⟩] (by simp) (by simp) (by simpa using hka) (by intro _;exact h0 (by simp));obtain rfl:=he (z69 h _ hka rfl) rfl;refine⟨⟨0,[⟨rt,301,0,300,ast,ao,ag⟩],ins⟩,⟨by simp,by simpa using hka,by simp,by simp,h0 (by simp),AB⟩,?_⟩;simp only[zf,z3N,agC,z3C,z5,ki,qK,scE,scM,agW,↓reduceIte,ji]at hn hA hNw hL;rw[zUa z3U rfl];simp only[snC,z5,ki,qK,agC]at hNw ⊢;have w3:IntKind.i64.wrap 301=301:=rfl;simp[z3k,zf,z3C,hn,hL,hA,hNw,w3,zg,zH,zX]
 ·obtain⟨ins,AB,e⟩:=hst.2.2.2 c;have hp:0<l.length:=ke.2 c;refine⟨⟨0,l,ins⟩,⟨by simp,hst.2.1,by simp only;omega,hp,hst.2.2.1 hp,AB⟩,?_⟩;rw[<-e];simp only[zf,z3C,scE,scM,agW,c,↓reduceIte,ji]at hn hL;have l0:((l.length:Int)==0)=false:=beq_false_of_ne (by omega);have lr:z5 l≠[]:=by simpa [z5]using c
  rw[zUa z3U rfl];simp only[snC]at e;obtain⟨rfl,rfl⟩:A=z5 l/\B=z2H ins:=by simpa using e
  simp[z3k,zf,z3C,hn,hL,l0,lr,c,zg,zH,zX]
theorem VB.okb{m:zD}(h:zcp m){b:zk}(hb:VB m b):OKB b:=by
 have h1:=hb.lo;have h2:=hb.le;have h3:=hb.hi;have hl:=(zcX h hb.lane).2;exact⟨by omega,by omega,by omega,by omega⟩
theorem Ze{out:List zk}{b:zk}(h:∀x∈out,OKB x)(hb:OKB b):∀x∈zcP out b,OKB x:=by
 rcases ks out with rfl |⟨o,a,rfl⟩
 ·rw[z9w];simpa using hb
 ·rw[ky]at *;rw[z9l];have ha:=h a (by simp);split
  ·intro x hx;rcases jm.1 hx with hx|hx
   ·exact h x (by simp[hx])
   ·simp at hx;subst hx;have q1:=ha.lo1;have q2:=ha.lo2;have q3:=ha.hi1;have q4:=ha.hi2;have r1:=hb.lo1;have r2:=hb.lo2;have r3:=hb.hi1;have r4:=hb.hi2;exact⟨by simp only[glue];omega,by simp only[glue];omega,by simp only[glue];omega,by simp only[glue];omega⟩
  ·intro x hx;rcases jm.1 hx with hx|hx
   ·exact h x hx
   ·simp at hx;subst hx;exact hb
theorem Zv:∀(r out:List zk),(∀x∈out,OKB x)->(∀x∈r,OKB x)->∀x∈r.foldl zcP out,OKB x
 |[],out,h,_=>h
 |b::r,out,h,hr=>by
  rw[jK];exact Zv r _ (Ze h (hr b jr)) fun x hx=>hr x (jp _ hx)
theorem Zax{l:List zk}(h:∀x∈l,OKB x):∀x∈zcz l,OKB x:=by
 unfold zcz;exact Zv _ [] (by simp) fun x hx=>h x ((zuL l [] x hx).resolve_right (by simp))
theorem Zaj{m:zD}(h:zcp m)(hsh:zmX m)(l:List Int)(hr:zdA m l=0)(len:Int)(hlen:300<=len/\len<=20000)(k:zci)(hk:k.jJ.length<=1000)(hok:∀b∈k.jJ,OKB b) :
  ∃bs:List zk,bs.length<=4000/\(∀b∈bs,OKB b)/\R L Cs zLq [.a (zf m),.c (.jc (zu l)),W len,.a (zG k)] []=some (.w (.a (zG ⟨k.tick,bs,k.ego⟩)),[]):=by
 obtain⟨hon,hne,hl8⟩:=zg1 h hr;have h2l:=zlP hsh hr;have h1:=zy8 k (by omega);have h2:=zxh h k (by omega) hok;have h3:=zp0 m h.small h.yQ l (by omega);rw[hr]at h3;rw[zUa zLw rfl];by_cases c1:zdf m k=0
 ·have hbd:k.jJ.length*2 ^ l.length<=100000000000:=by
   have:2 ^ l.length<=4:=by
    have:l.length=0\/l.length=1\/l.length=2:=by omega
    rcases this with e|e|e<;>rw[e]<;>decide
   exact kd (Nat.mul_le_mul hk this) (by decide)
  have he:=zPa c1;have h6:=zxN h l hl8 hon len k.ego ⟨by omega,by omega,by omega,by omega⟩ ⟨by omega,hlen.2⟩ k.jJ hbd;have hvb:=ztK k.ego len l k.jJ (zxJ h c1);have hol:=zij m k.ego len h2l k.jJ;refine⟨zkr m k.ego len l k.jJ,by omega,fun b hb=>(hvb b hb).okb h,?_⟩;simp only[zf,zG,zch,c1]at h1 h2 h3 h6 ⊢;simp[zH1,h1,h2,h3,h6,hlen.1,hlen.2,zch]
 ·have b1:(zdf m k==0)=false:=by simp[c1]
  refine⟨k.jJ,by omega,hok,?_⟩;simp only[zf,zG]at h1 h2 ⊢;simp[zH1,h1,h2,c1,b1]
def clZ(len s:Int):Int:=max 0 (min s len)
def atX(x0 x1 len s:Int):Int:=x0+zXz ((x1-x0)*clZ len s) len
theorem ZaF{len s:Int}(h:0<=len):0<=clZ len s/\clZ len s<=len:=by unfold clZ;omega
theorem Za2{x0 y0 x1 y1 len:Int}(h:Pc x0 y0 x1 y1 len):R L Cs zN [.a [crv x0 y0 x1 y1]] []=some (.w (W len),[]):=by
 have hP:=z0y h;have hl:=h.l;have w1:=kQ len;have e:IntKind.i64.wrap 1=1:=rfl;rw[zUa z8E rfl];simp[zj0,hP,zg,zH];rw[zj ziA.eq_1];simp[zg,zH,e,w1];rw[zj ziA.eq_1];simp[zg,zH,e,w1]
theorem ZaL{x0 y0 x1 y1 len:Int}(h:Pc x0 y0 x1 y1 len)(s:Int):R L Cs z8N [.a [crv x0 y0 x1 y1],W s] []=some (.t [W 0,W (clZ len s)],[]):=by
 have hP:=z0y h;have hL:=Za2 h;have e:IntKind.i64.wrap 0=0:=rfl;rw[zUa z8V rfl];simp[z8b,hP,hL,zg,zH];rw[zj z8i.eq_1];simp[zg,zH,e,clZ,Int.max_comm]
theorem Zbh{x0 y0 x1 y1 len:Int}(h:Pc x0 y0 x1 y1 len)(s:Int):R L Cs z8s [.a [crv x0 y0 x1 y1],W s] []=some (.w (.a [I (atX x0 x1 len s),I (atX y0 y1 len s)]),[]):=by
 have hP:=z0y h;have hq:=ZaL h s;have hb:=h.b;have hl:=h.l;have hc:=ZaF (len:=len) (s:=s) (by omega);unfold atX;generalize clZ len s=t at *;have h1:=zZw x0 y0 x1 y1 (by omega);have e:IntKind.i64.wrap 1=1:=rfl;have m1:=ztS (a:=x1-x0) (b:=t) (A:=800000) (B:=1000000) (by omega) (by omega) (by omega) (by omega);have m2:=ztS (a:=y1-y0) (b:=t) (A:=800000) (B:=1000000) (by omega) (by omega) (by omega) (by omega);have w1:=wr (x:=(x1-x0)*t) (by omega) (by omega);have w2:=wr (x:=(y1-y0)*t) (by omega) (by omega);have f1:=z0Y (a:=(x1-x0)*t) (b:=len) (by omega) (by omega) (by omega);have f2:=z0Y (a:=(y1-y0)*t) (b:=len) (by omega) (by omega) (by omega);have d1:=z0g (a:=(x1-x0)*t) (b:=len) (by omega) (by omega) (by omega);have d2:=z0g (a:=(y1-y0)*t) (b:=len) (by omega) (by omega) (by omega);have g1:-9000000000000001<=zXz ((x1-x0)*t) len/\zXz ((x1-x0)*t) len<=9000000000000000:=by unfold zXz;split<;>omega
 have g2:-9000000000000001<=zXz ((y1-y0)*t) len/\zXz ((y1-y0)*t) len<=9000000000000000:=by unfold zXz;split<;>omega
 generalize zXz ((x1-x0)*t) len=u at *;generalize zXz ((y1-y0)*t) len=v at *;have w3:=wr (x:=x0+u) (by omega) (by omega);have w4:=wr (x:=y0+v) (by omega) (by omega);rw[zUa z9k rfl];simp[z8k,hP,hq,h1,e,w1,w2,w3,w4,f1,f2,zg,zH]
def atL(l:zfn)(s:Int):Int×Int:=match l.pts with
 |[(x0,y0),(x1,y1)]=>(atX x0 x1 l.len s,atX y0 y1 l.len s)
 |_=>(0,0)
theorem ZH{m:zD}(h1:zXl m){l:zfn}(hl:l∈m.jf)(s:Int):R L Cs z8s [.a [zeT l],W s] []=some (.w (.a [I (atL l s).1,I (atL l s).2]),[]):=by
 obtain⟨x0,y0,x1,y1,e,hp⟩:=h1.one l hl;have h:=Zbh hp s;unfold atL zeT;rw[e];exact h
theorem Zs(m:zD)(r:List Int)(s:Int)(st:List Int)(hl:st.length<=100):∀(f i:Nat),i+f=st.length ->
  Y L Cs z7W (some [10,11,1,9,2]) 1 [(10,.w (W (laF st s i))),(11,.w (W i)),(1,.w (.c (.jc (zu r)))),(9,.w (.c (.jc (zu st)))),(2,.w (W s))] [bx 5 (zf m)] =
    some (.exit 0,[(32,.w (Bo false)),(10,.w (W (laF st s st.length))),(11,.w (W st.length)),(1,.w (.c (.jc (zu r)))),(9,.w (.c (.jc (zu st)))),(2,.w (W s))],[bx 5 (zf m)]):=by
 intro f;induction f with
 |zero =>
  intro i hi;obtain rfl:i=st.length:=by omega
  rw[zj z7W.eq_1];simp
 |succ f ih =>
  intro i hi;have hil:i<st.length:=by omega
  have hw:=zB (i:=i) (by omega);rw[<-ih (i+1) (by omega),zj z7W.eq_1];clear ih;rw[laF];by_cases c:st[i]<=s
  ·have c':st.getD i 0<=s:=by simpa [hil]using c
   rw[if_pos c'];simp[zf,hil,hw,c]
  ·have c':¬st.getD i 0<=s:=by simpa [hil]using c
   rw[if_neg c'];simp[zf,hil,hw,c]
theorem ZaK{m:zD}(h:zcp m){r:List Int}(hr:zdA m r=0){s:Int}(h0:0<=s)(h1:s<=zmd m 0 r):∃(j:Nat) (hj:j<m.jf.length) (o:Int),R L Cs z8M [.a (zf m),.c (.jc (zu r)),W s] []=some (.t [W j,W o,Bo true],[]):=by
 obtain⟨hon,hne,h3⟩:=zg1 h hr;have hS:=zRG h hr;have hE:=zEp h hr;have hE2:=zEC h r 0 hon (by omega);have hl:=Zs m r s (zW m 0 r) (by rw[zcO];omega) r.length 0 (by rw[zcO];omega);rw[zcO]at hl;have hk:laF (zW m 0 r) s r.length<r.length:=by
  obtain⟨k,hk⟩:∃k,r.length=k+1:=⟨r.length-1,by have:=ke.2 hne;omega⟩;rw[hk];have:=z6R (zW m 0 r) s k;omega
 rw[show laF (zW m 0 r) s 0=0 from rfl]at hl;generalize laF (zW m 0 r) s r.length=k at *;have hks:k<(zW m 0 r).length:=by rw[zcO];exact hk
 obtain⟨l1,l2⟩:=hon _ (jb hk);obtain⟨j,hj⟩:=jC l1;have hst:=zmA (bar:=0) (m:=m) (r:=r) ⟨h,h3,hon,by omega⟩ hk;have e2:(zW m 0 r)[k]=zb4 m r k:=by simp[zb4,hks]
 have w1:=kQ (s-zb4 m r k);have hn:¬zmd m 0 r<s:=by omega
 have hn0:¬s<0:=by omega
 have hne':zW m 0 r≠[]:=by
  intro e;have:=zcO m r 0;rw[e]at this;simp at this;exact hne (jN.1 this.symm)
 have hsl:=zcO m r 0;have qf:(((zW m 0 r).length:Int)==0)=false:=beq_false_of_ne (by have:=ke.2 hne;omega);refine⟨j,by omega,s-zb4 m r k,?_⟩;simp only[zf,ji]at hS hE hl;rw[zUa z8U rfl];simp[z8a,zf,hS,hE,hl,hk,hks,e2,hj,w1,hn,hn0,hne,hne',qf,zg,zH]
theorem Zg{m:zD}(h:zcp m)(h1:zXl m){r:List Int}(hr:zdA m r=0)(s:Int):∃x y,R L Cs z8Z [.a (zf m),.c (.jc (zu r)),W s] []=some (.w (.a [I x,I y]),[]):=by
 obtain⟨hon,hne,h3⟩:=zg1 h hr;have hE:=zEp h hr;have hE2:=zEC h r 0 hon (by omega);have hE3:=z6o h r 0 hon;obtain⟨j,hj,o,hP⟩:=ZaK h hr (s:=max 0 (min s (zmd m 0 r))) (by omega) (by omega);have hA:=ZH h1 (jb hj) o;refine⟨(atL m.jf[j] o).1,(atL m.jf[j] o).2,?_⟩;simp only[zf]at hE hP;unfold zeT at hA;rw[zUa z85 rfl];simp[z8e,zf,hE,hP,hA,hj,zo,zg,zH]
def z9A(x b:Spn):Bool:=decide (b.lane=x.lane)&&(decide (b.lo<=x.hi)&&decide (x.lo<=b.hi))
def Zn(x b:Spn):Spn:=⟨x.lane,max b.lo x.lo,min b.hi x.hi⟩
def z9J(l:List Spn)(x:Spn):Option Spn:=(l.findIdx? (z9A x)).map fun i=>Zn x (l.getD i ⟨0,0,0⟩)
def Zm(o:Option Spn):AV:=.t [.a (zWX (o.getD ⟨0,0,0⟩)),Bo o.isSome]
theorem ZaI{m:zD}(h:zcp m){a:AgV}(ha:KAg m a)(x:Spn):R L Cs z9h [.a (zf m),.a (agC a),.a (zWX x)] []=some (Zm (z9J (z2B m a) x),[]):=by
 have hB:=z5H h ha;have hlen:=z38 h ha;unfold z9J;generalize z2B m a=bo at *;have hL:=zxf (L:=L) (Cs:=Cs) (b:=z7T) (live:=some [8,9,5,6]) (n0:=4) bo (fun i=>[(8,.w (.c (.jc (zWx bo)))),(9,.w (W i)),(5,.w (Pt 2)),(6,.w (Pt 3))]) [bx 5 (zf m),bx 7 (agC a),bx 3 (zWX x),bx 3 [I 0,I 0,I 0]] (z9A x)
  (fun i=>(.ret,[(6,.w (Pt 3)),(7,.w (Bo true))],[bx 5 (zf m),bx 7 (agC a),bx 3 (zWX x),bxv 1 3 (zWX (Zn x (bo.getD i ⟨0,0,0⟩)))]))
  (.exit 0,[(16,.w (Bo false)),(8,.w (.c (.jc (zWx bo)))),(9,.w (W bo.length)),(5,.w (Pt 2)),(6,.w (Pt 3))],[bx 5 (zf m),bx 7 (agC a),bx 3 (zWX x),bx 3 [I 0,I 0,I 0]])
  (fun i hi hb=>by
   have hw:=zB (i:=i) (by omega);have hci:(i:Int)<bo.length:=by omega
   generalize hp:bo[i]=p at *;unfold z9A at hb;rw[zj z7T.eq_1];by_cases c1:p.lane=x.lane
   ·have b1:(p.lane==x.lane)=true:=by simp[c1]
    by_cases c2:p.lo<=x.hi
    ·have c3:¬x.lo<=p.hi:=by simpa [c1,c2]using hb
     simp[zf,agC,zWX,hi,hci,hp,hw,b1,c2,c3]
    ·simp[zf,agC,zWX,hi,hci,hp,hw,b1,c2]
   ·have b1:(p.lane==x.lane)=false:=by simp[c1]
    simp[zf,agC,zWX,hi,hci,hp,hw,b1])
  (fun i hi hb=>by
   have hci:(i:Int)<bo.length:=by omega
   have e:bo.getD i ⟨0,0,0⟩=bo[i]:=by simp[hi]
   rw[e];generalize hp:bo[i]=p at *;unfold z9A at hb;simp only[jg,decide_eq_true_eq]at hb;obtain⟨c1,c2,c3⟩:=hb;have b1:(p.lane==x.lane)=true:=by simp[c1]
   rw[zj z7T.eq_1];simp[zf,agC,zWX,Zn,hi,hci,hp,b1,c2,c3])
  (by rw[zj z7T.eq_1];simp[zf,agC,zWX])
 simp only[zf,agC,zWX,ji]at hB hL;rw[zUa z9j rfl];cases hq:bo.findIdx? (z9A x)with
 |none =>
  rw[hq]at hL;simp[z78,zf,agC,zWX,Zm,hB,hL,zg,zH]
 |some i =>
  rw[hq]at hL;simp[z78,zf,agC,zWX,Zm,hB,hL,zg,zH]
theorem z9T(x0 y0 x y:Int):∃a b,R L Cs zXV [.a [I x,I y],.a [I x0,I y0]] []=some (.w (.a [I a,I b]),[]):=by
 refine⟨IntKind.i64.wrap (x-x0),IntKind.i64.wrap (y-y0),?_⟩;rw[zUa zX2 rfl];simp[zkT,zg,zH]
theorem ZaN(a b c d:Int):∃n,R L Cs z1S [.a [I a,I b],.a [I c,I d]] []=some (.w (W n),[]):=by
 refine⟨IntKind.i64.wrap (IntKind.i64.wrap (a*d)-IntKind.i64.wrap (b*c)),?_⟩;rw[zUa z15 rfl];simp[z1R,zg,zH]
theorem Zbd(a b c d:Int):∃n,R L Cs zXo [.a [I a,I b],.a [I c,I d]] []=some (.w (W n),[]):=by
 refine⟨IntKind.i64.wrap (IntKind.i64.wrap (a*c)+IntKind.i64.wrap (b*d)),?_⟩;rw[zUa zYd rfl];simp[zmg,zg,zH]
theorem z9G(a b c d e f:Int):∃n,R L Cs z82 [.a [I a,I b],.a [I c,I d],.a [I e,I f]] []=some (.w (W n),[]):=by
 have v1:=z1t a b;have v2:=z1t c d;have v3:=z1t e f;obtain⟨x1,y1,h1⟩:=z9T a b c d;obtain⟨x2,y2,h2⟩:=z9T a b e f;obtain⟨n,h3⟩:=ZaN x1 y1 x2 y2;generalize zXn a b=b1 at *;generalize zXn c d=b2 at *;generalize zXn e f=b3 at *;rw[zUa z88 rfl];cases b1 with
 |false=>exact⟨0,by simp[z7M,v1,zg,zH]⟩
 |true =>
  cases b2 with
  |false=>exact⟨0,by simp[z7M,v1,v2,zg,zH]⟩
  |true =>
   cases b3 with
   |false=>exact⟨0,by simp[z7M,v1,v2,v3,zg,zH]⟩
   |true =>
    by_cases c1:0<n
    ·exact⟨1,by simp[z7M,v1,v2,v3,h1,h2,h3,c1,zg,zH]⟩
    ·by_cases c2:n<0
     ·exact⟨-1,by simp[z7M,v1,v2,v3,h1,h2,h3,c1,c2,zg,zH]⟩
     ·exact⟨0,by simp[z7M,v1,v2,v3,h1,h2,h3,c1,c2,zg,zH]⟩
theorem z8Q(a b c d e f:Int):∃t,R L Cs z8z [.a [I a,I b],.a [I c,I d],.a [I e,I f]] []=some (.w (Bo t),[]):=by
 rw[zUa z8B rfl];by_cases c1:min a c<=e
 ·by_cases c2:e<=max a c
  ·by_cases c3:min b d<=f
   ·by_cases c4:f<=max b d
    ·exact⟨true,by simp[z7L,c1,c2,c3,c4,zg,zH]⟩
    ·exact⟨false,by simp[z7L,c1,c2,c3,c4,zg,zH]⟩
   ·exact⟨false,by simp[z7L,c1,c2,c3,zg,zH]⟩
  ·exact⟨false,by simp[z7L,c1,c2,zg,zH]⟩
 ·exact⟨false,by simp[z7L,c1,zg,zH]⟩
theorem ZaM(a b c d:Int):∃n,R L Cs z8O [.a [I a,I b],.a [I c,I d]] []=some (.w (W n),[]):=by
 have v1:=z1t a b;have v2:=z1t c d;obtain⟨x1,y1,h1⟩:=z9T a b c d;obtain⟨n,h3⟩:=Zbd x1 y1 x1 y1;generalize zXn a b=b1 at *;generalize zXn c d=b2 at *;rw[zUa z8W rfl];cases b1 with
 |false=>exact⟨0,by simp[z7U,v1,zg,zH]⟩
 |true =>
  cases b2 with
  |false=>exact⟨0,by simp[z7U,v1,v2,zg,zH]⟩
  |true=>exact⟨n,by simp[z7U,v1,v2,h1,h3,zg,zH]⟩
theorem Zam(a b c d e f g h:Int):∃t,R L Cs z8n [.a [I a,I b],.a [I c,I d],.a [I e,I f],.a [I g,I h]] []=some (.w (Bo t),[]):=by
 have v1:=z1t a b;have v2:=z1t c d;have v3:=z1t e f;have v4:=z1t g h;obtain⟨n1,s1⟩:=z9G a b c d e f;obtain⟨n2,s2⟩:=z9G a b c d g h;obtain⟨n3,s3⟩:=z9G e f g h a b;obtain⟨n4,s4⟩:=z9G e f g h c d;obtain⟨t1,z1⟩:=z8Q a b c d e f;obtain⟨t2,z2⟩:=z8Q a b c d g h;obtain⟨t3,z3⟩:=z8Q e f g h a b;obtain⟨t4,z4⟩:=z8Q e f g h c d;generalize zXn a b=b1 at *;generalize zXn c d=b2 at *;generalize zXn e f=b3 at *;generalize zXn g h=b4 at *;rw[zUa z8F rfl];cases b1 with
 |false=>exact⟨false,by simp[z7E,v1,zg,zH]⟩
 |true =>
 cases b2 with
 |false=>exact⟨false,by simp[z7E,v1,v2,zg,zH]⟩
 |true =>
 cases b3 with
 |false=>exact⟨false,by simp[z7E,v1,v2,v3,zg,zH]⟩
 |true =>
 cases b4 with
 |false=>exact⟨false,by simp[z7E,v1,v2,v3,v4,zg,zH]⟩
 |true =>
 have G:∀(n:Int) (t:Bool),((n==0)=true/\t=true)\/((n==0)=true/\t=false)\/((n==0)=false/\True):=by
  intro n t;cases (n==0)<;>cases t<;>simp
 have U:(IntKind.i64.wrap (n1*n2)<0/\IntKind.i64.wrap (n3*n4)<0)\/(IntKind.i64.wrap (n1*n2)<0/\¬IntKind.i64.wrap (n3*n4)<0)\/(¬IntKind.i64.wrap (n1*n2)<0/\True):=by
  by_cases h1:IntKind.i64.wrap (n1*n2)<0<;>by_cases h2:IntKind.i64.wrap (n3*n4)<0<;>simp[h1,h2]
 rcases U with⟨hu,hr⟩|U
 ·exact⟨true,by simp[z7E,v1,v2,v3,v4,s1,s2,s3,s4,hu,hr,zg,zH]⟩
 rcases U with⟨hu,hr⟩ |⟨hu,hr⟩
 all_goals
  rcases G n1 t1 with⟨e1,rfl⟩|G1
  ·exact⟨true,by simp[z7E,v1,v2,v3,v4,s1,s2,s3,s4,hu,hr,e1,z1,zg,zH]⟩
  rcases G1 with⟨e1,rfl⟩ |⟨e1,_⟩
  all_goals
   rcases G n2 t2 with⟨e2,rfl⟩|G1
   ·exact⟨true,by simp[z7E,v1,v2,v3,v4,s1,s2,s3,s4,hu,hr,e1,e2,z1,z2,zg,zH]⟩
   rcases G1 with⟨e2,rfl⟩ |⟨e2,_⟩
   all_goals
    rcases G n3 t3 with⟨e3,rfl⟩|G1
    ·exact⟨true,by simp[z7E,v1,v2,v3,v4,s1,s2,s3,s4,hu,hr,e1,e2,e3,z1,z2,z3,zg,zH]⟩
    rcases G1 with⟨e3,rfl⟩ |⟨e3,_⟩
    all_goals
     rcases G n4 t4 with⟨e4,rfl⟩ |⟨e4,rfl⟩ |⟨e4,_⟩
     ·exact⟨true,by simp[z7E,v1,v2,v3,v4,s1,s2,s3,s4,hu,hr,e1,e2,e3,e4,z1,z2,z3,z4,zg,zH]⟩
     ·exact⟨false,by simp[z7E,v1,v2,v3,v4,s1,s2,s3,s4,hu,hr,e1,e2,e3,e4,z1,z2,z3,z4,zg,zH]⟩
     ·exact⟨false,by simp[z7E,v1,v2,v3,v4,s1,s2,s3,s4,hu,hr,e1,e2,e3,e4,z1,z2,z3,z4,zg,zH]⟩
abbrev seB(p q:Int×Int):Option Blk:=some { box:=false,esz:=2,rows:=[[I p.1,I p.2],[I q.1,I q.2]],gen:=2,fz:=false,ver:=2 }
abbrev seM(m:zD)(s:SnV)(ex ey:Int)(x:Spn)(p q:Int×Int):Mem:=[bx 5 (zf m),bx 3 (snC s),bx 2 [I ex,I ey],bx 3 (zWX x),seB p q]
abbrev z9p(view:Int)(k i:Nat):Env:=[(13,.w (W i)),(3,.w (W view)),(9,.w (Pt 3)),(6,.w (Pt 1)),(5,.w (Pt 0)),(7,.w (Pt 2)),(12,.w (W k)),(11,.w (.c (.slice 4 2 2 0 2 none)))]
theorem Zas{m:zD}(h:zcp m)(h1:zXl m)(s:SnV)(hs:KSn m s)(ex ey view:Int)(x:Spn)(p q:Int×Int)(k:Nat)(hk:k<2)(i:Nat)(hi:i<s.agents.length) :
  Y L Cs z7D (some [13,3,9,6,5,7,12,11]) 5 (z9p view k i) (seM m s ex ey x p q)=Y L Cs z7D (some [13,3,9,6,5,7,12,11]) 5 (z9p view k (i+1)) (seM m s ex ey x p q) \/
  ∃M',Y L Cs z7D (some [13,3,9,6,5,7,12,11]) 5 (z9p view k i) (seM m s ex ey x p q)=some (.ret,[(10,.w (Bo false))],M'):=by
 have qL:=hs.few;have hw:=zB (i:=i) (by omega);have hci:(i:Int)<s.agents.length:=by omega
 have ha:=hs.ags _ (jb hi);have hT:=z56 s i hi ha.here;have hO:=ZaI h ha x;have hsa:=ha.s;have hse:=ha.yp h;have hsl:=ha.len;have ws:=kQ (s.agents[i].s-s.agents[i].len);obtain⟨x1,y1,hS1⟩:=Zg h h1 ha.jy s.agents[i].s;obtain⟨x2,y2,hS2⟩:=Zg h h1 ha.jy (s.agents[i].s-s.agents[i].len);generalize hag:s.agents[i]=a at *;generalize z9J (z2B m a) x=o at *;have hpq:∀r:Int×Int,(r=p/\k=0)\/(r=q/\k=1)->∃t,R L Cs z8n [.a [I ex,I ey],.a [I r.1,I r.2],.a [I x1,I y1],.a [I x2,I y2]] []=some (.w (Bo t),[]):=fun r _=>Zam _ _ _ _ _ _ _ _
 simp only[zf,agC,snC,zWX,Zm]at hT hO hS1 hS2;cases o with
 |some y =>
  left;rw[zj z7D.eq_1];simp at hO;simp[z9p,seM,zf,agC,snC,zWX,hi,hci,hag,hw,hO,zg,zH]
 |none =>
  simp at hO;by_cases c:a.start<=s.tick
  ·rw[decide_eq_true c]at hT;have hkk:k=0\/k=1:=by omega
   rcases hkk with rfl|rfl
   ·obtain⟨t,hB⟩:=hpq p (.inl ⟨rfl,rfl⟩);cases t with
    |true =>
     right;apply Exists.intro;rw[zj z7D.eq_1];simp[z9p,seM,zf,agC,snC,zWX,hi,hci,hag,hw,hO,hT,hS1,hS2,hB,ws,zg,zH];rfl
    |false =>
     left;rw[zj z7D.eq_1];simp[z9p,seM,zf,agC,snC,zWX,hi,hci,hag,hw,hO,hT,hS1,hS2,hB,ws,zg,zH]
   ·obtain⟨t,hB⟩:=hpq q (.inr ⟨rfl,rfl⟩);cases t with
    |true =>
     right;apply Exists.intro;rw[zj z7D.eq_1];simp[z9p,seM,zf,agC,snC,zWX,hi,hci,hag,hw,hO,hT,hS1,hS2,hB,ws,zg,zH];rfl
    |false =>
     left;rw[zj z7D.eq_1];simp[z9p,seM,zf,agC,snC,zWX,hi,hci,hag,hw,hO,hT,hS1,hS2,hB,ws,zg,zH]
  ·rw[decide_eq_false c]at hT;left;rw[zj z7D.eq_1];simp[z9p,seM,zf,agC,snC,zWX,hi,hci,hag,hw,hO,hT,zg,zH]
theorem Zat{m:zD}(h:zcp m)(h1:zXl m)(s:SnV)(hs:KSn m s)(ex ey view:Int)(x:Spn)(p q:Int×Int)(k:Nat)(hk:k<2):∀(f i:Nat),i+f=s.agents.length ->
  Y L Cs z7D (some [13,3,9,6,5,7,12,11]) 5 (z9p view k i) (seM m s ex ey x p q)=some (.exit 2,(58,.w (Bo false))::z9p view k s.agents.length,seM m s ex ey x p q) \/
  ∃M',Y L Cs z7D (some [13,3,9,6,5,7,12,11]) 5 (z9p view k i) (seM m s ex ey x p q)=some (.ret,[(10,.w (Bo false))],M'):=by
 intro f;induction f with
 |zero =>
  intro i hi;obtain rfl:i=s.agents.length:=by omega
  left;rw[zj z7D.eq_1];simp[z9p,seM,snC]
 |succ f ih =>
  intro i hi;rcases Zas h h1 s hs ex ey view x p q k hk i (by omega)with e|e
  ·rw[e];exact ih (i+1) (by omega)
  ·exact .inr e
abbrev z9u(view:Int)(k:Nat):Env:=[(11,.w (.c (.slice 4 2 2 0 2 none))),(12,.w (W k)),(7,.w (Pt 2)),(5,.w (Pt 0)),(6,.w (Pt 1)),(9,.w (Pt 3)),(3,.w (W view))]
theorem Zr{m:zD}(h:zcp m)(h1:zXl m)(s:SnV)(hs:KSn m s)(ex ey view:Int)(x:Spn)(p q:Int×Int)(k:Nat)(hk:k<2) :
  Y L Cs z7F (some [11,12,7,5,6,9,3]) 5 (z9u view k) (seM m s ex ey x p q)=Y L Cs z7F (some [11,12,7,5,6,9,3]) 5 (z9u view (k+1)) (seM m s ex ey x p q) \/
  ∃M',Y L Cs z7F (some [11,12,7,5,6,9,3]) 5 (z9u view k) (seM m s ex ey x p q)=some (.ret,[(10,.w (Bo false))],M'):=by
 have qT:=hs.some;have hL:=Zat h h1 s hs ex ey view x p q k hk (s.agents.length-1) 1 (by omega);obtain⟨r,hr,hrk⟩:∃r:Int×Int,[[I p.1,I p.2],[I q.1,I q.2]][k]?=some [I r.1,I r.2]/\(k=0/\r=p\/k=1/\r=q):=by
  have hkk:k=0\/k=1:=by omega
  rcases hkk with rfl|rfl
  ·exact⟨p,rfl,.inl ⟨rfl,rfl⟩⟩
  ·exact⟨q,rfl,.inr ⟨rfl,rfl⟩⟩
 obtain⟨n,hD⟩:=ZaM ex ey r.1 r.2;have k1:IntKind.i64.wrap 1=1:=rfl;have k2:IntKind.i64.wrap 2=2:=rfl;by_cases c:IntKind.i64.wrap (view*view)<n
 ·right;refine⟨seM m s ex ey x p q,?_⟩;rw[zj z7F.eq_1];rcases hrk with⟨rfl,rfl⟩ |⟨rfl,rfl⟩<;>simp[z9u,seM,hD,c,zg,zH]
 ·rcases hL with e |⟨M',e⟩
  ·left;rw[zj z7F.eq_1];rcases hrk with⟨rfl,rfl⟩ |⟨rfl,rfl⟩<;>simp[z9p,seM]at e<;>simp[z9u,seM,hD,c,e,k1,k2,zg,zH]
  ·right;refine⟨M',?_⟩;rw[zj z7F.eq_1];rcases hrk with⟨rfl,rfl⟩ |⟨rfl,rfl⟩<;>simp[z9p,seM]at e<;>simp[z9u,seM,hD,c,e,k1,k2,zg,zH]
theorem Za0{m:zD}(h:zcp m)(h1:zXl m)(s:SnV)(hs:KSn m s)(ex ey view:Int)(x:Spn)(hx:0<=x.lane/\x.lane<m.jf.length):∃b,R L Cs z80 [.a (zf m),.a (snC s),.a [I ex,I ey],W view,.a (zWX x)] []=some (.w (Bo b),[]):=by
 obtain⟨j,hj⟩:=jC hx.1;have hjl:j<m.jf.length:=by omega
 have hA1:=ZH h1 (jb hjl) x.lo;have hA2:=ZH h1 (jb hjl) x.hi;have e2:IntKind.i64.wrap 2=2:=rfl;generalize hp:atL m.jf[j] x.lo=p at *;generalize hq:atL m.jf[j] x.hi=q at *;have AC:Y L Cs z7F (some [11,12,7,5,6,9,3]) 5 (z9u view (1+1)) (seM m s ex ey x p q)=some (.exit 0,(41,.w (Bo false))::z9u view (1+1),seM m s ex ey x p q):=by
  rw[zj z7F.eq_1];simp[z9u,seM]
 have As:Y L Cs z7F (some [11,12,7,5,6,9,3]) 5 (z9u view 0) (seM m s ex ey x p q)=some (.exit 0,(41,.w (Bo false))::z9u view (1+1),seM m s ex ey x p q) \/
  ∃M',Y L Cs z7F (some [11,12,7,5,6,9,3]) 5 (z9u view 0) (seM m s ex ey x p q)=some (.ret,[(10,.w (Bo false))],M'):=by
  rcases Zr h h1 s hs ex ey view x p q 0 (by omega)with e|e
  ·rcases Zr h h1 s hs ex ey view x p q 1 (by omega)with e' |⟨M',e'⟩
   ·exact .inl (e.trans (e'.trans AC))
   ·exact .inr ⟨M',e.trans e'⟩
  ·exact .inr e
 unfold zeT at hA1 hA2;rw[zUa z86 rfl];rcases As with e |⟨M',e⟩
 ·refine⟨true,?_⟩;simp only[z9u,seM,zWX,zf,snC,hj,ji]at e;simp[z74,zf,snC,zWX,zo,hj,hjl,hA1,hA2,e,zg,zH]
 ·refine⟨false,?_⟩;simp only[z9u,seM,zWX,zf,snC,hj,ji]at e;simp[z74,zf,snC,zWX,zo,hj,hjl,hA1,hA2,e,zg,zH]
def z9Y(m:zD)(x:Spn):Prop:=(0<=x.lane/\x.lane<m.jf.length)/\0<=x.lo/\x.lo<x.hi/\x.hi<=z8 m x.lane
def Zai(a b:Spn):Prop:=a.lane<b.lane\/a.lane=b.lane/\a.hi+1000<=b.lo
structure SeI(m:zD)(l:Nat)(pt:Int)(out:List Spn):Prop where
 ok:∀x∈out,z9Y m x
 ap:out.Pairwise Zai
 up:∀x∈out,x.lane<l\/x.lane=l/\x.hi<=pt/\(x.hi=z8 m l\/x.hi % 1000=0)
 len:(out.length:Int)<=l*1001+pt / 1000
theorem SeI.skip{m:zD}{l:Nat}{pt:Int}{out:List Spn}(h:SeI m l pt out):SeI m l (pt+1000) out :=
 ⟨h.ok,h.ap,fun x hx=>by have:=h.up x hx;omega,by have:=h.len;omega⟩
theorem SeI.next{m:zD}{l:Nat}{pt:Int}{out:List Spn}(h:SeI m l pt out)(hp:pt<=1000999):SeI m (l+1) 0 out :=
 ⟨h.ok,h.ap,fun x hx=>by have:=h.up x hx;left;omega,by have:=h.len;omega⟩
theorem SeI.add{m:zD}{l:Nat}{pt:Int}{out:List Spn}(h:SeI m l pt out)(hl:l<m.jf.length)(h0:0<=pt)(h1:pt<z8 m l)(h2:pt % 1000=0)(hn:∀x∈out,¬(x.lane=l/\x.hi=pt)):SeI m l (pt+1000) (out++[⟨l,pt,min (pt+1000) (z8 m l)⟩]):=by
 refine⟨?_,?_,?_,?_⟩
 ·intro x hx;rcases jm.1 hx with hx|hx
  ·exact h.ok x hx
  ·simp only[jh]at hx;subst hx;exact⟨⟨by simp only;omega,by simp only;omega⟩,by simp only;omega,by simp only;omega,by simp only;omega⟩
 ·rw[jD];refine⟨h.ap,by simp,?_⟩;intro x hx y hy;simp only[jh]at hy;subst hy;have a:=h.up x hx;have b:=hn x hx;have c:=h.ok x hx;rcases a with a |⟨a1,a2,a3⟩
  ·left;simpa using a
  ·right;refine⟨a1,?_⟩;simp only;have:¬x.hi=pt:=fun e=>b ⟨a1,e⟩
   omega
 ·intro x hx;rcases jm.1 hx with hx|hx
  ·have:=h.up x hx;omega
  ·simp only[jh]at hx;subst hx;right;refine⟨by first |rfl |exact hy,Int.min_le_left _ _,?_⟩;show min (pt+1000) (z8 m l)=z8 m l\/min (pt+1000) (z8 m l) % 1000=0;by_cases c:pt+1000<=z8 m l
   ·right;rw[yw c];omega
   ·left;exact yh (by omega)
 ·have:=h.len;simp;omega
theorem SeI.grow{m:zD}{l:Nat}{pt:Int}{pre:List Spn}{y:Spn}(h:SeI m l pt (pre++[y]))(hl:l<m.jf.length)(h0:0<=pt)(h1:pt<z8 m l)(h2:pt % 1000=0)(hy:y.lane=l)(hy2:y.hi=pt):SeI m l (pt+1000) (pre++[⟨y.lane,y.lo,min (pt+1000) (z8 m l)⟩]):=by
 have hp:=h.ap;rw[jD]at hp;refine⟨?_,?_,?_,?_⟩
 ·intro x hx;rcases jm.1 hx with hx|hx
  ·exact h.ok x (j9 _ hx)
  ·simp only[jh]at hx;subst hx;have c:=h.ok y (by simp);unfold z9Y at c;exact⟨c.1,c.2.1,by simp only;omega,by simp only[hy];omega⟩
 ·rw[jD];refine⟨hp.1,by simp,?_⟩;intro x hx z hz;simp only[jh]at hz;subst hz;exact hp.2.2 x hx y (by simp)
 ·intro x hx;rcases jm.1 hx with hx|hx
  ·have:=h.up x (j9 _ hx);omega
  ·simp only[jh]at hx;subst hx;right;refine⟨by first |rfl |exact hy,Int.min_le_left _ _,?_⟩;show min (pt+1000) (z8 m l)=z8 m l\/min (pt+1000) (z8 m l) % 1000=0;by_cases c:pt+1000<=z8 m l
   ·right;rw[yw c];omega
   ·left;exact yh (by omega)
 ·have:=h.len;simp at this ⊢;omega
abbrev snB(v:Nat)(out:List Spn):Option Blk:=some { box:=false,esz:=3,rows:=zWx out,gen:=out.length,fz:=false,ver:=v }
abbrev z8J(m:zD)(s:SnV)(ex ey:Int)(v:Nat)(out:List Spn):Mem:=[bx 5 (zf m),bx 3 (snC s),gb 3,snB v out,bxv 1 2 [I ex,I ey]]
abbrev z8X(n pt view:Int)(l:Nat)(out:List Spn):Env:=[(11,.w (W pt)),(10,.w (W n)),(3,.w (Pt 0)),(4,.w (Pt 1)),(8,.w (Pt 4)),(2,.w (W view)),(7,.w (.c (.slice 3 out.length 3 0 out.length none))),(9,.w (W l))]
theorem room24{n:Nat}(h:n<=100000):(n+1+1)*24<=140737488355328:=by omega
theorem ZaS{α:Type}(l:List α):l=[]\/∃(p:List α) (x:α),l=p++[x]:=by
 rcases ks l with h |⟨p,x,h⟩
 ·exact .inl h
 ·exact .inr ⟨p,x,by rw[h];simp⟩
theorem Zad{m:zD}(h:zcp m)(h1:zXl m)(qL:m.jf.length<=4)(s:SnV)(hs:KSn m s)(ex ey view:Int)(l:Nat)(hl:l<m.jf.length)(pt:Int)(h0:0<=pt)(h2:pt % 1000=0)(hlt:pt<z8 m l)(v:Nat)(out:List Spn)(hI:SeI m l pt out) :
  ∃(v':Nat) (qF:List Spn),SeI m l (pt+1000) qF/\Y L Cs z7I (some [11,10,3,4,8,2,7,9]) 5 (z8X (z8 m l) pt view l out) (z8J m s ex ey v out)=Y L Cs z7I (some [11,10,3,4,8,2,7,9]) 5 (z8X (z8 m l) (pt+1000) view l qF) (z8J m s ex ey v' qF):=by
 have hn:=zcX h (x:=(l:Int)) ⟨by omega,by omega⟩;have hlen:=hI.len;have wp:=kQ (pt+1000);obtain⟨b,hS⟩:=Za0 h h1 s hs ex ey view ⟨l,pt,min (pt+1000) (z8 m l)⟩ ⟨by simp only;omega,by simp only;omega⟩;have hmm:min (z8 m l) (pt+1000)=min (pt+1000) (z8 m l):=by omega
 generalize hx:min (pt+1000) (z8 m l)=xh at *;simp only[zf,snC,zWX]at hS;cases b with
 |false =>
  refine⟨v,out,hI.skip,?_⟩;rw[zj z7I.eq_1];simp[z8X,z8J,zf,snC,zWX,hlt,wp,hx,hS,zg,zH]
 |true =>
  have jU:(out.length+1)*24<=140737488355328:=by omega
  rcases ZaS out with rfl |⟨pre,y,rfl⟩
  ·have hA:=hI.add hl h0 hlt h2 (by simp);rw[hx]at hA;refine⟨v+1,[⟨l,pt,xh⟩],hA,?_⟩;have wm:IntKind.i64.wrap (-1)=-1:=rfl;rw[zj z7I.eq_1];simp[z8X,z8J,zf,snC,zWX,zWx,snB,hlt,wp,wm,hx,hS,zg,zH]
  ·have hxx:∀r:List Cl,(zWx pre++[r])[pre.length]?=some r:=fun r=>by rw[jL (by simp)];simp
   have hx2:∀r r':List Cl,(zWx pre++[r]).set pre.length r'=zWx pre++[r']:=fun r r'=>by rw[km _ _ (by simp)];simp
   have tk:∀r:List Cl,(zWx pre++[r]).take (pre.length+1)=zWx pre++[r]:=fun r=>jF (by simp)
   have hpl:pre.length<=100000:=by simp at hlen;omega
   have wl:=zqd (n:=pre.length) (by omega);have hl0:(0:Int)<=pre.length:=by omega
   have hp1:(pre.length:Int)<pre.length+1:=by omega
   have hro:=room24 hpl;by_cases c:y.lane=l/\y.hi=pt
   ·have hG:=hI.grow hl h0 hlt h2 c.1 c.2;rw[hx]at hG;refine⟨v+1,_,hG,?_⟩;have b1:(y.lane==(l:Int))=true:=by simp[c.1]
    have b2:(y.hi==pt)=true:=by simp[c.2]
    rw[zj z7I.eq_1];simp[z8X,z8J,zf,snC,zWX,snB,z1e,show ∀z:Spn,zWx [z]=[zWX z] from fun _=>rfl,hlt,wp,wl,hl0,hp1,hx,hS,hxx,hx2,tk,b1,b2,c.1,c.2,zg,zH]
   ·have hA:=hI.add hl h0 hlt h2 (by
     intro x hx2 e;have hup:=hI.ap;rcases jm.1 hx2 with h3|h3
     ·rw[jD]at hup;have hz:=hup.2.2 x h3 y (by simp);have hy:=hI.up y (by simp);have hyo:=hI.ok y (by simp);unfold Zai at hz;unfold z9Y at hyo;omega
     ·simp only[jh]at h3;subst h3;exact c e)
    rw[hx]at hA;refine⟨v+1,_,hA,?_⟩;rw[zj z7I.eq_1];by_cases c1:y.lane=l
    ·have c2:¬y.hi=pt:=fun e=>c ⟨c1,e⟩
     have b1:(y.lane==(l:Int))=true:=by simp[c1]
     have b2:(y.hi==pt)=false:=by simp[c2]
     simp[z8X,z8J,zf,snC,zWX,snB,z1e,show ∀z:Spn,zWx [z]=[zWX z] from fun _=>rfl,hlt,wp,wl,hl0,hp1,hx,hS,hxx,hx2,tk,hro,b1,b2,zg,zH]
    ·have b1:(y.lane==(l:Int))=false:=by simp[c1]
     simp[z8X,z8J,zf,snC,zWX,snB,z1e,show ∀z:Spn,zWx [z]=[zWX z] from fun _=>rfl,hlt,wp,wl,hl0,hp1,hx,hS,hxx,hx2,tk,hro,b1,zg,zH]
theorem Zae{m:zD}(h:zcp m)(h1:zXl m)(qL:m.jf.length<=4)(s:SnV)(hs:KSn m s)(ex ey view:Int)(l:Nat)(hl:l<m.jf.length):∀(f:Nat) (pt:Int) (v:Nat) (out:List Spn),z8 m l<=pt+1000*f->0<=pt->pt % 1000=0->pt<=1000999->SeI m l pt out ->
  ∃(pt':Int) (v':Nat) (qF:List Spn),pt'<=1000999/\SeI m l pt' qF/\Y L Cs z7I (some [11,10,3,4,8,2,7,9]) 5 (z8X (z8 m l) pt view l out) (z8J m s ex ey v out)=some (.exit 2,(50,.w (Bo false))::z8X (z8 m l) pt' view l qF,z8J m s ex ey v' qF):=by
 have hn:=zcX h (x:=(l:Int)) ⟨by omega,by omega⟩;intro f;induction f with
 |zero =>
  intro pt v out hp h0 h2 h3 hI;refine⟨pt,v,out,h3,hI,?_⟩;have hc:¬pt<z8 m l:=by omega
  rw[zj z7I.eq_1];simp[z8X,z8J,hc]
 |succ f ih =>
  intro pt v out hp h0 h2 h3 hI;by_cases hc:pt<z8 m l
  ·obtain⟨v1,o1,i1,e1⟩:=Zad h h1 qL s hs ex ey view l hl pt h0 h2 hc v out hI;obtain⟨p2,v2,o2,k2,i2,e2⟩:=ih (pt+1000) v1 o1 (by omega) (by omega) (by omega) (by omega) i1;exact⟨p2,v2,o2,k2,i2,e1.trans e2⟩
  ·refine⟨pt,v,out,h3,hI,?_⟩;rw[zj z7I.eq_1];simp[z8X,z8J,hc]
abbrev z9K(view:Int)(l:Nat)(out:List Spn):Env:=[(3,.w (Pt 0)),(4,.w (Pt 1)),(8,.w (Pt 4)),(2,.w (W view)),(7,.w (.c (.slice 3 out.length 3 0 out.length none))),(9,.w (W l))]
theorem Zab{m:zD}(h:zcp m)(h1:zXl m)(qL:m.jf.length<=4)(s:SnV)(hs:KSn m s)(ex ey view:Int)(l:Nat)(hl:l<m.jf.length)(v:Nat)(out:List Spn)(hI:SeI m l 0 out) :
  ∃(v':Nat) (qF:List Spn),SeI m (l+1) 0 qF/\Y L Cs z7P (some [3,4,8,2,7,9]) 5 (z9K view l out) (z8J m s ex ey v out)=Y L Cs z7P (some [3,4,8,2,7,9]) 5 (z9K view (l+1) qF) (z8J m s ex ey v' qF):=by
 have hn:=zcX h (x:=(l:Int)) ⟨by omega,by omega⟩;have hw:=zB (i:=l) (by omega);have hL:=zEV h (x:=(l:Int)) ⟨by omega,by omega⟩;have hcl:(l:Int)<m.jf.length:=by omega
 obtain⟨p2,v2,o2,k2,i2,e2⟩:=Zae h h1 qL s hs ex ey view l hl 1001 0 v out (by omega) (by omega) (by omega) (by omega) hI;refine⟨v2,o2,i2.next k2,?_⟩;simp only[zf]at hL;rw[zj z7P.eq_1];simp[z8X,z8J,zf]at e2;simp[z9K,z8J,zf,hl,hcl,hw,hL,e2,zg,zH]
theorem Zac{m:zD}(h:zcp m)(h1:zXl m)(qL:m.jf.length<=4)(s:SnV)(hs:KSn m s)(ex ey view:Int):∀(f l v:Nat) (out:List Spn),l+f=m.jf.length->SeI m l 0 out ->
  ∃(v':Nat) (qF:List Spn),SeI m m.jf.length 0 qF/\Y L Cs z7P (some [3,4,8,2,7,9]) 5 (z9K view l out) (z8J m s ex ey v out)=some (.exit 0,(42,.w (Bo false))::z9K view m.jf.length qF,z8J m s ex ey v' qF):=by
 intro f;induction f with
 |zero =>
  intro l v out hl hI;obtain rfl:l=m.jf.length:=by omega
  refine⟨v,out,hI,?_⟩;rw[zj z7P.eq_1];simp[z9K,z8J,zf]
 |succ f ih =>
  intro l v out hl hI;obtain⟨v1,o1,i1,e1⟩:=Zab h h1 qL s hs ex ey view l (by omega) v out hI;obtain⟨v2,o2,i2,e2⟩:=ih (l+1) v1 o1 (by omega) i1;exact⟨v2,o2,i2,e1.trans e2⟩
structure ZaZ(m:zD)(out:List Spn):Prop where
 ok:∀x∈out,z9Y m x
 ap:out.Pairwise Zai
 len:out.length<=5000
theorem Ck{a b:Nat}(h:(a:Int)<=b*1001+0 / 1000)(hb:b<=4):a<=5000:=by omega
theorem Za1{m:zD}(h:zcp m)(h1:zXl m)(qL:m.jf.length<=4)(s:SnV)(hs:KSn m s)(hk:z31 m s=0)(view:Int)(hv:0<=view/\view<=16777216):∃out,ZaZ m out/\R L Cs z81 [.a (zf m),.a (snC s),W view] []=some (.w (.c (.jc (zWx out))),[]):=by
 have hC:=z5f h s hs;rw[hk]at hC;have qT:=hs.some;have ha:=hs.ags _ (jb qT);obtain⟨ex,ey,hS⟩:=Zg h h1 ha.jy s.agents[0].s;obtain⟨v,out,hI,hL⟩:=Zac h h1 qL s hs ex ey view m.jf.length 0 0 [] (by omega) ⟨by simp,by simp,by simp,by simp⟩;have hv1:¬view<0:=by omega
 have hv2:¬16777216<view:=by omega
 refine⟨out,⟨hI.ok,hI.ap,Ck hI.len qL⟩,?_⟩;generalize hag:s.agents[0]=a at *;simp only[zf,snC,agC,z9K,z8J,snB,jB,zZb,ji]at hC hS hL;rw[zUa z87 rfl];simp[z8f,zf,snC,agC,snB,hC,hS,hL,qT,hag,hv1,hv2,zg,zH,zX]
theorem ZW(n k:Int)(hk:0<k)(hk2:k<=4000000000000000000):R L Cs z9b [W n,W k] []=some (.w (W (n % k)),[]):=by
 rw[zUa z9d rfl];have he:=zEn n k hk;have hb:=kr n hk;have hb0:=kG n (show k≠0 by omega);have hz:(k==0)=false:=beq_false_of_ne (by omega);have hz':k≠0:=by omega
 by_cases h:n.tmod k<0
 ·rw[if_pos h]at he;have e:IntKind.i64.wrap (n.tmod k+k)=n % k:=by rw[<-he];exact zTd _ (by omega) (by omega)
  simp[z77,h,e,hz,hz']
 ·rw[if_neg h]at he;rw[he]at *;simp[z77,h,hz,hz']
def tkV(z:List Int)(k:Int):Int:=match z with
 |[]=>0
 |x::_=>x % (2*k+1)-k
theorem z8H(z:List Int){k:Int}(hk:0<=k):-k<=tkV z k/\tkV z k<=k:=by
 cases z with
 |nil=>simp only[tkV];omega
 |cons x t =>
  have:=kG x (show 2*k+1≠0 by omega);have:=kr x (show 0<2*k+1 by omega);simp only[tkV];omega
theorem z9B(z:List Int)(hz:z.length<=100000)(k:Int)(hk:0<=k/\k<=1000):R L Cs z8Y [.c (.jc (zu z)),W k] []=some (.t [W (tkV z k),.c (.jc (zu z.tail))],[]):=by
 rw[zUa z84 rfl];cases z with
 |nil=>simp[z73,tkV,zg,zH,zX]
 |cons x t =>
  have hm:=ZW x (2*k+1) (by omega) (by omega);have w1:=kQ (2*k);have w2:=kQ (2*k+1);have hb:=kG x (show 2*k+1≠0 by omega);have hb2:=kr x (show 0<2*k+1 by omega);have w3:=kQ (x % (2*k+1)-k);have hne:(((t.length:Int)+1)==0)=false:=beq_false_of_ne (by omega);simp only[jw]at hz;have hlt:1+t.length<=t.length+1:=by omega
  have hlz:(1:Int)<=t.length+1:=by omega
  simp[z73,tkV,hm,w1,w2,w3,hne,hlt,hlz,zg,zH,zX]
theorem ZaH{m:zD}(h1:zXl m){l:zfn}(hl:l∈m.jf)(s:Int):(-10000000<=(atL l s).1/\(atL l s).1<=10000000)/\(-10000000<=(atL l s).2/\(atL l s).2<=10000000):=by
 obtain⟨x0,y0,x1,y1,e,hp⟩:=h1.one l hl;have hb:=hp.b;have hl:=hp.l;have hc:=ZaF (len:=l.len) (s:=s) (by omega);have key:∀a b:Int,(-400000<=a/\a<=400000)->(-400000<=b/\b<=400000)->-10000000<=atX a b l.len s/\atX a b l.len s<=10000000:=by
  intro a b ha hb;unfold atX;generalize clZ l.len s=t at *;have q:-800002<=zXz ((b-a)*t) l.len/\zXz ((b-a)*t) l.len<=800001:=by
   have m1:(b-a)*t<=800000*l.len:=by
    rcases Int.le_total 0 (b-a)with h|h
    ·exact Int.le_trans (jX hc.2 h) (vl (by omega) (by omega))
    ·have:(b-a)*t<=0:=Int.mul_nonpos_of_nonpos_of_nonneg h hc.1;omega
   have m2:-(800000*l.len)<=(b-a)*t:=by
    rcases Int.le_total 0 (b-a)with h|h
    ·have:0<=(b-a)*t:=uY h hc.1;omega
    ·have e1:(a-b)*t<=800000*l.len:=Int.le_trans (jX hc.2 (by omega)) (vl (by omega) (by omega));have e2:(b-a)*t=-((a-b)*t):=by rw[<-Int.neg_mul];congr 1;omega
     omega
   generalize (b-a)*t=u at *;have key2:∀w:Int,w<=800000*l.len->w.tdiv l.len<=800001:=by
    intro w hw;have h0:=Int.tdiv_le_of_le_mul (a:=w) (b:=800000) (c:=l.len) (by omega) hw;split at h0<;>omega
   have d1:=key2 u m1;have d2:=key2 (-u) (by omega);rw[Int.neg_tdiv]at d2;unfold zXz;split<;>omega
  omega
 unfold atL;rw[e];exact⟨key x0 x1 hb.1 hb.2.2.1,key y0 y1 hb.2.1 hb.2.2.2⟩
abbrev snM(m:zD)(s:SnV)(seen:List Spn)(v:Nat)(S:Cl)(G:Mem):Mem:=bx 5 (zf m)::bx 3 (snC s)::bx 3 [I 0,.je,.je]::bxv v 3 [I s.tick,.jc (zWx seen),S]::G
abbrev z9t(z:List Int)(k:Nat)(o:Int)(i kk:Nat):Env:=[(3,.w (.c (.jc (zu z)))),(12,.w (Pt (k+4))),(14,.w (W o)),(11,.w (W i)),(8,.w (Pt 2)),(10,.w (W kk)),(9,.w (Pt 3)),(5,.w (Pt 1)),(4,.w (Pt 0))]
abbrev pbB(p:Int×Int):Option Blk:=bxv 1 2 [I p.1,I p.2]
abbrev ptB(out:List Pnt):Option Blk:=some { box:=false,esz:=3,rows:=zWs out,gen:=out.length,fz:=false,ver:=out.length }
abbrev ptS(q:Nat)(out:List Pnt):Cl:=.slice (q+4) out.length 3 0 out.length none
def ptF(l:zfn)(v o:Int)(z:List Int):Pnt:=⟨(atL l o).1+tkV z 50,(atL l o).2+tkV z.tail 50,v+tkV z.tail.tail 5⟩
@[simp] theorem Za7(l:List Pnt)(p:Pnt):zWs (l++[p])=zWs l++[zYi p]:=by simp[zWs]
theorem Ci{n:Nat}(h:n<=100000):(n+1)*24<=140737488355328:=by omega
theorem Z0{m:zD}(h:zcp m)(h1:zXl m)(s:SnV)(seen:List Spn)(y:Spn)(j:Nat)(hj:j<m.jf.length)(hy:y.lane=j)(i kk:Nat)(hi:i<s.agents.length)(qL:s.agents.length<=8)(hv:0<=s.agents[i].v/\s.agents[i].v<=2000)(z:List Int)(hz:z.length<=1000)(o:Int)(ho:0<=o/\o<=1000000)(G:Mem)(q k v n0:Nat)(out:List Pnt)(yA:out.length<=100000)(hq:G[q]?=some (ptB out))(hk:G[k]?=some (bxv 1 3 (zWX y)))(hqk:q≠k) :
  Y L Cs z7J (some [3,12,14,11,8,10,9,5,4]) n0 (z9t z k o i kk) (snM m s seen v (ptS q out) G) =
    if o=y.hi then some (.exit 4,[(129,.w (Bo true)),(12,.w (Pt (k+4))),(14,.w (W o)),(11,.w (W i)),(8,.w (Pt 2)),(10,.w (W kk)),(9,.w (Pt 3)),(5,.w (Pt 1)),(4,.w (Pt 0)),(3,.w (.c (.jc (zu z.tail.tail.tail))))],snM m s seen (v+1) (ptS q (out++[ptF m.jf[j] s.agents[i].v o z])) (G.set q (ptB (out++[ptF m.jf[j] s.agents[i].v o z]))++[pbB (atL m.jf[j] o),ptB [ptF m.jf[j] s.agents[i].v o z]]))
    else Y L Cs z7J (some [3,12,14,11,8,10,9,5,4]) n0 (z9t z.tail.tail.tail k (min (o+500) y.hi) i kk) (kj n0 (z9t z.tail.tail.tail k (min (o+500) y.hi) i kk) (snM m s seen (v+1) (ptS q (out++[ptF m.jf[j] s.agents[i].v o z])) (G.set q (ptB (out++[ptF m.jf[j] s.agents[i].v o z]))++[pbB (atL m.jf[j] o),ptB [ptF m.jf[j] s.agents[i].v o z]]))):=by
 have hci:(i:Int)<s.agents.length:=by omega
 have hA:=ZH h1 (jb hj) o;have hb:=ZaH h1 (jb hj) o;have t1:=z9B z (by omega) 50 (by omega);have t2:=z9B z.tail (by rw[kA];omega) 50 (by omega);have t3:=z9B z.tail.tail (by rw[kA,kA];omega) 5 (by omega);have b1:=z8H z (k:=50) (by omega);have b2:=z8H z.tail (k:=50) (by omega);have b3:=z8H z.tail.tail (k:=5) (by omega);have jU:=Ci yA;have hql:q<G.length:=by by_cases c:q<G.length;exact c;rw[jG (by omega)]at hq;cases hq
 have hkl:k<G.length:=by by_cases c:k<G.length;exact c;rw[jG (by omega)]at hk;cases hk
 unfold ptF;generalize hag:s.agents[i]=a at *;generalize hat:atL m.jf[j] o=p at *;generalize tkV z 50=d1 at *;generalize tkV z.tail 50=d2 at *;generalize tkV z.tail.tail 5=d3 at *;have w1:=kQ (p.1+d1);have w2:=kQ (p.2+d2);have w3:=kQ (a.v+d3);have w4:=kQ (o+500);have hE1:∀(x:Option Blk) (N:Mem),(G++x::N)[G.length]?=some x:=fun x N=>by simp
 have hE2:∀(x y:Option Blk) (N:Mem),(G++x::y::N)[G.length+1]?=some y:=fun x y N=>by rw[jL (by omega)];simp
 have hEs:∀(x y:Option Blk) (N:Mem),(G++x::N).set G.length y=G++y::N:=fun x y N=>by rw[km _ _ (jk _)];simp
 have hEs2:∀(x y u:Option Blk) (N:Mem),(G++x::y::N).set (G.length+1) u=G++x::u::N:=fun x y u N=>by rw[km _ _ (by omega)];simp
 have hq':∀N:Mem,(G++N)[q]?=some (ptB out):=fun N=>by rw[jq hql,hq]
 have hk':∀N:Mem,(G++N)[k]?=some (bxv 1 3 (zWX y)):=fun N=>by rw[jq hkl,hk]
 have yx:∀(N:Mem) (x:Option Blk),(G++N).set q x=G.set q x++N:=fun N x=>qI _ _ hql
 have hkS:∀(N:Mem) (x:Option Blk),(G.set q x++N)[k]?=some (bxv 1 3 (zWX y)):=fun N x=>by rw[jq (by simpa using hkl),jz hqk,hk]
 have htk:(zWs out).take out.length=zWs out:=jF (by simp[zWs]);unfold zeT at hA;clear hb b1 b2 b3 hq hk hql hkl h h1;rw[zj z7J.eq_1];simp only[ptB,zWX,zWs,qE]at hq' hk' hkS htk;by_cases c:o=y.hi
 ·have cb:(o==y.hi)=true:=by simp[c]
  rw[if_pos c];simp[z9t,snM,ptS,ptB,pbB,zf,snC,agC,zWX,zYi,zo,zWs,hi,hci,hag,hj,hy,hA,t1,t2,t3,w1,w2,w3,w4,hE1,hE2,hEs,hEs2,hq',hk',yx,hkS,htk,jU,cb,zg,zH,-kj]
 ·have cb:(o==y.hi)=false:=by simp[c]
  rw[if_neg c];simp[z9t,snM,ptS,ptB,pbB,zf,snC,agC,zWX,zYi,zo,zWs,hi,hci,hag,hj,hy,hA,t1,t2,t3,w1,w2,w3,w4,hE1,hE2,hEs,hEs2,hq',hk',yx,hkS,htk,jU,cb,zg,zH,-kj]
theorem ZaT{m:zD}(h:zcp m)(h1:zXl m)(s:SnV)(seen:List Spn)(y:Spn)(j:Nat)(hj:j<m.jf.length)(hy:y.lane=j)(i kk:Nat)(hi:i<s.agents.length)(qL:s.agents.length<=8)(hv:0<=s.agents[i].v/\s.agents[i].v<=2000)(z:List Int)(hz:z.length<=1000)(o:Int)(ho:0<=o/\o<=1000000)(v n0:Nat) :
  Y L Cs z7J (some [3,12,14,11,8,10,9,5,4]) n0 (z9t z 0 o i kk) (snM m s seen v .je [bxv 1 3 (zWX y)]) =
    if o=y.hi then some (.exit 4,[(129,.w (Bo true)),(12,.w (Pt 4)),(14,.w (W o)),(11,.w (W i)),(8,.w (Pt 2)),(10,.w (W kk)),(9,.w (Pt 3)),(5,.w (Pt 1)),(4,.w (Pt 0)),(3,.w (.c (.jc (zu z.tail.tail.tail))))],snM m s seen (v+1) (ptS 3 [ptF m.jf[j] s.agents[i].v o z]) [bxv 1 3 (zWX y),pbB (atL m.jf[j] o),ptB [ptF m.jf[j] s.agents[i].v o z],ptB [ptF m.jf[j] s.agents[i].v o z]])
    else Y L Cs z7J (some [3,12,14,11,8,10,9,5,4]) n0 (z9t z.tail.tail.tail 0 (min (o+500) y.hi) i kk) (kj n0 (z9t z.tail.tail.tail 0 (min (o+500) y.hi) i kk) (snM m s seen (v+1) (ptS 3 [ptF m.jf[j] s.agents[i].v o z]) [bxv 1 3 (zWX y),pbB (atL m.jf[j] o),ptB [ptF m.jf[j] s.agents[i].v o z],ptB [ptF m.jf[j] s.agents[i].v o z]])):=by
 have hci:(i:Int)<s.agents.length:=by omega
 have hA:=ZH h1 (jb hj) o;have hb:=ZaH h1 (jb hj) o;have t1:=z9B z (by omega) 50 (by omega);have t2:=z9B z.tail (by rw[kA];omega) 50 (by omega);have t3:=z9B z.tail.tail (by rw[kA,kA];omega) 5 (by omega);have b1:=z8H z (k:=50) (by omega);have b2:=z8H z.tail (k:=50) (by omega);have b3:=z8H z.tail.tail (k:=5) (by omega);unfold ptF;generalize hag:s.agents[i]=a at *;generalize hat:atL m.jf[j] o=p at *;generalize tkV z 50=d1 at *;generalize tkV z.tail 50=d2 at *;generalize tkV z.tail.tail 5=d3 at *;have w1:=kQ (p.1+d1);have w2:=kQ (p.2+d2);have w3:=kQ (a.v+d3);have w4:=kQ (o+500);unfold zeT at hA;clear hb b1 b2 b3 h h1;rw[zj z7J.eq_1];by_cases c:o=y.hi
 ·have cb:(o==y.hi)=true:=by simp[c]
  rw[if_pos c];simp[z9t,snM,ptS,ptB,pbB,zf,snC,agC,zWX,zYi,zo,zWs,hi,hci,hag,hj,hy,hA,t1,t2,t3,w1,w2,w3,w4,cb,zg,zH,-kj]
 ·have cb:(o==y.hi)=false:=by simp[c]
  rw[if_neg c];simp[z9t,snM,ptS,ptB,pbB,zf,snC,agC,zWX,zYi,zo,zWs,hi,hci,hag,hj,hy,hA,t1,t2,t3,w1,w2,w3,w4,cb,zg,zH,-kj]
inductive F2 {α β:Type} (P:α->β->Prop):List α->List β->Prop
 |nil:F2 P [] []
 |cons {a:α} {b:β} {l:List α} {r:List β} (h:P a b) (t:F2 P l r):F2 P (a::l) (b::r)
theorem F2.snoc{α β:Type}{P:α->β->Prop}{l:List α}{r:List β}(h:F2 P l r){a:α}{b:β}(hab:P a b):F2 P (l++[a]) (r++[b]):=by
 induction h with
 |nil=>exact .cons hab .nil
 |cons h t ih=>exact .cons h ih
theorem F2.len{α β:Type}{P:α->β->Prop}{l:List α}{r:List β}(h:F2 P l r):l.length=r.length:=by
 induction h with
 |nil=>rfl
 |cons h t ih=>simp[ih]
theorem F2.left{α β:Type}{P:α->β->Prop}{l:List α}{r:List β}(h:F2 P l r):∀a∈l,∃b∈r,P a b:=by
 induction h with
 |nil=>intro a ha;cases ha
 |cons h t ih =>
  intro x hx;rcases js.1 hx with rfl|hx
  ·exact⟨_,jr ..,h⟩
  ·obtain⟨b,hb,hp⟩:=ih x hx;exact⟨b,jp _ hb,hp⟩
theorem F2.right{α β:Type}{P:α->β->Prop}{l:List α}{r:List β}(h:F2 P l r):∀b∈r,∃a∈l,P a b:=by
 induction h with
 |nil=>intro a ha;cases ha
 |cons h t ih =>
  intro x hx;rcases js.1 hx with rfl|hx
  ·exact⟨_,jr ..,h⟩
  ·obtain⟨b,hb,hp⟩:=ih x hx;exact⟨b,jp _ hb,hp⟩
def z8q:Nat->Int->Int->List Int
 |0,o,_=>[o]
 |f+1,o,hi=>if o=hi then [o] else o::z8q f (min (o+500) hi) hi
structure z9m(l:zfn)(v o:Int)(p:Pnt):Prop where
 x:(atL l o).1-50<=p.x/\p.x<=(atL l o).1+50
 y:(atL l o).2-50<=p.y/\p.y<=(atL l o).2+50
 v:v-5<=p.v/\p.v<=v+5
theorem z9L(l:zfn)(v o:Int)(z:List Int):z9m l v o (ptF l v o z):=by
 have b1:=z8H z (k:=50) (by omega);have b2:=z8H z.tail (k:=50) (by omega);have b3:=z8H z.tail.tail (k:=5) (by omega);exact⟨by simp only[ptF];omega,by simp only[ptF];omega,by simp only[ptF];omega⟩
def pbw(n:Nat):Option Blk->Bool
 |some b=>b.below n
 |none=>true
def PB(x:Option Blk):Prop:=∀n,pbw n x=true
theorem z98(out:List Pnt):PB (ptB out):=fun n=>by simp[pbw,Blk.below]
theorem ZaO(p:Int×Int):PB (pbB p):=fun n=>by simp[pbw,Blk.below,Eng.below,uJ]
theorem Z7(v:Nat)(y:Spn):PB (bxv v 3 (zWX y)):=fun n=>by simp[pbw,Blk.below,Eng.below,uJ,zWX]
theorem Zb{m:zD}{s:SnV}{seen:List Spn}{v q n:Nat}{out:List Pnt}{G N:Mem}{E:Env}(hn:n=G.length+4)(hq:q<G.length)(hG:∀x∈G,PB x)(hE:E.all (fun x=>x.2.below n)=true):kj n E (snM m s seen v (ptS q out) (G++N))=snM m s seen v (ptS q out) G:=by
 subst hn;unfold kj;split
 ·rename_i h;have hN:N=[]:=jN.1 (by simp only[snM,jw,jt]at h;omega);subst hN;simp
 ·rw[if_pos]
  ·simp
  ·rw[hE,qy];have e:List.take (G.length+4) (snM m s seen v (ptS q out) (G++N))=snM m s seen v (ptS q out) G:=by simp
   rw[e];simp[zH,Blk.below,Eng.below,uJ,zf,snC];refine⟨by omega,fun x hx=>?_⟩;have:=hG x hx (G.length+4);cases x with
   |none=>rfl
   |some b=>simpa [pbw,Blk.below]using this
theorem ZZ{m:zD}{s:SnV}{seen:List Spn}{v:Nat}{N:Mem}{E:Env}(hE:E.all (fun x=>x.2.below 4)=true):kj 4 E (snM m s seen v .je N)=snM m s seen v .je []:=by
 unfold kj;split
 ·rename_i h;have hN:N=[]:=jN.1 (by simp only[snM,jw]at h;omega);subst hN;rfl
 ·rw[if_pos]
  ·simp
  ·rw[hE,qy];simp[zH,Blk.below,Eng.below,uJ,zf,snC]
theorem z8I{m:zD}{s:SnV}{seen:List Spn}{v q n:Nat}{out:List Pnt}{G:Mem}{E:Env}(h4:4<=n)(hn:n<=q+4):kj n E (snM m s seen v (ptS q out) G)=snM m s seen v (ptS q out) G:=by
 unfold kj;split
 ·rfl
 ·rw[if_neg];obtain⟨k,rfl⟩:∃k,n=k+4:=⟨n-4,by omega⟩;have hc:¬q+4+1<=k+4:=by omega
  simp[zH,Blk.below,Eng.below,uJ,hc]
theorem ZN(z:List Int){k n:Nat}(o:Int)(i kk:Nat)(hk:k+5<=n):(z9t z k o i kk).all (fun x=>x.2.below n)=true:=by
 have h1:2+1<=n:=by omega
 have h2:3+1<=n:=by omega
 have h3:1+1<=n:=by omega
 have h4:0+1<=n:=by omega
 simp[AV.below,WV.below,WV.cells,Eng.below,uJ];exact⟨decide_eq_true (show k+4+1<=n by omega),decide_eq_true (show 3<=n by omega),decide_eq_true (show 4<=n by omega),decide_eq_true (show 2<=n by omega),by omega⟩
abbrev Za9(z:List Int)(k:Nat)(o:Int)(i kk:Nat):Env:=[(129,.w (Bo true)),(12,.w (Pt (k+4))),(14,.w (W o)),(11,.w (W i)),(8,.w (Pt 2)),(10,.w (W kk)),(9,.w (Pt 3)),(5,.w (Pt 1)),(4,.w (Pt 0)),(3,.w (.c (.jc (zu z))))]
theorem Zo{m:zD}(h:zcp m)(h1:zXl m)(s:SnV)(seen:List Spn)(y:Spn)(j:Nat)(hj:j<m.jf.length)(hy:y.lane=j)(i kk:Nat)(hi:i<s.agents.length)(qL:s.agents.length<=8)(hv:0<=s.agents[i].v/\s.agents[i].v<=2000)(hyh:y.hi<=1000000)(q k n0:Nat)(hqk:q≠k)(h4:4<=n0):∀(f:Nat) (o:Int) (z:List Int) (G:Mem) (v:Nat) (out:List Pnt),y.hi-o<=500*f->0<=o->o<=y.hi->z.length<=1000->out.length+(f+1)<=100000->G[q]?=some (ptB out)->G[k]?=some (bxv 1 3 (zWX y))->(∀x∈G,PB x)->(n0=G.length+4\/n0<=q+4) ->
  ∃(z':List Int) (ps:List Pnt) (v':Nat) (G':Mem),z'.length<=1000/\F2 (z9m m.jf[j] s.agents[i].v) (z8q f o y.hi) ps/\G'[q]?=some (ptB (out++ps))/\G.length<=G'.length/\(∀x∈G',PB x) /\
  Y L Cs z7J (some [3,12,14,11,8,10,9,5,4]) n0 (z9t z k o i kk) (snM m s seen v (ptS q out) G)=some (.exit 4,Za9 z' k y.hi i kk,snM m s seen v' (ptS q (out++ps)) G'):=by
 intro f;induction f with
 |zero =>
  intro o z G v out hf h0 hoh hz yA hq hk hG hN;have e:o=y.hi:=by omega
  have hS:=Z0 h h1 s seen y j hj hy i kk hi qL hv z hz o (by omega) G q k v n0 out (by omega) hq hk hqk;rw[if_pos e]at hS;have hql:q<G.length:=by by_cases c:q<G.length;exact c;rw[jG (by omega)]at hq;cases hq
  refine⟨z.tail.tail.tail,[ptF m.jf[j] s.agents[i].v o z],_,_,by simp only[kA];omega,.cons (z9L ..) .nil,?_,?_,?_,by rw[hS,<-e]⟩
  ·rw[jq (by simpa using hql),j6 hql]
  ·simp
  ·intro x hx;rcases jm.1 hx with hx|hx
   ·rcases kE hx with hx|rfl
    ·exact hG x hx
    ·exact z98 _
   ·simp only[js,j8,or_false]at hx;rcases hx with rfl|rfl
    ·exact ZaO _
    ·exact z98 _
 |succ f ih =>
  intro o z G v out hf h0 hoh hz yA hq hk hG hN;have hS:=Z0 h h1 s seen y j hj hy i kk hi qL hv z hz o (by omega) G q k v n0 out (by omega) hq hk hqk;have hql:q<G.length:=by by_cases c:q<G.length;exact c;rw[jG (by omega)]at hq;cases hq
  have hkl:k<G.length:=by by_cases c:k<G.length;exact c;rw[jG (by omega)]at hk;cases hk
  generalize hr:ptF m.jf[j] s.agents[i].v o z=r at *;have hnr:z9m m.jf[j] s.agents[i].v o r:=by rw[<-hr];exact z9L ..
  have yx:∀x∈G.set q (ptB (out++[r])),PB x:=by
   intro x hx;rcases kE hx with hx|rfl
   ·exact hG x hx
   ·exact z98 _
  have uj:∀x∈G.set q (ptB (out++[r]))++[pbB (atL m.jf[j] o),ptB [r]],PB x:=by
   intro x hx;rcases jm.1 hx with hx|hx
   ·exact yx x hx
   ·simp only[js,j8,or_false]at hx;rcases hx with rfl|rfl
    ·exact ZaO _
    ·exact z98 _
  by_cases e:o=y.hi
  ·rw[if_pos e]at hS;refine⟨z.tail.tail.tail,[r],_,_,by simp only[kA];omega,?_,?_,?_,uj,by rw[hS,<-e]⟩
   ·unfold z8q;rw[if_pos e];exact .cons hnr .nil
   ·rw[jq (by simpa using hql),j6 hql]
   ·simp
  ·rw[if_neg e]at hS;have hm:min (o+500) y.hi<=y.hi/\o<=min (o+500) y.hi/\(y.hi-min (o+500) y.hi<=500*f):=by omega
   have A4:z8q (f+1) o y.hi=o::z8q f (min (o+500) y.hi) y.hi:=by rw[z8q,if_neg e]
   rw[A4];rcases hN with hN|hN
   ·rw[Zb (by simpa using hN) (by simpa using hql) yx (ZN _ _ _ _ (by omega))]at hS;obtain⟨z2,ps,v2,G2,g1,g2,g3,g4,g5,g6⟩:=ih (min (o+500) y.hi) z.tail.tail.tail (G.set q (ptB (out++[r]))) (v+1) (out++[r]) hm.2.2 (by omega) hm.1 (by simp only[kA];omega) (by simp;omega) (j6 hql) (by rw[jz hqk,hk]) yx (.inl (by simpa using hN));rw[jA]at g3 g6;exact⟨z2,r::ps,v2,G2,g1,.cons hnr g2,g3,by simpa using g4,g5,hS.trans g6⟩
   ·rw[z8I h4 hN]at hS;obtain⟨z2,ps,v2,G2,g1,g2,g3,g4,g5,g6⟩:=ih (min (o+500) y.hi) z.tail.tail.tail _ (v+1) (out++[r]) hm.2.2 (by omega) hm.1 (by simp only[kA];omega) (by simp;omega) (by rw[jq (by simpa using hql),j6 hql]) (by rw[jq (by simpa using hkl),jz hqk,hk]) uj (.inr hN);rw[jA]at g3 g6;exact⟨z2,r::ps,v2,G2,g1,.cons hnr g2,g3,by simp at g4;omega,g5,hS.trans g6⟩
inductive StS (n0:Nat):List Pnt->Cl->Mem->Prop
 |nil (h:n0=4):StS n0 [] .je []
 |own (q:Nat) {out:List Pnt} {G:Mem} (hq:G[q]?=some (ptB out)) (hG:∀x∈G,PB x) (hn:n0=G.length+4\/4<=n0/\n0<=q+4):StS n0 out (ptS q out) G
theorem StS.drop{n0:Nat}{out:List Pnt}{S:Cl}{G:Mem}(h:StS n0 out S G){m:zD}{s:SnV}{seen:List Spn}{v:Nat}{X:Option Blk}(hX:PB X){E:Env}(hE:E.all (fun x=>x.2.below n0)=true):∃G',kj n0 E (snM m s seen v S (G++[X]))=snM m s seen v S G'/\StS n0 out S G':=by
 cases h with
 |nil h =>
  subst h;exact⟨[],ZZ hE,.nil rfl⟩
 |own q hq hG hn =>
  have hql:q<G.length:=by by_cases c:q<G.length;exact c;rw[jG (by omega)]at hq;cases hq
  rcases hn with hn|hn
  ·exact⟨G,Zb hn hql hG hE,.own q hq hG (.inl hn)⟩
  ·refine⟨G++[X],z8I hn.1 hn.2,.own q (by rw[jq hql,hq]) ?_ (.inr hn)⟩;intro x hx;rcases jm.1 hx with hx|hx
   ·exact hG x hx
   ·simp only[jh]at hx;subst hx;exact hX
theorem Zan{n0 q g:Nat}{out:List Pnt}{G:Mem}(hq:G[q]?=some (ptB out))(hG:∀x∈G,PB x)(hqg:q<g)(hg:g<=G.length)(hn:n0=g+4\/4<=n0/\n0<=q+4){m:zD}{s:SnV}{seen:List Spn}{v:Nat}{E:Env}(hE:E.all (fun x=>x.2.below n0)=true):∃G',kj n0 E (snM m s seen v (ptS q out) G)=snM m s seen v (ptS q out) G'/\StS n0 out (ptS q out) G':=by
 rcases hn with hn|hn
 ·have hT:(G.take g)[q]?=some (ptB out):=by rw[kW hqg,hq]
  have hGT:∀x∈G.take g,PB x:=fun x hx=>hG x (qs hx)
  have hl:(G.take g).length=g:=by simp;omega
  have h:=Zb (m:=m) (s:=s) (seen:=seen) (v:=v) (q:=q) (n:=n0) (out:=out) (G:=G.take g) (N:=G.drop g) (E:=E) (by omega) (by omega) hGT hE;rw[jO]at h;exact⟨_,h,.own q hT hGT (.inl (by omega))⟩
 ·exact⟨G,z8I hn.1 hn.2,.own q hq hG (.inr hn)⟩
theorem Za8{m:zD}(h:zcp m)(h1:zXl m)(s:SnV)(seen:List Spn)(y:Spn)(j:Nat)(hj:j<m.jf.length)(hy:y.lane=j)(i kk:Nat)(hi:i<s.agents.length)(qL:s.agents.length<=8)(hv:0<=s.agents[i].v/\s.agents[i].v<=2000)(hy0:0<=y.lo)(hyl:y.lo<=y.hi)(hyh:y.hi<=1000000)(hy5:y.hi-y.lo<=20000)(n0 v:Nat)(z:List Int)(hz:z.length<=1000)(out:List Pnt)(yA:out.length+42<=100000)(S:Cl)(G:Mem)(hS:StS n0 out S G) :
  ∃(z':List Int) (ps:List Pnt) (v':Nat) (S':Cl) (G':Mem),z'.length<=1000/\F2 (z9m m.jf[j] s.agents[i].v) (z8q 41 y.lo y.hi) ps /\
  Y L Cs z7J (some [3,12,14,11,8,10,9,5,4]) (G.length+5) (z9t z G.length y.lo i kk) (snM m s seen v S (G++[bxv 1 3 (zWX y)]))=some (.exit 4,Za9 z' G.length y.hi i kk,snM m s seen v' S' G') /\
  ∀E:Env,E.all (fun x=>x.2.below n0)=true->∃G'',kj n0 E (snM m s seen v' S' G')=snM m s seen v' S' G''/\StS n0 (out++ps) S' G'':=by
 cases hS with
 |nil hn =>
  subst hn;have e:=ZaT h h1 s seen y j hj hy i kk hi qL hv z hz y.lo (by omega) v 5;generalize hr:ptF m.jf[j] s.agents[i].v y.lo z=r at *;have hnr:z9m m.jf[j] s.agents[i].v y.lo r:=by rw[<-hr];exact z9L ..
  have uj:∀x∈[bxv 1 3 (zWX y),pbB (atL m.jf[j] y.lo),ptB [r],ptB [r]],PB x:=by
   intro x hx;simp only[js,j8,or_false]at hx;rcases hx with rfl|rfl|rfl|rfl
   ·exact Z7 _ _
   ·exact ZaO _
   ·exact z98 _
   ·exact z98 _
  by_cases c:y.lo=y.hi
  ·rw[if_pos c]at e;refine⟨z.tail.tail.tail,[r],v+1,ptS 3 [r],_,by simp only[kA];omega,?_,?_,fun E hE=>⟨_,z8I (by omega) (by omega),.own 3 rfl uj (.inr ⟨by omega,by omega⟩)⟩⟩
   ·rw[z8q,if_pos c];exact .cons hnr .nil
   ·rw[<-c];exact e
  ·rw[if_neg c,z8I (by omega) (by omega)]at e;obtain⟨z2,ps,v2,G2,g1,g2,g3,g4,g5,g6⟩:=Zo h h1 s seen y j hj hy i kk hi qL hv hyh 3 0 5 (by omega) (by omega) 40 (min (y.lo+500) y.hi) z.tail.tail.tail _ (v+1) [r] (by omega) (by omega) (by omega) (by simp only[kA];omega) (by simp) rfl rfl uj (.inr (by omega));refine⟨z2,r::ps,v2,_,G2,g1,?_,e.trans g6,fun E hE=>⟨_,z8I (by omega) (by omega),.own 3 g3 g5 (.inr ⟨by omega,by omega⟩)⟩⟩;rw[z8q,if_neg c];exact .cons hnr g2
 |own q hq hG hn =>
  have hql:q<G.length:=by by_cases c:q<G.length;exact c;rw[jG (by omega)]at hq;cases hq
  obtain⟨z2,ps,v2,G2,g1,g2,g3,g4,g5,g6⟩:=Zo h h1 s seen y j hj hy i kk hi qL hv hyh q G.length (G.length+5) (by omega) (by omega) 41 y.lo z (G++[bxv 1 3 (zWX y)]) v out (by omega) (by omega) (by omega) hz (by omega) (by rw[jq hql,hq]) (by simp) (by
   intro x hx;rcases jm.1 hx with hx|hx
   ·exact hG x hx
   ·simp only[jh]at hx;subst hx;exact Z7 _ _) (.inl (by simp))
  exact⟨z2,ps,v2,_,G2,g1,g2,g6,fun E hE=>Zan g3 g5 hql (by simp at g4;omega) hn hE⟩
abbrev z9q:AgV:=⟨[],0,0,0,0,false,false⟩
def ZC(m:zD)(s:SnV)(p:Spn×Nat)(ps:List Pnt):Prop:=match z9J (z2B m (s.agents.getD p.2 z9q)) p.1 with
 |some y=>if(s.agents.getD p.2 z9q).start<=s.tick then ∃(j:Nat) (hj:j<m.jf.length),y.lane=j/\F2 (z9m m.jf[j] (s.agents.getD p.2 z9q).v) (z8q 41 y.lo y.hi) ps else ps=[]
 |none=>ps=[]
abbrev z9W(z:List Int)(i kk:Nat):Env:=[(11,.w (W i)),(8,.w (Pt 2)),(10,.w (W kk)),(9,.w (Pt 3)),(5,.w (Pt 1)),(4,.w (Pt 0)),(3,.w (.c (.jc (zu z))))]
theorem z9o(z:List Int){n:Nat}(i kk:Nat)(hk:4<=n):(z9W z i kk).all (fun x=>x.2.below n)=true:=by
 simp[AV.below,WV.below,WV.cells,Eng.below,uJ];exact⟨decide_eq_true (show 3<=n by omega),decide_eq_true (show 4<=n by omega),decide_eq_true (show 2<=n by omega),by omega⟩
theorem StS.four{n0:Nat}{out:List Pnt}{S:Cl}{G:Mem}(h:StS n0 out S G):4<=n0:=by
 cases h with
 |nil h=>omega
 |own q hq hG hn=>omega
theorem z8P{m:zD}(a:AgV):∀(r:List Int) (i:Nat),(∀x∈z4F m a i r,x.lo<=x.hi/\0<=x.lo/\x.lane∈r/\x.hi<=z8 m x.lane/\(x.hi-x.lo<=max 0 a.len))
 |[],_=>by simp[z4F]
 |x::r,i=>by
  intro y hy;unfold z4F at hy;rcases jm.1 hy with hy|hy
  ·split at hy
   ·rename_i c;simp only[jh]at hy;subst hy;refine⟨c,?_,jr ..,?_,?_⟩
    ·show 0<=max 0 (a.s-a.len-zb4 m a.jy i);omega
    ·show min (a.s-zb4 m a.jy i) (z8 m x)<=z8 m x;omega
    ·show min (a.s-zb4 m a.jy i) (z8 m x)-max 0 (a.s-a.len-zb4 m a.jy i)<=max 0 a.len;omega
   ·cases hy
  ·obtain⟨h1,h2,h3,h4⟩:=z8P a r (i+1) y hy;exact⟨h1,h2,jp _ h3,h4⟩
theorem z9F{m:zD}{a:AgV}{x y:Spn}(hx:z9Y m x)(hl:a.len<=20000)(h:z9J (z2B m a) x=some y):∃b∈z2B m a,y=Zn x b/\y.lane=x.lane/\b.lane=x.lane/\0<=y.lo/\y.lo<=y.hi/\y.hi<=x.hi/\x.lo<=y.lo/\b.lo<=y.lo/\y.hi<=b.hi/\y.hi-y.lo<=20000:=by
 unfold z9J at h;cases hq:(z2B m a).findIdx? (z9A x)with
 |none=>rw[hq]at h;cases h
 |some i =>
  rw[hq]at h;obtain⟨h1,h2,_⟩:=jT.1 hq;have hb:=jb h1;have e:(z2B m a).getD i ⟨0,0,0⟩=(z2B m a)[i]:=by simp[h1]
  simp only[qC,e,jd]at h;generalize (z2B m a)[i]=b at *;have hbo:=z8P a a.jy 0 b hb;unfold z9A at h2;simp only[jg,decide_eq_true_eq]at h2;subst h;obtain⟨x1,x2,x3,x4⟩:=hx;refine⟨b,hb,rfl,rfl,h2.1,?_,?_,?_,?_,?_,?_,?_⟩<;>simp only[Zn]<;>omega
theorem z9E{n:Nat}{E:Env}{M:Mem}(h:M.length<=n):kj n E M=M:=by unfold kj;rw[if_pos h]
theorem Zaq{m:zD}(h:zcp m)(h1:zXl m)(s:SnV)(hs:KSn m s)(hvs:∀a∈s.agents,0<=a.v/\a.v<=2000)(seen:List Spn)(hse:∀x∈seen,z9Y m x)(hsl:seen.length<=5000)(i kk:Nat)(hi:i<s.agents.length)(hkk:kk<seen.length)(n0 v:Nat)(z:List Int)(hz:z.length<=1000)(out:List Pnt)(yA:out.length+42<=100000)(S:Cl)(G:Mem)(hS:StS n0 out S G) :
  ∃(z':List Int) (ps:List Pnt) (v':Nat) (S':Cl) (G':Mem),z'.length<=1000/\ZC m s (seen[kk],i) ps/\StS n0 (out++ps) S' G' /\
  Y L Cs z7K (some [11,8,10,9,5,4,3]) n0 (z9W z i kk) (snM m s seen v S G)=Y L Cs z7K (some [11,8,10,9,5,4,3]) n0 (z9W z' (i+1) kk) (snM m s seen v' S' G'):=by
 have qL:=hs.few;have hw:=zB (i:=i) (by omega);have hci:(i:Int)<s.agents.length:=by omega
 have hck:(kk:Int)<seen.length:=by omega
 have ha:=hs.ags _ (jb hi);have hav:=hvs _ (jb hi);have hx:=hse _ (jb hkk);have hT:=z56 s i hi ha.here;have hO:=ZaI h ha seen[kk];have hOk:=fun y e=>z9F (y:=y) hx ha.len.2 e
 have qr:s.agents.getD i z9q=s.agents[i]:=by simp[hi]
 have hE1:∀(x:Option Blk) (N:Mem),(G++x::N)[G.length]?=some x:=fun x N=>by simp
 have hEs:∀(x y:Option Blk) (N:Mem),(G++x::N).set G.length y=G++y::N:=fun x y N=>by rw[km _ _ (jk _)];simp
 unfold ZC;simp only[qr];generalize ho:z9J (z2B m s.agents[i]) seen[kk]=o at *;simp only[zf,agC,snC,zWX,Zm]at hT hO;cases o with
 |none =>
  obtain⟨G',hd,hS'⟩:=hS.drop (X:=bxv 1 3 (zWX ⟨0,0,0⟩)) (Z7 _ _) (m:=m) (s:=s) (seen:=seen) (v:=v) (z9o z (i+1) kk hS.four);refine⟨z,[],v,S,G',hz,rfl,by simpa using hS',?_⟩;rw[<-hd];simp at hO;clear hOk hd hS' hS;rw[zj z7K.eq_1];simp[z9W,snM,zf,snC,agC,zWX,hi,hci,hkk,hck,hw,hO,hE1,hEs,zg,zH,-kj]
 |some y =>
  obtain⟨b,hb,hyc,hyl,hbl,y0,y1,y2,y3,y4,y5,y6⟩:=hOk y rfl;by_cases c:s.agents[i].start<=s.tick
  ·rw[decide_eq_true c]at hT;obtain⟨j,hj⟩:=jC hx.1.1;have hjl:j<m.jf.length:=by have:=hx.1.2;omega
   have hlen:=zcX h hx.1;have hxh:=hx.2.2.2;obtain⟨z',ps,v',S',G',g1,g2,g3,g4⟩:=Za8 h h1 s seen y j hjl (by rw[hyl,hj]) i kk hi qL hav y0 y1 (by omega) y6 n0 v z hz out yA S G hS;obtain⟨G'',hd,hS''⟩:=g4 _ (z9o z' (i+1) kk hS.four);refine⟨z',ps,v',S',G'',g1,?_,hS'',?_⟩
   ·simp only;rw[if_pos c];exact⟨j,hjl,by rw[hyl,hj],g2⟩
   rw[<-hd];have hdl:∀(E:Env) (x:Option Blk),kj (G.length+5) E (snM m s seen v S (G++[x]))=snM m s seen v S (G++[x]):=fun E x=>z9E (by simp)
   clear hOk hd hS'' hS g4 hlen hxh hb;simp only[snM,zf,snC,agC,zWX]at g3 hdl hO;rw[zj z7K.eq_1];simp at hO;simp[z9t,Za9,z9W,snM,zf,snC,agC,zWX,hi,hci,hkk,hck,hw,hO,hT,hE1,hEs,hdl,g3,zg,zH,-kj]
  ·rw[decide_eq_false c]at hT;obtain⟨G',hd,hS'⟩:=hS.drop (X:=bxv 1 3 (zWX y)) (Z7 _ _) (m:=m) (s:=s) (seen:=seen) (v:=v) (z9o z (i+1) kk hS.four);refine⟨z,[],v,S,G',hz,?_,by simpa using hS',?_⟩
   ·simp[c]
   rw[<-hd];clear hOk hd hS' hS hb;rw[zj z7K.eq_1];simp at hO;simp[z9W,snM,zf,snC,agC,zWX,hi,hci,hkk,hck,hw,hO,hT,hE1,hEs,zg,zH,-kj]
def z9Z(m:zD)(s:SnV)(d:List (Spn×Nat))(out:List Pnt):Prop:=∃pss,F2 (ZC m s) d pss/\out=pss.flatten
theorem z9Z.snoc{m:zD}{s:SnV}{d:List (Spn×Nat)}{out:List Pnt}(h:z9Z m s d out){p:Spn×Nat}{ps:List Pnt}(hp:ZC m s p ps):z9Z m s (d++[p]) (out++ps):=by
 obtain⟨pss,h1,rfl⟩:=h;exact⟨pss++[ps],h1.snoc hp,by simp⟩
def z9D(x:Spn)(n:Nat):List (Spn×Nat):=(List.range n).map fun i=>(x,i+1)
theorem Zah(x:Spn)(n:Nat):z9D x (n+1)=z9D x n++[(x,n+1)]:=by simp[z9D,List.range_succ]
abbrev cvZ:List Cl:=[I 0,.je,I 0,I 0,I 0,I 0]
abbrev cwM(m:zD)(s:SnV)(v:Nat)(S:Cl)(G:Mem):Mem:=bx 5 (zf m)::bx 3 (snC s)::bx 6 cvZ::bxv v 6 [I s.tick,S,I 0,I 0,I 0,I 0]::G
abbrev blB(out:List zk):Option Blk:=some { box:=false,esz:=6,rows:=zI out,gen:=out.length,fz:=false,ver:=out.length }
abbrev blS(q:Nat)(out:List zk):Cl:=.slice (q+4) out.length 6 0 out.length none
theorem ZaP(out:List zk):PB (blB out):=fun n=>by simp[pbw,Blk.below]
theorem ZaY{m:zD}{s:SnV}{v q n:Nat}{out:List zk}{G N:Mem}{E:Env}(hn:n=G.length+4)(hq:q<G.length)(hG:∀x∈G,PB x)(hE:E.all (fun x=>x.2.below n)=true):kj n E (cwM m s v (blS q out) (G++N))=cwM m s v (blS q out) G:=by
 subst hn;unfold kj;split
 ·rename_i h;have hN:N=[]:=jN.1 (by simp only[cwM,jw,jt]at h;omega);subst hN;simp
 ·rw[if_pos]
  ·simp
  ·rw[hE,qy];have e:List.take (G.length+4) (cwM m s v (blS q out) (G++N))=cwM m s v (blS q out) G:=by simp
   rw[e];simp[zH,Blk.below,Eng.below,uJ,zf,snC];refine⟨by omega,fun x hx=>?_⟩;have:=hG x hx (G.length+4);cases x with
   |none=>rfl
   |some b=>simp[pbw,Blk.below]at this;simpa using this
theorem Z4{m:zD}{s:SnV}{v q n:Nat}{out:List zk}{G:Mem}{E:Env}(h4:4<=n)(hn:n<=q+4):kj n E (cwM m s v (blS q out) G)=cwM m s v (blS q out) G:=by
 unfold kj;split
 ·rfl
 ·rw[if_neg];obtain⟨k,rfl⟩:∃k,n=k+4:=⟨n-4,by omega⟩;have hc:¬q+4+1<=k+4:=by omega
  simp[zH,Blk.below,Eng.below,uJ,hc]
inductive StB (n0:Nat):List zk->Cl->Mem->Prop
 |nil (h:n0=4):StB n0 [] .je []
 |own (q:Nat) {out:List zk} {G:Mem} (hq:G[q]?=some (blB out)) (hG:∀x∈G,PB x) (hn:n0=G.length+4\/4<=n0/\n0<=q+4):StB n0 out (blS q out) G
abbrev z9r(at_ j:Nat)(sp:Int)(pad:List Int)(ps:List Spn)(i:Nat):Env:=[(10,.w (W at_)),(13,.w (W j)),(3,.w (W sp)),(8,.w (Pt 2)),(2,.w (.c (.jc (zu pad)))),(4,.w (Pt 0)),(12,.w (.c (.jc (zWx ps)))),(5,.w (Pt 1)),(11,.w (W i)),(9,.w (Pt 3))]
theorem ZS(at_ j:Nat)(sp:Int)(pad:List Int)(ps:List Spn)(i:Nat){n:Nat}(hn:4<=n):(z9r at_ j sp pad ps i).all (fun x=>x.2.below n)=true:=by
 simp[AV.below,WV.below,WV.cells,Eng.below,uJ];refine⟨?_,?_,?_,?_⟩<;>first |omega |exact decide_eq_true (by omega)
theorem room48{n:Nat}(h:n<=100000):(n+1)*48<=140737488355328:=by omega
theorem ZaC{m:zD}(h:zcp m)(s:SnV)(hs:KSn m s)(sp:Int)(pad:List Int)(A3:pad.length<=1000)(hpi:∀x∈pad,zk0 x)(ps:List Spn)(hps:∀x∈ps,(0<=x.lane/\x.lane<m.jf.length)/\0<=x.lo/\x.lo<=x.hi/\x.hi<=z8 m x.lane)(hpl:ps.length<=8)(i j at_:Nat)(hi:i<s.agents.length)(hj:j<ps.length)(hat:at_<=1000)(hst:(s.agents[i]'hi).start<=s.tick)(n0 v:Nat)(out:List zk)(yA:out.length<=1000)(S:Cl)(G:Mem)(hS:StB n0 out S G) :
  ∃(b:zk) (v':Nat) (S':Cl) (G':Mem),OKB b/\StB n0 (out++[b]) S' G' /\
  Y L Cs z7G (some [10,13,3,8,2,4,12,5,11,9]) n0 (z9r at_ j sp pad ps i) (cwM m s v S G)=Y L Cs z7G (some [10,13,3,8,2,4,12,5,11,9]) n0 (z9r (at_+1) (j+1) sp pad ps i) (cwM m s v' S' G'):=by
 have qL:=hs.few;have hw:=zB (i:=j) (by omega);have hwa:=zB (i:=at_) (by omega);have hci:(i:Int)<s.agents.length:=by omega
 have hcj:(j:Int)<ps.length:=by omega
 have ha:=hs.ags _ (jb hi);have hT:=z56 s i hi ha.here;rw[decide_eq_true hst]at hT;obtain⟨px1,px2,px3,px4⟩:=hps _ (jb hj);obtain⟨jl,hjl⟩:=jC px1.1;have hjm:jl<m.jf.length:=by omega
 have hB:=zhv (h.kind _ (jb hjm));have hL:=zEV h px1;have hlen:=zcX h px1;obtain⟨p,hpI,hP⟩:∃p:Int,zk0 p/\((pad=[]/\p=0/\p % 3000=IntKind.i64.wrap (p.tdiv 7) % 3000/\p % 50=IntKind.i64.wrap (p.tdiv 3) % 50)\/0<pad.length/\∃(hh:at_ % pad.length<pad.length),p=pad[at_ % pad.length]):=by
  by_cases c:pad.length=0
  ·exact⟨0,by unfold zk0;omega,.inl ⟨jN.1 c,rfl,rfl,rfl⟩⟩
  ·have hh:=qv at_ (show 0<pad.length by omega);exact⟨pad[at_ % pad.length],hpi _ (jb hh),.inr ⟨by omega,hh,rfl⟩⟩
 have m1:=zD0 p 3000 (by omega) (by omega);have m2:=zD0 (IntKind.i64.wrap (p.tdiv 7)) 3000 (by omega) (by omega);have m3:=zD0 p 50 (by omega) (by omega);have m4:=zD0 (IntKind.i64.wrap (p.tdiv 3)) 50 (by omega) (by omega);have r1:=zDJ p 3000 (by omega);have r2:=zDJ (IntKind.i64.wrap (p.tdiv 7)) 3000 (by omega);generalize p % 3000=d1 at *;generalize IntKind.i64.wrap (p.tdiv 7) % 3000=d2 at *;generalize p % 50=d3 at *;generalize IntKind.i64.wrap (p.tdiv 3) % 50=d4 at *;generalize hag:s.agents[i]=a at *;generalize hx:ps[j]=x at *;have w1:=kQ (x.lo-d1);have w2:=kQ (x.hi+d2);generalize hln:z8 m x.lane=ln at *;rw[hjl]at hL;generalize hv1:IntKind.i64.wrap (a.v-d3)=u1 at *;generalize hv2:IntKind.i64.wrap (a.v+d4)=u2 at *;generalize htv:zeR m.jf[jl].kind=tv at *;let b:zk:=⟨jl,max 0 (x.lo-d1),min ln (x.hi+d2),max 0 u1,min tv u2,0⟩;have hbk:OKB b:=⟨by show -9223372036854775808<=max 0 (x.lo-d1);omega,by show max 0 (x.lo-d1)<=9223372036854775807;omega,by show -9223372036854775808<=min ln (x.hi+d2);omega,by show min ln (x.hi+d2)<=9223372036854775807;omega⟩;have q5:Int.tmod (at_:Int) (pad.length:Int)=((at_ % pad.length:Nat):Int):=rfl;have jU:=room48 (n:=out.length) (by omega);simp only[zf,snC]at hT hL;clear px1 px2 px3 px4 hlen r1 r2 hpI hpi hps ha h hs;cases hS with
 |nil hn =>
  subst hn;refine⟨b,v+1,blS 1 [b],[blB [b],blB [b]],hbk,.own 1 rfl (by intro y hy;simp at hy;subst hy;exact ZaP _) (.inr ⟨by omega,by omega⟩),?_⟩;rw[zj z7G.eq_1];rcases hP with⟨rfl,rfl,rfl,rfl⟩ |⟨l0,hh,hpe⟩
  ·have x0:IntKind.i64.wrap 0=0:=rfl;simp only[Int.zero_tdiv,x0]at m2 m4;simp (maxSteps:=1000000) [x0,z9r,cwM,blB,blS,b,zf,snC,agC,zWX,ze,zo,hi,hj,hci,hcj,hag,hx,hjl,hjm,hT,hB,hL,htv,m1,m2,m3,m4,w1,w2,hv1,hv2,hw,hwa,zg,zH]
  ·have l0':(0:Int)<pad.length:=by omega
   have l1:¬pad.length=0:=by omega
   have hq6:0<=(at_:Int) % (pad.length:Int):=kG _ (by omega);have hq7:(at_:Int) % (pad.length:Int)<pad.length:=kr _ (by omega);have hq8:((at_:Int) % (pad.length:Int)).toNat=at_ % pad.length:=by rw[<-Int.natCast_emod];exact uX _
   have hpe':=hpe.symm;simp (maxSteps:=1000000) [z9r,cwM,blB,blS,b,zf,snC,agC,zWX,ze,zo,hi,hj,hci,hcj,hag,hx,hjl,hjm,hT,hB,hL,htv,m1,m2,m3,m4,w1,w2,hv1,hv2,hw,hwa,l0,l0',l1,q5,hq6,hq7,hq8,hh,hpe',zg,zH]
 |own q hq hG hn =>
  have hql:q<G.length:=by by_cases c:q<G.length;exact c;rw[jG (by omega)]at hq;cases hq
  have hE1:∀(x:Option Blk) (N:Mem),(G++x::N)[G.length]?=some x:=fun x N=>by simp
  have hEs:∀(x y:Option Blk) (N:Mem),(G++x::N).set G.length y=G++y::N:=fun x y N=>by rw[km _ _ (jk _)];simp
  have hq':∀N:Mem,(G++N)[q]?=some (blB out):=fun N=>by rw[jq hql,hq]
  have yx:∀(N:Mem) (x:Option Blk),(G++N).set q x=G.set q x++N:=fun N x=>qI _ _ hql
  have htk:(zI out).take out.length=zI out:=jF (by simp);have Bs:∀y∈G.set q (blB (out++[b])),PB y:=by
   intro y hy;rcases kE hy with hy|rfl
   ·exact hG y hy
   ·exact ZaP _
  have hn4:4<=n0:=by omega
  have hqS:(G.set q (blB (out++[b])))[q]?=some (blB (out++[b])):=j6 hql;have key:Y L Cs z7G (some [10,13,3,8,2,4,12,5,11,9]) n0 (z9r at_ j sp pad ps i) (cwM m s v (blS q out) G)=Y L Cs z7G (some [10,13,3,8,2,4,12,5,11,9]) n0 (z9r (at_+1) (j+1) sp pad ps i) (kj n0 (z9r (at_+1) (j+1) sp pad ps i) (cwM m s (v+1) (blS q (out++[b])) (G.set q (blB (out++[b]))++[blB [b]]))):=by
   simp only[blB]at hq';clear Bs hqS hG hn hq;rw[zj z7G.eq_1];rcases hP with⟨rfl,rfl,rfl,rfl⟩ |⟨l0,hh,hpe⟩
   ·have x0:IntKind.i64.wrap 0=0:=rfl;simp only[Int.zero_tdiv,x0]at m2 m4;simp (maxSteps:=1000000) [x0,z9r,cwM,blB,blS,b,zf,snC,agC,zWX,ze,zo,hi,hj,hci,hcj,hag,hx,hjl,hjm,hT,hB,hL,htv,m1,m2,m3,m4,w1,w2,hv1,hv2,hw,hwa,hE1,hEs,hq',yx,htk,jU,zg,zH,-kj]
   ·have l0':(0:Int)<pad.length:=by omega
    have l1:¬pad.length=0:=by omega
    have hq6:0<=(at_:Int) % (pad.length:Int):=kG _ (by omega);have hq7:(at_:Int) % (pad.length:Int)<pad.length:=kr _ (by omega);have hq8:((at_:Int) % (pad.length:Int)).toNat=at_ % pad.length:=by rw[<-Int.natCast_emod];exact uX _
    have hpe':=hpe.symm;simp (maxSteps:=1000000) [z9r,cwM,blB,blS,b,zf,snC,agC,zWX,ze,zo,hi,hj,hci,hcj,hag,hx,hjl,hjm,hT,hB,hL,htv,m1,m2,m3,m4,w1,w2,hv1,hv2,hw,hwa,l0,l0',l1,q5,hq6,hq7,hq8,hh,hpe',hE1,hEs,hq',yx,htk,jU,zg,zH,-kj]
  rcases hn with hn|hn
  ·rw[ZaY (by simpa using hn) (by simpa using hql) Bs (ZS _ _ _ _ _ _ hn4)]at key;exact⟨b,v+1,_,_,hbk,.own q hqS Bs (.inl (by simpa using hn)),key⟩
  ·rw[Z4 hn.1 hn.2]at key;refine⟨b,v+1,_,_,hbk,.own q (by rw[jq (by simpa using hql)];exact hqS) ?_ (.inr hn),key⟩;intro y hy;rcases jm.1 hy with hy|hy
   ·exact Bs y hy
   ·simp at hy;subst hy;exact ZaP _
abbrev Zbg(at_ j:Nat)(sp:Int)(pad:List Int)(ps:List Spn)(i:Nat):Env:=(45,.w (Bo false))::z9r at_ j sp pad ps i
theorem ZaD{m:zD}(h:zcp m)(s:SnV)(hs:KSn m s)(sp:Int)(pad:List Int)(A3:pad.length<=1000)(hpi:∀x∈pad,zk0 x)(ps:List Spn)(hps:∀x∈ps,(0<=x.lane/\x.lane<m.jf.length)/\0<=x.lo/\x.lo<=x.hi/\x.hi<=z8 m x.lane)(hpl:ps.length<=8)(i:Nat)(hi:i<s.agents.length)(n0:Nat):∀(f j at_ v:Nat) (out:List zk) (S:Cl) (G:Mem),j+f=ps.length->at_+f<=1000->out.length+f<=1000->(∀b∈out,OKB b)->StB n0 out S G ->
  ∃(at' j' v':Nat) (qF:List zk) (S':Cl) (G':Mem),at'<=at_+f/\qF.length<=out.length+f/\(∀b∈qF,OKB b)/\StB n0 qF S' G' /\
  Y L Cs z7G (some [10,13,3,8,2,4,12,5,11,9]) n0 (z9r at_ j sp pad ps i) (cwM m s v S G)=some (.exit 2,Zbg at' j' sp pad ps i,cwM m s v' S' G'):=by
 have qL:=hs.few;have ha:=hs.ags _ (jb hi);have hT:=z56 s i hi ha.here;intro f;induction f with
 |zero =>
  intro j at_ v out S G hj hat ho hok hS;obtain rfl:j=ps.length:=by omega
  refine⟨at_,ps.length,v,out,S,G,by omega,by omega,hok,hS,?_⟩;rw[zj z7G.eq_1];simp[z9r,cwM]
 |succ f ih =>
  intro j at_ v out S G hj hat ho hok hS;have hcj:(j:Int)<ps.length:=by omega
  by_cases c:(s.agents[i]'hi).start<=s.tick
  ·obtain⟨b,v1,S1,G1,g1,g2,g3⟩:=ZaC h s hs sp pad A3 hpi ps hps hpl i j at_ hi (by omega) (by omega) c n0 v out (by omega) S G hS;obtain⟨a2,j2,v2,o2,S2,G2,k1,k2,k3,k4,k5⟩:=ih (j+1) (at_+1) v1 (out++[b]) S1 G1 (by omega) (by omega) (by simp;omega) (by
    intro x hx;rcases jm.1 hx with hx|hx
    ·exact hok x hx
    ·simp at hx;subst hx;exact g1) g2
   exact⟨a2,j2,v2,o2,S2,G2,by omega,by simp at k2;omega,k3,k4,g3.trans k5⟩
  ·rw[decide_eq_false c]at hT;refine⟨at_,j,v,out,S,G,by omega,by omega,hok,hS,?_⟩;simp only[snC]at hT;rw[zj z7G.eq_1];simp[z9r,cwM,snC,hcj,hT,zg,zH]
theorem StB.up{n0:Nat}{out:List zk}{S:Cl}{G:Mem}(h:StB n0 out S G):StB 4 out S G/\∀{m:zD} {s:SnV} {v:Nat} {E:Env},E.all (fun x=>x.2.below 4)=true->kj 4 E (cwM m s v S G)=cwM m s v S G:=by
 cases h with
 |nil h=>exact⟨.nil rfl,fun hE=>z9E (by simp)⟩
 |own q hq hG hn=>exact⟨.own q hq hG (.inr ⟨by omega,by omega⟩),fun hE=>Z4 (by omega) (by omega)⟩
theorem StB.down{out:List zk}{S:Cl}{G:Mem}(h:StB 4 out S G):StB (G.length+4) out S G:=by
 cases h with
 |nil h=>exact .nil rfl
 |own q hq hG hn=>exact .own q hq hG (.inl rfl)
abbrev ZA(at_:Nat)(sp:Int)(pad:List Int)(i:Nat):Env:=[(10,.w (W at_)),(8,.w (Pt 2)),(3,.w (W sp)),(2,.w (.c (.jc (zu pad)))),(4,.w (Pt 0)),(5,.w (Pt 1)),(11,.w (W i)),(9,.w (Pt 3))]
abbrev Zbf(at_:Nat)(sp:Int)(pad:List Int)(i:Nat):Env:=[(27,.w (Bo false)),(10,.w (W at_)),(3,.w (W sp)),(8,.w (Pt 2)),(2,.w (.c (.jc (zu pad)))),(4,.w (Pt 0)),(5,.w (Pt 1)),(11,.w (W i)),(9,.w (Pt 3))]
theorem ZR(at_:Nat)(sp:Int)(pad:List Int)(i:Nat):(ZA at_ sp pad i).all (fun x=>x.2.below 4)=true:=by
 simp[AV.below,WV.below,WV.cells,Eng.below,uJ]
theorem ZV{m:zD}(h:zcp m){a:AgV}(ha:KAg m a):∀x∈z2B m a,(0<=x.lane/\x.lane<m.jf.length)/\0<=x.lo/\x.lo<=x.hi/\x.hi<=z8 m x.lane:=fun x hx=>by
 obtain⟨h1,h2,h3,h4,_⟩:=z8P a _ 0 x hx;exact⟨(ha.on h).1 _ h3,h2,h1,h4⟩
theorem ZaA{m:zD}(h:zcp m)(s:SnV)(hs:KSn m s)(sp:Int)(pad:List Int)(A3:pad.length<=1000)(hpi:∀x∈pad,zk0 x)(i at_:Nat)(hi:i<s.agents.length)(hat:at_<=8*i)(v:Nat)(out:List zk)(ho:out.length<=8*i)(hok:∀b∈out,OKB b)(S:Cl)(G:Mem)(hS:StB 4 out S G) :
  ∃(at' v':Nat) (qF:List zk) (S':Cl) (G':Mem),at'<=8*(i+1)/\qF.length<=8*(i+1)/\(∀b∈qF,OKB b)/\StB 4 qF S' G' /\
  Y L Cs z7O (some [10,8,3,2,4,5,11,9]) 4 (ZA at_ sp pad i) (cwM m s v S G)=Y L Cs z7O (some [10,8,3,2,4,5,11,9]) 4 (ZA at' sp pad (i+1)) (cwM m s v' S' G'):=by
 have qL:=hs.few;have hw:=zB (i:=i) (by omega);have hci:(i:Int)<s.agents.length:=by omega
 have ha:=hs.ags _ (jb hi);have hB:=z5H h ha;have hl:=z38 h ha;obtain⟨a2,j2,v2,o2,S2,G2,k1,k2,k3,k4,k5⟩:=ZaD h s hs sp pad A3 hpi (z2B m s.agents[i]) (ZV h ha) hl i hi (G.length+4) (z2B m s.agents[i]).length 0 at_ v out S G (by omega) (by omega) (by omega) hok hS.down;obtain⟨u1,u2⟩:=k4.up;refine⟨a2,v2,o2,S2,G2,by omega,by omega,k3,u1,?_⟩;have hd:=u2 (m:=m) (s:=s) (v:=v2) (ZR a2 sp pad (i+1));have hdl:∀(E:Env),kj (G.length+4) E (cwM m s v S G)=cwM m s v S G:=fun E=>z9E (by simp)
 generalize hag:s.agents[i]=a at *;simp only[zf,agC]at hB;simp only[ZA,cwM,jP,kO,zf]at hd;simp only[cwM,zf]at hdl;simp only[z9r,Zbg,cwM,zf,ji]at k5;clear u2 hS k4 u1 hok k3;rw[zj z7O.eq_1];simp only[snC]at hd hdl k5;simp[ZA,cwM,zf,snC,agC,hi,hci,hag,hw,hB,hdl,k5,hd,zg,zH,-kj]
theorem ZaB{m:zD}(h:zcp m)(s:SnV)(hs:KSn m s)(sp:Int)(pad:List Int)(A3:pad.length<=1000)(hpi:∀x∈pad,zk0 x):∀(f i at_ v:Nat) (out:List zk) (S:Cl) (G:Mem),i+f=s.agents.length->at_<=8*i->out.length<=8*i->(∀b∈out,OKB b)->StB 4 out S G ->
  ∃(at' v':Nat) (qF:List zk) (S':Cl) (G':Mem),qF.length<=64/\(∀b∈qF,OKB b)/\StB 4 qF S' G' /\
  Y L Cs z7O (some [10,8,3,2,4,5,11,9]) 4 (ZA at_ sp pad i) (cwM m s v S G)=some (.exit 0,Zbf at' sp pad s.agents.length,cwM m s v' S' G'):=by
 have qL:=hs.few;intro f;induction f with
 |zero =>
  intro i at_ v out S G hi hat ho hok hS;obtain rfl:i=s.agents.length:=by omega
  refine⟨at_,v,out,S,G,by omega,hok,hS,?_⟩;rw[zj z7O.eq_1];simp[ZA,cwM,snC]
 |succ f ih =>
  intro i at_ v out S G hi hat ho hok hS;obtain⟨a1,v1,o1,S1,G1,g1,g2,g3,g4,g5⟩:=ZaA h s hs sp pad A3 hpi i at_ (by omega) hat v out ho hok S G hS;obtain⟨a2,v2,o2,S2,G2,k1,k2,k3,k4⟩:=ih (i+1) a1 v1 o1 S1 G1 (by omega) g1 g2 g3 g4;exact⟨a2,v2,o2,S2,G2,k1,k2,k3,g5.trans k4⟩
theorem ZG{m:zD}(h:zcp m)(hsh:zmX m)(s:SnV)(hs:KSn m s)(pad:List Int)(A3:pad.length<=1000)(hpi:∀x∈pad,zk0 x)(sp:Int) :
  ∃k:zci,k.jJ.length<=4000/\(∀b∈k.jJ,OKB b)/\k.tick=s.tick/\R L Cs z8D [.a (zf m),.a (snC s),.c (.jc (zu pad)),W sp] []=some (.w (.a (zG k)),[]):=by
 have qT:=hs.some;have qL:=hs.few;have ha:=hs.ags _ (jb qT);have hsa:=ha.s;have hse:=ha.yp h;have e1:IntKind.i64.wrap 1=1:=rfl;obtain⟨at',v,out,S,G,g1,g2,g3,g4⟩:=ZaB h s hs sp pad A3 hpi (s.agents.length-1) 1 0 1 [] .je [] (by omega) (by omega) (by simp) (by simp) (.nil rfl);have hJ:=zy7 out (by omega) g2;have hjl:=zkq out;have hm:=zD0 sp 600 (by omega) (by omega);have hr:=zDJ sp 600 (by omega);generalize sp % 600=w at *;have t3:0<=w.tdiv 3/\w.tdiv 3<=200:=by rw[qd hr.1];omega
 have wa:=kQ (w.tdiv 3);generalize hag:s.agents[0]=a at *;have w1:=kQ (a.s-w.tdiv 3);have w2:=kQ (a.s+w);have w3:=kQ (a.s+w-w.tdiv 3);generalize hv1:IntKind.i64.wrap (w.tdiv 90)=u1 at *;generalize hv2:IntKind.i64.wrap (w.tdiv 60)=u2 at *;generalize hv3:IntKind.i64.wrap (a.v-u1)=u3 at *;generalize hv4:IntKind.i64.wrap (a.v+u2)=u4 at *;obtain⟨bs,b1,b2,hO⟩:=Zaj h hsh a.jy ha.jy a.len ⟨by have:=ha.len;omega,by have:=ha.len;omega⟩ ⟨s.tick,zcz out,⟨max 0 (a.s-w.tdiv 3),a.s+w-w.tdiv 3,max 0 u3,min 2000 u4⟩⟩ (by simp only;omega) (Zax g2);refine⟨⟨s.tick,bs,⟨max 0 (a.s-w.tdiv 3),a.s+w-w.tdiv 3,max 0 u3,min 2000 u4⟩⟩,b1,b2,rfl,?_⟩;generalize zcz out=J at *;simp only[zf,snC,zG,ZA,Zbf,cwM,cvZ,ji,kO]at g4 hO;rw[zUa z8G rfl];have hci:(0:Int)<s.agents.length:=by omega
 cases g3 with
 |nil hn =>
  have hJ0:R L Cs zlm [.c (.jc [])] []=some (.w (.c (.jc (zI J))),[]):=by simpa using hJ
  simp (maxSteps:=1000000) [z7Z,zf,snC,agC,zG,qT,hci,hag,g4,hJ0,hm,wa,w1,w2,w3,hv1,hv2,hv3,hv4,hO,zg,zH,zX]
 |own q hq hG hn =>
  have hql:q<G.length:=by by_cases c:q<G.length;exact c;rw[jG (by omega)]at hq;cases hq
  have hq':G[q]?=some (some { box:=false,esz:=6,rows:=zI out,gen:=out.length,fz:=false,ver:=out.length }):=hq;have htk:(zI out).take out.length=zI out:=jF (by simp);have hqq:∀(x:Option Blk),(G.set q x)[q]?=some x:=fun x=>j6 hql
  have hE1:∀(y x:Option Blk) (N:Mem),(G.set q y++x::N)[G.length]?=some x:=fun y x N=>by rw[jL (by simp)];simp
  have hEs:∀(z x y:Option Blk) (N:Mem),(G.set q z++x::N).set G.length y=G.set q z++y::N:=fun z x y N=>by rw[km _ _ (by simp)];simp
  clear hql hq;simp (maxSteps:=1000000) [z7Z,zf,snC,agC,zG,qT,hci,hag,g4,hJ,hm,wa,w1,w2,w3,hv1,hv2,hv3,hv4,hO,hq',hqq,htk,hE1,hEs,zg,zH,zX]
def z7Y{α:Type}(f:α->Int):List α->Int
 |[]=>0
 |x::l=>f x+z7Y f l
theorem Zj{α:Type}(f g:α->Int):∀l:List α,z7Y (fun x=>f x+g x) l=z7Y f l+z7Y g l
 |[]=>rfl
 |x::l=>by simp only[z7Y,Zj f g l];omega
theorem z91{α:Type}:∀l:List α,z7Y (fun _=>0) l=0
 |[]=>rfl
 |x::l=>by simp only[z7Y,z91 l];omega
theorem z9z{α β:Type}(f:α->β->Int):∀(l:List α) (r:List β),z7Y (fun x=>z7Y (f x) r) l=z7Y (fun y=>z7Y (fun x=>f x y) l) r
 |[],r=>by simp only[z7Y];rw[z91]
 |x::l,r=>by
  simp only[z7Y];rw[z9z f l r,<-Zj]
theorem z9n{α:Type}{f:α->Int}{c:Int}(hc:0<=c):∀{l:List α},(∀x∈l,f x<=c)->z7Y f l<=c*l.length
 |[],_=>by simp[z7Y]
 |x::l,h=>by
  have h1:=z9n hc (l:=l) fun y hy=>h y (by simp[hy])
  have h2:=h x (by simp);simp only[z7Y,jw,jP,Int.mul_add];simp only[kO,Int.mul_one];omega
theorem z89{α:Type}{f:α->Int}:∀{l:List α},(∀x∈l,0<=f x)->0<=z7Y f l
 |[],_=>jQ _
 |x::l,h=>by
  have h1:=z89 (l:=l) fun y hy=>h y (by simp[hy])
  have h2:=h x (by simp);simp only[z7Y];omega
def z8C(x b:Spn):Int:=if b.lane=x.lane/\b.lo<=x.hi/\x.lo<=b.hi then(min b.hi x.hi-max b.lo x.lo) / 500+2 else 0
theorem z9a{b:Spn}(hb:b.lo<=b.hi){x:Spn}(hx:x.lo<x.hi):0<=z8C x b:=by
 unfold z8C;split<;>omega
def z9I(b:Spn)(L c:Int):Int:=if b.lane<L then 0 else if b.lane=L then(if c<=b.hi then(b.hi-max c b.lo) / 500+2 else 0) else(b.hi-b.lo) / 500+2
theorem Zao{b:Spn}(hb:b.lo<=b.hi)(L c:Int):z9I b L c<=(b.hi-b.lo) / 500+2:=by
 unfold z9I;split
 ·omega
 ·split
  ·split<;>omega
  ·omega
theorem ZK{b x:Spn}(hb:b.lo<=b.hi)(hx:x.lo<x.hi){L c:Int}(h:L<x.lane\/x.lane=L/\c<=x.lo):z8C x b+z9I b x.lane (x.hi+1000)<=z9I b L c:=by
 unfold z8C z9I;by_cases c1:b.lane=x.lane
 ·have n1:¬b.lane<x.lane:=by omega
  rw[if_neg n1,if_pos c1];have n2:¬b.lane<L:=by omega
  rw[if_neg n2];by_cases c2:b.lo<=x.hi/\x.lo<=b.hi
  ·rw[if_pos ⟨c1,c2⟩];by_cases c3:b.lane=L
   ·rw[if_pos c3];have c4:c<=b.hi:=by omega
    rw[if_pos c4];split<;>omega
   ·rw[if_neg c3];split<;>omega
  ·rw[if_neg (fun h=>c2 h.2)];by_cases c3:b.lane=L
   ·rw[if_pos c3];split
    ·rw[if_pos (by omega)];omega
    ·split<;>omega
   ·rw[if_neg c3];split<;>omega
 ·rw[if_neg (fun h=>c1 h.1)];by_cases c2:b.lane<x.lane
  ·rw[if_pos c2];split
   ·omega
   ·split
    ·split<;>omega
    ·omega
  ·rw[if_neg c2,if_neg c1];have n2:¬b.lane<L:=by omega
   have n3:¬b.lane=L:=by omega
   rw[if_neg n2,if_neg n3];omega
theorem ZaE{b:Spn}(hb:b.lo<=b.hi):∀(l:List Spn) (L c:Int),l.Pairwise Zai->(∀x∈l,x.lo<x.hi)->(∀x∈l,L<x.lane\/x.lane=L/\c<=x.lo)->z7Y (fun x=>z8C x b) l<=z9I b L c
 |[],L,c,_,_,_=>by
  simp only[z7Y];unfold z9I;split
  ·omega
  ·split
   ·split<;>omega
   ·omega
 |x::l,L,c,hp,hx,hL=>by
  rw[jS]at hp;have ih:=ZaE hb l x.lane (x.hi+1000) hp.2 (fun y hy=>hx y (by simp[hy])) (fun y hy=>by
   have:=hp.1 y hy;unfold Zai at this;omega)
  have st:=ZK hb (hx x (by simp)) (hL x (by simp));simp only[z7Y];omega
theorem Zt:∀(f:Nat) (o hi:Int),o<=hi->hi-o<=500*f->((z8q f o hi).length:Int)<=(hi-o) / 500+2
 |0,o,hi,h,h2=>by simp only[z8q,u9];omega
 |f+1,o,hi,h,h2=>by
  unfold z8q;split
  ·simp only[u9];omega
  ·rename_i c;by_cases d:o+500<=hi
   ·have ih:=Zt f (o+500) hi d (by omega);rw[yw d];simp only[jw];omega
   ·rw[yh (by omega)];cases f with
    |zero=>simp[z8q];omega
    |succ f =>
     unfold z8q;rw[if_pos rfl];simp;omega
theorem z9s{α β:Type}(f:β->Int)(g:α->List β):∀l:List α,z7Y f (l.flatMap g)=z7Y (fun x=>z7Y f (g x)) l
 |[]=>rfl
 |x::l=>by
  have app:∀(a b:List β),z7Y f (a++b)=z7Y f a+z7Y f b:=by
   intro a b;induction a with
   |nil=>simp[z7Y]
   |cons y a ih=>simp only[kf,z7Y,ih];omega
  simp only[jW,z7Y,app,z9s f g l]
theorem Zi{α β:Type}(f:β->Int)(g:α->β):∀l:List α,z7Y f (l.map g)=z7Y (fun x=>f (g x)) l
 |[]=>rfl
 |x::l=>by simp only[ki,z7Y,Zi f g l]
def z8g(l:List Spn)(n:Nat):List (Spn×Nat):=l.flatMap (z9D · n)
theorem Zq{m:zD}{s:SnV}(hs:KSn m s){x:Spn}(hx:z9Y m x){i:Nat}(hi:i<s.agents.length){ps:List Pnt}(h:ZC m s (x,i) ps):(ps.length:Int)<=z7Y (fun b=>z8C x b) (z2B m s.agents[i])/\ps.length<=42:=by
 have qr:s.agents.getD i z9q=s.agents[i]:=by simp[hi]
 have ha:=hs.ags _ (jb hi);unfold ZC at h;simp only[qr]at h;have hb0:∀b∈z2B m s.agents[i],b.lo<=b.hi:=fun b hb=>(z8P s.agents[i] _ 0 b hb).1
 have qf:0<=z7Y (fun b=>z8C x b) (z2B m s.agents[i]):=z89 fun b hb=>z9a (hb0 b hb) hx.2.2.1
 cases ho:z9J (z2B m s.agents[i]) x with
 |none =>
  rw[ho]at h;simp only at h;subst h;exact⟨by simpa using qf,by simp⟩
 |some y =>
  rw[ho]at h;simp only at h;split at h
  ·obtain⟨j,hj,hl,hf⟩:=h;obtain⟨b,hb,e,h1,h2,y0,y1,y2,y3,y4,y5,y6⟩:=z9F hx ha.len.2 ho;have hlen:=hf.len;have ho:=Zt 41 y.lo y.hi y1 (by omega);have hc:z8C x b=(y.hi-y.lo) / 500+2:=by
    unfold z8C;rw[if_pos ⟨h2,by omega,by omega⟩,e];rfl
   have hm:z8C x b<=z7Y (fun b=>z8C x b) (z2B m s.agents[i]):=by
    have key:∀l:List Spn,(∀b∈l,b.lo<=b.hi)->b∈l->z8C x b<=z7Y (fun b=>z8C x b) l:=by
     intro l;induction l with
     |nil=>intro _ h;cases h
     |cons c l ih =>
      intro hl hb;have n1:=z9a (hl c (by simp)) hx.2.2.1;have n2:=z89 (f:=fun b=>z8C x b) (l:=l) fun d hd=>z9a (hl d (by simp[hd])) hx.2.2.1
      rcases js.1 hb with rfl|hb
      ·simp only[z7Y];omega
      ·have:=ih (fun d hd=>hl d (by simp[hd])) hb;simp only[z7Y];omega
    exact key _ hb0 hb
   refine⟨by omega,?_⟩;have:(y.hi-y.lo) / 500<=40:=by omega
   omega
  ·subst h;exact⟨by simpa using qf,by simp⟩
theorem Zp{m:zD}{s:SnV}(hs:KSn m s)(hbl:∀a∈s.agents,(z2B m a).length<=2){l:List Spn}(hl:∀x∈l,z9Y m x)(hp:l.Pairwise Zai){n:Nat}(hn:n+1=s.agents.length){out:List Pnt}(h:z9Z m s (z8g l n) out):out.length<=588:=by
 obtain⟨pss,hf,rfl⟩:=h;have qr:∀i,i<s.agents.length->s.agents.getD i z9q∈s.agents:=fun i hi=>by simp[hi]
 have h1:(pss.flatten.length:Int)<=z7Y (fun p:Spn×Nat=>z7Y (fun b=>z8C p.1 b) (z2B m (s.agents.getD p.2 z9q))) (z8g l n):=by
  have hin:∀p∈z8g l n,z9Y m p.1/\p.2<s.agents.length:=by
   intro p hp;obtain⟨x,hx,hp⟩:=kR.1 hp;obtain⟨i,hi,rfl⟩:=jZ.1 hp;exact⟨hl x hx,by have:=kL.1 hi;simp only;omega⟩
  clear hp hl hn;generalize z8g l n=d at *;induction hf with
  |nil=>simp[z7Y]
  |@cons p ps d pss hA hT ih =>
   have h2:=hin p (by simp);have h3:=Zq hs h2.1 h2.2 hA;have h4:=ih fun q hq=>hin q (by simp[hq])
   have hg:s.agents.getD p.2 z9q=s.agents[p.2]'h2.2:=by simp[h2.2]
   simp only[List.flatten_cons,jt,jP,z7Y,hg];omega
 have h2:z7Y (fun p:Spn×Nat=>z7Y (fun b=>z8C p.1 b) (z2B m (s.agents.getD p.2 z9q))) (z8g l n)<=84*n:=by
  unfold z8g;rw[z9s];have e:(fun x=>z7Y (fun p:Spn×Nat=>z7Y (fun b=>z8C p.1 b) (z2B m (s.agents.getD p.2 z9q))) (z9D x n))=fun x=>z7Y (fun i=>z7Y (fun b=>z8C x b) (z2B m (s.agents.getD (i+1) z9q))) (List.range n):=by
   funext x;unfold z9D;rw[Zi]
  rw[e,z9z];have hc:∀i∈List.range n,z7Y (fun x=>z7Y (fun b=>z8C x b) (z2B m (s.agents.getD (i+1) z9q))) l<=84:=by
   intro i hi;have hi:=kL.1 hi;have ha:=qr (i+1) (by omega);generalize s.agents.getD (i+1) z9q=a at *;have hka:=hs.ags a ha;rw[z9z];have hb:∀b∈z2B m a,z7Y (fun x=>z8C x b) l<=42:=by
    intro b hb;have hbo:=z8P a _ 0 b hb;have h3:=ZaE hbo.1 l (-1) 0 hp (fun x hx=>(hl x hx).2.2.1) (fun x hx=>by left;have:=(hl x hx).1.1;omega);have h4:=Zao hbo.1 (-1) 0;have:=hka.len;omega
   have h5:=z9n (c:=42) (by omega) hb;have:=hbl a ha;omega
  have h6:=z9n (c:=84) (by omega) hc;rw[vY]at h6;exact h6
 have:=hs.few;omega
theorem Zar{m:zD}(h:zcp m)(h1:zXl m)(s:SnV)(hs:KSn m s)(hvs:∀a∈s.agents,0<=a.v/\a.v<=2000)(seen:List Spn)(hse:∀x∈seen,z9Y m x)(hsl:seen.length<=5000)(kk:Nat)(hkk:kk<seen.length)(n0 n:Nat)(hn:n+1=s.agents.length)(d:List (Spn×Nat))(b0:Nat)(hb0:b0<=1000):∀(f i v:Nat) (z:List Int) (out:List Pnt) (S:Cl) (G:Mem),i+f=n->z.length<=1000->out.length<=b0+42*i->z9Z m s (d++z9D seen[kk] i) out->StS n0 out S G ->
  ∃(z':List Int) (qF:List Pnt) (v':Nat) (S':Cl) (G':Mem),z'.length<=1000/\z9Z m s (d++z9D seen[kk] n) qF/\StS n0 qF S' G' /\
  Y L Cs z7K (some [11,8,10,9,5,4,3]) n0 (z9W z (i+1) kk) (snM m s seen v S G)=some (.exit 2,(51,.w (Bo false))::z9W z' (n+1) kk,snM m s seen v' S' G'):=by
 have qL:=hs.few;intro f;induction f with
 |zero =>
  intro i v z out S G hi hz ho hL hS;obtain rfl:i=n:=by omega
  refine⟨z,out,v,S,G,hz,hL,hS,?_⟩;have hc:((i:Int)+1)=s.agents.length:=by omega
  rw[zj z7K.eq_1];simp[z9W,snM,snC,hc]
 |succ f ih =>
  intro i v z out S G hi hz ho hL hS;obtain⟨z1,ps,v1,S1,G1,g1,g2,g3,g4⟩:=Zaq h h1 s hs hvs seen hse hsl (i+1) kk (by omega) hkk n0 v z hz out (by omega) S G hS;have hps:=(Zq hs (hse _ (jb hkk)) (by omega) g2).2;have hL':=hL.snoc g2;rw[jA,<-Zah]at hL';obtain⟨z2,o2,v2,S2,G2,k1,k2,k3,k4⟩:=ih (i+1) v1 z1 (out++ps) S1 G1 (by omega) g1 (by simp;omega) hL' g3;exact⟨z2,o2,v2,S2,G2,k1,k2,k3,g4.trans k4⟩
theorem StS.up{n0:Nat}{out:List Pnt}{S:Cl}{G:Mem}(h:StS n0 out S G):StS 4 out S G/\∀{m:zD} {s:SnV} {seen:List Spn} {v:Nat} {E:Env},E.all (fun x=>x.2.below 4)=true->kj 4 E (snM m s seen v S G)=snM m s seen v S G:=by
 cases h with
 |nil h=>exact⟨.nil rfl,fun hE=>ZZ hE⟩
 |own q hq hG hn=>exact⟨.own q hq hG (.inr ⟨by omega,by omega⟩),fun hE=>z8I (by omega) (by omega)⟩
theorem StS.down{out:List Pnt}{S:Cl}{G:Mem}(h:StS 4 out S G):StS (G.length+4) out S G:=by
 cases h with
 |nil h=>exact .nil rfl
 |own q hq hG hn=>exact .own q hq hG (.inl rfl)
abbrev ZM(z:List Int)(kk:Nat):Env:=[(8,.w (Pt 2)),(10,.w (W kk)),(9,.w (Pt 3)),(5,.w (Pt 1)),(4,.w (Pt 0)),(3,.w (.c (.jc (zu z))))]
theorem ZL(z:List Int)(kk:Nat):(ZM z kk).all (fun x=>x.2.below 4)=true:=by
 simp[AV.below,WV.below,WV.cells,Eng.below,uJ]
theorem ZQ(l:List Spn)(n k:Nat)(hk:k<l.length):z8g (l.take (k+1)) n=z8g (l.take k) n++z9D l[k] n:=by
 unfold z8g;rw[uS hk,List.flatMap_append];simp
theorem Zap{m:zD}(h:zcp m)(h1:zXl m)(s:SnV)(hs:KSn m s)(hbl:∀a∈s.agents,(z2B m a).length<=2)(hvs:∀a∈s.agents,0<=a.v/\a.v<=2000)(seen:List Spn)(hse:ZaZ m seen)(n:Nat)(hn:n+1=s.agents.length):∀(f kk v:Nat) (z:List Int) (out:List Pnt) (S:Cl) (G:Mem),kk+f=seen.length->z.length<=1000->z9Z m s (z8g (seen.take kk) n) out->StS 4 out S G ->
  ∃(z':List Int) (qF:List Pnt) (v':Nat) (S':Cl) (G':Mem),z9Z m s (z8g seen n) qF/\StS 4 qF S' G' /\
  Y L Cs z7V (some [8,10,9,5,4,3]) 4 (ZM z kk) (snM m s seen v S G)=some (.exit 0,(44,.w (Bo false))::ZM z' seen.length,snM m s seen v' S' G'):=by
 have hsl:=hse.len;intro f;induction f with
 |zero =>
  intro kk v z out S G hk hz hL hS;obtain rfl:kk=seen.length:=by omega
  rw[yf]at hL;refine⟨z,out,v,S,G,hL,hS,?_⟩;rw[zj z7V.eq_1];simp[ZM,snM]
 |succ f ih =>
  intro kk v z out S G hk hz hL hS;have hkk:kk<seen.length:=by omega
  have hck:(kk:Int)<seen.length:=by omega
  have hw:=zB (i:=kk) (by omega);have hlen:=Zp hs hbl (fun x hx=>hse.ok x (qs hx)) (hse.ap.sublist (List.take_sublist kk seen)) hn hL;obtain⟨z1,o1,v1,S1,G1,g1,g2,g3,g4⟩:=Zar h h1 s hs hvs seen hse.ok hsl kk hkk (G.length+4) n hn (z8g (seen.take kk) n) 588 (by omega) n 0 v z out S G (by omega) hz (by omega) (by simpa [z9D]using hL) hS.down;obtain⟨u1,u2⟩:=g3.up;rw[<-ZQ _ _ _ hkk]at g2;obtain⟨z2,o2,v2,S2,G2,k1,k2,k3⟩:=ih (kk+1) v1 z1 o1 S1 G1 (by omega) g1 g2 u1;refine⟨z2,o2,v2,S2,G2,k1,k2,?_⟩;rw[<-k3];have hd:=u2 (m:=m) (s:=s) (seen:=seen) (v:=v1) (ZL z1 (kk+1));have hdl:∀(E:Env),kj (G.length+4) E (snM m s seen v S G)=snM m s seen v S G:=fun E=>z9E (by simp)
  have e1:IntKind.i64.wrap 1=1:=rfl;simp only[ZM,snM]at hd hdl;simp[z9W,snM]at g4;clear ih k3 u2 hS g3 hL;rw[zj z7V.eq_1];simp only[jP,kO]at hd;simp[ZM,snM,hkk,hck,hw,hdl,g4,hd,-kj]
structure Zbk where
 Bq:Int
 seen:List Spn
 pts:List Pnt
def ZaU(x:Zbk):List Cl:=[I x.Bq,.jc (zWx x.seen),.jc (zWs x.pts)]
theorem ZaJ{m:zD}(h:zcp m)(h1:zXl m)(qL:m.jf.length<=4)(s:SnV)(hs:KSn m s)(hk:z31 m s=0)(hbl:∀a∈s.agents,(z2B m a).length<=2)(hvs:∀a∈s.agents,0<=a.v/\a.v<=2000)(view:Int)(hv:0<=view/\view<=16777216)(z:List Int)(hz:z.length<=1000) :
  ∃(seen:List Spn) (out:List Pnt),ZaZ m seen/\z9Z m s (z8g seen (s.agents.length-1)) out/\R L Cs z8L [.a (zf m),.a (snC s),W view,.c (.jc (zu z))] []=some (.w (.a (ZaU ⟨s.tick,seen,out⟩)),[]):=by
 have hC:=z5f h s hs;rw[hk]at hC;have qT:=hs.some;obtain⟨seen,hse,hS⟩:=Za1 h h1 qL s hs hk view hv;obtain⟨z',out,v,S,G,g1,g2,g3⟩:=Zap h h1 s hs hbl hvs seen hse (s.agents.length-1) (by omega) seen.length 0 1 z [] .je [] (by omega) hz ⟨[],.nil,rfl⟩ (.nil rfl);have hv1:¬view<0:=by omega
 have hv2:¬16777216<view:=by omega
 refine⟨seen,out,hse,g1,?_⟩;simp only[zf,snC,ZM,snM,ji]at hC hS g3;rw[zUa z8T rfl];cases g2 with
 |nil hn=>simp[z72,zf,snC,ZaU,hC,hS,g3,hv1,hv2,zWs,zg,zH,zX]
 |own q hq hG hn =>
  have hq':G[q]?=some (some { box:=false,esz:=3,rows:=zWs out,gen:=out.length,fz:=false,ver:=out.length }):=hq;have htk:(zWs out).take out.length=zWs out:=jF (by simp[zWs]);have hrl:(zWs out).length=out.length:=by simp[zWs]
  simp[z72,zf,snC,ZaU,hC,hS,g3,hv1,hv2,hq',htk,hrl,zg,zH,zX]
theorem z9g{a b:Int}(hb:0<b):zXz a b=a / b:=by
 have h1:=Int.mul_tdiv_add_tmod a b;have h2:=Int.lt_tmod_of_pos a hb;have h3:=Int.tmod_lt_of_pos a hb;unfold zXz;split
 ·rename_i c
  symm
  rw[Int.ediv_eq_iff_of_pos hb];rw[Int.sub_mul,ur];constructor<;>omega
 ·rename_i c
  symm
  rw[Int.ediv_eq_iff_of_pos hb];rw[ur];constructor<;>omega
def ZaR(x0 y0 x1 y1 len:Int):Prop:=(x1-x0=len/\y1-y0=0)\/(x1-x0=0/\y1-y0=len)\/(x1-x0=24000/\y1-y0=10000/\len=26000)
theorem Z8{q o len:Int}(h0:0<=o)(h1:o<=len)(hq:o-100<=q/\q<=o+100):o-100<=zYh q len/\zYh q len<=o+100:=by
 unfold zYh;split<;>split<;>omega
theorem ZaW{len c d:Int}(h1:-(100*len)<=c/\c<=100*len)(h2:-(100*len)<=d)(h3:d<=(len+100)*len):zXi len c d=false:=by
 have a:¬100*len<zZ7 c:=by unfold zZ7;split<;>omega
 have b:¬d < -100*len:=by omega
 have e:¬(len+100)*len<d:=by omega
 unfold zXi;rw[decide_eq_false a,decide_eq_false b,decide_eq_false e];rfl
theorem ZaV{x0 y0 x1 y1 len:Int}(hp:Pc x0 y0 x1 y1 len)(hd:ZaR x0 y0 x1 y1 len){o px py:Int}(h0:0<=o)(h1:o<=len)(hx:atX x0 x1 len o-50<=px/\px<=atX x0 x1 len o+50)(hy:atX y0 y1 len o-50<=py/\py<=atX y0 y1 len o+50):∃f,zZc x0 y0 x1 y1 len px py=[f]/\o-100<=f/\f<=o+100:=by
 have hl:=hp.l;have hb:=hp.b;have hc:clZ len o=o:=by unfold clZ;omega
 have qf:0<len:=by omega
 unfold atX at hx hy;rw[hc,z9g qf]at hx hy;have key:∀q:Int,(-(100*len)<=zX9 x0 y0 x1 y1 px py/\zX9 x0 y0 x1 y1 px py<=100*len)->(-(100*len)<=zYq x0 y0 x1 y1 px py)->zYq x0 y0 x1 y1 px py<=(len+100)*len->zXz (zYq x0 y0 x1 y1 px py) len=q->(o-100<=q/\q<=o+100)->(zXn px py=true)->∃f,zZc x0 y0 x1 y1 len px py=[f]/\o-100<=f/\f<=o+100:=by
  intro q k1 k2 k3 k4 k5 k6;refine⟨zYh q len,?_,Z8 h0 h1 k5⟩;unfold zZc;rw[if_pos k6,ZaW k1 k2 k3,k4];rfl
 have fair:(-10000000<=px/\px<=10000000)->(-10000000<=py/\py<=10000000)->zXn px py=true:=by
  intro a b;unfold zXn;rw[decide_eq_true (by omega),decide_eq_true (by omega),decide_eq_true (by omega),decide_eq_true (by omega)];rfl
 rcases hd with⟨d1,d2⟩ |⟨d1,d2⟩ |⟨d1,d2,d3⟩
 ·rw[d1,qP _ (by omega)]at hx;rw[d2,Int.zero_mul,Int.zero_ediv]at hy;have ec:zX9 x0 y0 x1 y1 px py=len*(py-y0):=by unfold zX9;rw[d1,d2];omega
  have ed:zYq x0 y0 x1 y1 px py=len*(px-x0):=by unfold zYq;rw[d1,d2];omega
  have m1:len*(py-y0)<=len*50:=jX (by omega) (by omega);have m2:len*(-50)<=len*(py-y0):=jX (by omega) (by omega);have m3:len*(px-x0)<=len*(len+100):=jX (by omega) (by omega);have m4:len*(-50)<=len*(px-x0):=jX (by omega) (by omega);refine key (px-x0) (by rw[ec];omega) (by rw[ed];omega) (by rw[ed,ur (len+100)];exact m3) (by rw[ed,z9g qf,qP _ (by omega)]) (by omega) (fair (by omega) (by omega))
 ·rw[d1,Int.zero_mul,Int.zero_ediv]at hx;rw[d2,qP _ (by omega)]at hy;have ec:zX9 x0 y0 x1 y1 px py=-(len*(px-x0)):=by unfold zX9;rw[d1,d2];omega
  have ed:zYq x0 y0 x1 y1 px py=len*(py-y0):=by unfold zYq;rw[d1,d2];omega
  have m1:len*(px-x0)<=len*50:=jX (by omega) (by omega);have m2:len*(-50)<=len*(px-x0):=jX (by omega) (by omega);have m3:len*(py-y0)<=len*(len+100):=jX (by omega) (by omega);have m4:len*(-50)<=len*(py-y0):=jX (by omega) (by omega);refine key (py-y0) (by rw[ec];omega) (by rw[ed];omega) (by rw[ed,ur (len+100)];exact m3) (by rw[ed,z9g qf,qP _ (by omega)]) (by omega) (fair (by omega) (by omega))
 ·subst d3;rw[d1]at hx;rw[d2]at hy;have ec:zX9 x0 y0 x1 y1 px py=24000*(py-y0)-10000*(px-x0):=by unfold zX9;rw[d1,d2]
  have ed:zYq x0 y0 x1 y1 px py=24000*(px-x0)+10000*(py-y0):=by unfold zYq;rw[d1,d2]
  refine key (zYq x0 y0 x1 y1 px py / 26000) (by rw[ec];omega) (by rw[ed];omega) (by rw[ed];omega) (by rw[z9g (by omega)]) (by rw[ed];omega) (fair (by omega) (by omega))
abbrev base(m:zD)(v:Nat)(o:List Fnd)(J:Mem):Mem:=bx 5 (zf m)::gb 5::oB v o::gb 5::J
structure GIn(c x:Fnd):Prop where
 lane:c.lane=x.lane
 lo:c.lo<=x.lo
 hi:x.hi<=c.hi
 v1:c.v1<=x.v1
 v2:x.v2<=c.v2
structure GOk(n:Int)(d g:List Fnd):Prop where
 cov:∀x∈d,∃c∈g,GIn c x
 ap:g.Pairwise fun a b=>a.hi+500<b.lo
 ok:∀c∈g,c.lane=n/\c.lo<=c.hi
theorem z9P(p:List Fnd)(y x:Fnd):grp (p++[y]) x=if x.lo-y.hi<=500 then p++[ud y x] else(p++[y])++[x]:=by
 unfold grp;simp
theorem GOk.step{n:Int}{d g:List Fnd}(h:GOk n d g){x:Fnd}(hx:x.lane=n)(hle:x.lo<=x.hi)(hs:∀y∈g,y.lo<=x.lo):GOk n (d++[x]) (grp g x):=by
 rcases ks g with rfl |⟨p,y,rfl⟩
 ·have e:grp [] x=[x]:=rfl;rw[e];refine⟨fun z hz=>?_,by simp,fun c hc=>?_⟩
  ·rcases jm.1 hz with hz|hz
   ·obtain⟨c,hc,_⟩:=h.cov z hz;cases hc
   ·simp only[jh]at hz;subst hz;exact⟨z,by simp,rfl,jQ _,jQ _,jQ _,jQ _⟩
  ·simp only[jh]at hc;subst hc;exact⟨hx,hle⟩
 ·rw[ky]at *;rw[z9P];have hy:=h.ok y (by simp);have hyl:=hs y (by simp);have hap:=h.ap;rw[jD]at hap;split
  ·rename_i c1;refine⟨fun z hz=>?_,?_,fun c hc=>?_⟩
   ·rcases jm.1 hz with hz|hz
    ·obtain⟨c,hc,hi⟩:=h.cov z hz;rcases jm.1 hc with hc|hc
     ·exact⟨c,by simp[hc],hi⟩
     ·simp only[jh]at hc;subst hc;obtain⟨a1,a2,a3,a4,a5⟩:=hi;exact⟨ud c x,by simp,a1,a2,by simp only[ud];omega,by simp only[ud];omega,by simp only[ud];omega⟩
    ·simp only[jh]at hz;subst hz;exact⟨ud y z,by simp,by simp only[ud];rw[hy.1,hx],by simp only[ud];omega,by simp only[ud];omega,by simp only[ud];omega,by simp only[ud];omega⟩
   ·rw[jD];refine⟨hap.1,by simp,fun a ha b hb=>?_⟩;simp only[jh]at hb;subst hb;exact hap.2.2 a ha y (by simp)
   ·rcases jm.1 hc with hc|hc
    ·exact h.ok c (by simp[hc])
    ·simp only[jh]at hc;subst hc;exact⟨hy.1,by simp only[ud];omega⟩
  ·rename_i c1;refine⟨fun z hz=>?_,?_,fun c hc=>?_⟩
   ·rcases jm.1 hz with hz|hz
    ·obtain⟨c,hc,hi⟩:=h.cov z hz;exact⟨c,j9 _ hc,hi⟩
    ·simp only[jh]at hz;subst hz;exact⟨z,by simp,rfl,jQ _,jQ _,jQ _,jQ _⟩
   ·rw[jD];refine⟨h.ap,by simp,fun a ha b hb=>?_⟩;simp only[jh]at hb;subst hb;rcases jm.1 ha with ha|ha
    ·have:=hap.2.2 a ha y (by simp);omega
    ·simp only[jh]at ha;subst ha;omega
   ·rcases jm.1 hc with hc|hc
    ·exact h.ok c hc
    ·simp only[jh]at hc;subst hc;exact⟨hx,hle⟩
theorem Zbb{g:List Fnd}{x:Fnd}{b:Int}(h:∀y∈g,y.lo<=b)(hx:x.lo<=b):∀y∈grp g x,y.lo<=b:=by
 rcases ks g with rfl |⟨p,y,rfl⟩
 ·intro z hz;have e:grp [] x=[x]:=rfl;rw[e]at hz;simp only[jh]at hz;subst hz;exact hx
 ·rw[ky]at *;rw[z9P];intro z hz;split at hz
  ·rcases jm.1 hz with hz|hz
   ·exact h z (by simp[hz])
   ·simp only[jh]at hz;subst hz;exact h y (by simp)
  ·rcases jm.1 hz with hz|hz
   ·exact h z hz
   ·simp only[jh]at hz;subst hz;exact hx
theorem Zx{n:Int}:∀(s d g:List Fnd),GOk n d g->(∀x∈s,x.lane=n/\x.lo<=x.hi)->s.Pairwise (fun x y=>x.lo<=y.lo)->(∀y∈g,∀x∈s,y.lo<=x.lo)->GOk n (d++s) (s.foldl grp g)
 |[],d,g,h,_,_,_=>by simpa using h
 |x::s,d,g,h,hx,hp,hs=>by
  rw[jS]at hp;have h1:=h.step (hx x (by simp)).1 (hx x (by simp)).2 (fun y hy=>hs y hy x (by simp));have h2:=Zx s (d++[x]) (grp g x) h1 (fun y hy=>hx y (by simp[hy])) hp.2 (fun y hy z hz=>Zbb (fun w hw=>hs w hw z (by simp[hz])) (hp.1 z hz) y hy);rw[jA]at h2;exact h2
theorem z9v{α:Type}{P:α->α->Prop}:∀{l:List α},l.Pairwise P->∀{a b:α},a∈l->b∈l->a=b\/P a b\/P b a
 |x::l,h,a,b,ha,hb=>by
  rw[jS]at h;rcases js.1 ha with e1|ha2
  ·rcases js.1 hb with e2|hb2
   ·exact .inl (e1.trans e2.symm)
   ·exact .inr (.inl (by rw[e1];exact h.1 b hb2))
  ·rcases js.1 hb with e2|hb2
   ·exact .inr (.inr (by rw[e2];exact h.1 a ha2))
   ·exact z9v h.2 ha2 hb2
theorem GOk.same{n:Int}{d g:List Fnd}(h:GOk n d g){c c' x:Fnd}(hc:c∈g)(hc':c'∈g)(hx:x.lo<=x.hi)(h1:GIn c x)(h2:GIn c' x):c=c':=by
 have a1:=h1.lo;have a2:=h1.hi;have b1:=h2.lo;have b2:=h2.hi;rcases z9v h.ap hc hc' with e|e|e
 ·exact e
 ·omega
 ·omega
theorem GOk.near{n:Int}{d g:List Fnd}(h:GOk n d g){x x':Fnd}(hx:x∈d)(hx':x'∈d)(hl:x.lo<=x.hi)(hl':x'.lo<=x'.hi)(h1:x'.lo<=x.hi+500)(h2:x.lo<=x'.hi+500):∃c∈g,GIn c x/\GIn c x':=by
 obtain⟨c,hc,i⟩:=h.cov x hx;obtain⟨c',hc',i'⟩:=h.cov x' hx';have a1:=i.lo;have a2:=i.hi;have b1:=i'.lo;have b2:=i'.hi;rcases z9v h.ap hc hc' with e|e|e
 ·subst e;exact⟨c,hc,i,i'⟩
 ·omega
 ·omega
theorem z9N{m:zD}(h:zcp m)(h1:zXl m){j:Nat}(hj:j<m.jf.length)(cs:List Pnt):GOk j (zYJ (zXw j m.jf[j] cs)) (zYw j m.jf[j] cs):=by
 have hin:=z0V h h1 hj cs;have h0:=Zx (n:=(j:Int)) (zYJ (zXw j m.jf[j] cs)) [] [] ⟨by simp,by simp,by simp⟩ (fun x hx=>by
  have:=hin x ((zZa _).mem_iff.1 hx);exact⟨this.2.1,this.2.2⟩) (Zk _) (by simp)
 simpa [zYw]using h0
theorem Zu{m:zD}{cs:List Pnt}:∀(r:List zfn) (i j:Nat) (hj:j<r.length) (c:Fnd),c∈zYw (i+j) r[j] cs->c∈zXF cs i r
 |l::r,i,0,hj,c,hc=>by
  simp only[qp,List.getElem_cons_zero]at hc;unfold zXF;exact j9 _ hc
 |l::r,i,j+1,hj,c,hc=>by
  unfold zXF;refine qi _ (Zu (m:=m) r (i+1) j (by simpa using hj) c ?_);simp only[List.getElem_cons_succ]at hc;rw[show i+1+j=i+(j+1) by omega];exact hc
structure z8R(m:zD):Prop where
 one:∀l∈m.jf,∃x0 y0 x1 y1,l.pts=[(x0,y0),(x1,y1)]/\Pc x0 y0 x1 y1 l.len/\ZaR x0 y0 x1 y1 l.len
theorem z8R.BF{m:zD}(h:z8R m):zXl m:=⟨fun l hl=>by
 obtain⟨a,b,c,d,e,f,_⟩:=h.one l hl;exact⟨a,b,c,d,e,f⟩⟩
structure ZX(j:Nat)(len V o:Int)(x:Fnd):Prop where
 lane:x.lane=j
 lo:x.lo<=o/\o-200<=x.lo/\0<=x.lo
 hi:o<=x.hi/\x.hi<=o+200/\x.hi<=len
 lo2:x.lo<=o+0
 lo3:x.lo<=max 0 o
 v:x.v1<=V/\V<=x.v2
theorem Zf{m:zD}(hD:z8R m){j:Nat}(hj:j<m.jf.length){V o:Int}(h0:0<=o)(h1:o<=m.jf[j].len)(hV:0<=V){p:Pnt}(hp:z9m m.jf[j] V o p):∃x,zXt j m.jf[j] p=[x]/\ZX j m.jf[j].len V o x:=by
 obtain⟨x0,y0,x1,y1,e,hP,hd⟩:=hD.one _ (jb hj);have hx:=hp.x;have hy:=hp.y;have hv:=hp.v;unfold atL at hx hy;rw[e]at hx hy;simp only at hx hy;obtain⟨f,hf,f1,f2⟩:=ZaV hP hd h0 h1 hx hy;refine⟨zYk j m.jf[j].len p f,?_,?_⟩
 ·unfold zXt zYj;rw[e];simp only;rw[hf];rfl
 ·refine⟨rfl,?_,?_,?_,?_,?_⟩<;>simp only[zYk]<;>omega
theorem chain{m:zD}(h:zcp m)(hD:z8R m){j:Nat}(hj:j<m.jf.length){V hi:Int}(hV:0<=V)(hh:hi<=m.jf[j].len)(cs:List Pnt):∀(f:Nat) (o:Int) (p:Pnt) (t:List Pnt),F2 (z9m m.jf[j] V) (z8q f o hi) (p::t)->(∀q∈p::t,q∈cs)->0<=o->o<=hi->hi-o<=500*f ->
  ∃x c,zXt j m.jf[j] p=[x]/\ZX j m.jf[j].len V o x/\c∈zYw j m.jf[j] cs/\GIn c x/\hi<=c.hi:=by
 have hG:=z9N h hD.BF hj cs;have yb:∀q∈cs,∀x∈zXt j m.jf[j] q,x∈zYJ (zXw j m.jf[j] cs):=fun q hq x hx=>(zZa _).mem_iff.2 (kR.2 ⟨q,hq,hx⟩)
 have base:∀(o:Int) (p:Pnt),z9m m.jf[j] V o p->p∈cs->0<=o->o=hi->∃x c,zXt j m.jf[j] p=[x]/\ZX j m.jf[j].len V o x/\c∈zYw j m.jf[j] cs/\GIn c x/\hi<=c.hi:=by
  intro o p hp hpc h0 ho;obtain⟨x,hx,hok⟩:=Zf hD hj h0 (by omega) hV hp;obtain⟨c,hc,hi'⟩:=hG.cov x (yb p hpc x (by rw[hx];simp));have:=hok.hi;have:=hi'.hi;exact⟨x,c,hx,hok,hc,hi',by omega⟩
 intro f;induction f with
 |zero =>
  intro o p t hf hcs h0 h1 h2;unfold z8q at hf;cases hf with
  |cons hp ht=>exact base o p hp (hcs p (by simp)) h0 (by omega)
 |succ f ih =>
  intro o p t hf hcs h0 h1 h2;unfold z8q at hf;split at hf
  ·rename_i e;cases hf with
   |cons hp ht=>exact base o p hp (hcs p (by simp)) h0 e
  ·rename_i e;cases hf with
   |cons hp ht =>
    cases t with
    |nil =>
     exfalso;have hlen:=ht.len;cases f with
     |zero=>simp[z8q]at hlen
     |succ f =>
      unfold z8q at hlen;split at hlen<;>simp at hlen
    |cons p' t' =>
     obtain⟨x',c',g1,g2,g3,g4,g5⟩:=ih (min (o+500) hi) p' t' ht (fun q hq=>hcs q (jp _ hq)) (by omega) (by omega) (by omega);obtain⟨x,hx,hok⟩:=Zf hD hj h0 (by omega) hV hp;have m1:=yb p (hcs p (by simp)) x (by rw[hx];simp);have m2:=yb p' (hcs p' (by simp)) x' (by rw[g1];simp);have a1:=hok.lo;have a2:=hok.hi;have b1:=g2.lo;have b2:=g2.hi;have b3:=g2.lo3;obtain⟨c,hc,i1,i2⟩:=hG.near m1 m2 (by omega) (by omega) (by omega) (by omega);have e2:=hG.same hc g3 (x:=x') (by omega) i2 g4;subst e2;exact⟨x,c,hx,hok,hc,i1,g5⟩
theorem ZO{m:zD}(h:zcp m)(hD:z8R m){j:Nat}(hj:j<m.jf.length){V lo hi:Int}(hV:0<=V)(h0:0<=lo)(hl:lo<=hi)(hh:hi<=m.jf[j].len)(h5:hi-lo<=20000){cs ps:List Pnt}(hps:F2 (z9m m.jf[j] V) (z8q 41 lo hi) ps)(hc:∀p∈ps,p∈cs):∃c∈zYw j m.jf[j] cs,c.lane=j/\c.lo<=lo/\hi<=c.hi/\c.v1<=V/\V<=c.v2:=by
 cases ps with
 |nil =>
  exfalso;have hlen:=hps.len;unfold z8q at hlen;split at hlen<;>simp at hlen
 |cons p t =>
  obtain⟨x,c,g1,g2,g3,g4,g5⟩:=chain h hD hj hV hh cs 41 lo p t hps hc h0 hl (by omega);have a1:=g2.lo;have a2:=g2.v;have b1:=g4.lo;have b2:=g4.v1;have b3:=g4.v2;exact⟨c,g3,by rw[g4.lane,g2.lane],by omega,g5,by omega,by omega⟩
theorem ZB{x fr to ln o:Int}(hle:fr<=to):∀{l:List Spn},z04 ln o (zYr x fr to l)->z04 ln o l/\¬(x=ln/\fr<=o/\o<=to)
 |[],h=>by obtain⟨t,ht,_⟩:=h;cases ht
 |b::l,h=>by
  obtain⟨t,ht,h1,h2,h3⟩:=h;unfold zYr at ht;rcases jm.1 ht with ht|ht
  ·unfold zYm at ht;split at ht
   ·rename_i c;simp only[jh]at ht;subst ht;exact⟨⟨t,by simp,h1,h2,h3⟩,by omega⟩
   ·rename_i c;rcases jm.1 ht with ht|ht
    ·split at ht
     ·simp only[jh]at ht;subst ht;simp only at h1 h2 h3;exact⟨⟨b,by simp,h1,h2,by omega⟩,by omega⟩
     ·cases ht
    ·split at ht
     ·simp only[jh]at ht;subst ht;simp only at h1 h2 h3;exact⟨⟨b,by simp,h1,by omega,h3⟩,by omega⟩
     ·cases ht
  ·obtain⟨⟨u,hu,g⟩,g2⟩:=ZB hle (l:=l) ⟨t,ht,h1,h2,h3⟩;exact⟨⟨u,by simp[hu],g⟩,g2⟩
theorem z93{m:zD}{ln o:Int}:∀(fs:List Fnd) (l:List Spn),(∀f∈fs,f.lo<=f.hi)->z04 ln o (zYx m fs l)->z04 ln o l/\∀f∈fs,onF m f.s=true->¬(f.lane=ln/\f.lo<=o/\o<=f.hi)
 |[],l,_,h=>⟨h,by simp⟩
 |f::fs,l,hf,h=>by
  unfold zYx at h;obtain⟨h1,h2⟩:=z93 fs _ (fun g hg=>hf g (by simp[hg])) h;split at h1
  ·rename_i c;obtain⟨h3,h4⟩:=ZB (hf f (by simp)) h1;refine⟨h3,fun g hg hon=>?_⟩;rcases js.1 hg with rfl|hg
   ·exact h4
   ·exact h2 g hg hon
  ·rename_i c;refine⟨h1,fun g hg hon=>?_⟩;rcases js.1 hg with rfl|hg
   ·exact absurd hon c
   ·exact h2 g hg hon
theorem z9H{m:zD}{l:List Spn}{ln o:Int}(h:z04 ln o (zXa m l)):∃x∈l,x.lane=ln/\x.lo<=o/\o<=x.hi:=by
 have hle:∀b∈(l.filter (onF m)).map zWu,b.lo<=b.hi:=by
  intro b hb;obtain⟨x,hx,rfl⟩:=jZ.1 hb;have:=(kF.1 hx).2;unfold onF at this;simp at this;exact this.1.2
 have hj:=(Zaw _ hle ln o).2.2;obtain⟨t,ht,h1,h2,h3⟩:=h;obtain⟨b,hb,rfl⟩:=jZ.1 ht;have hany:(zcz ((l.filter (onF m)).map zWu)).any (z8r ln o)=true:=by
  rw[kc];refine⟨b,hb,?_⟩;unfold z8r;simp only[zXs]at h1 h2 h3;simp[h1,h2,h3]
 rw[hany]at hj;obtain⟨c,hc,hh⟩:=kc.1 hj.symm;obtain⟨x,hx,rfl⟩:=jZ.1 hc;unfold z8r at hh;simp only[jg,decide_eq_true_eq,zWu]at hh;exact⟨x,(kF.1 hx).1,of_decide_eq_true hh.1.1,of_decide_eq_true hh.1.2,of_decide_eq_true hh.2⟩
structure z8A(ln lo hi V:Int)(b:zk):Prop where
 lane:b.lane=ln
 lo:b.lo<=lo
 hi:hi<=b.hi
 v:b.vlo<=V/\V<=b.vhi
theorem z96{ln lo hi V x fr to:Int}(hlh:lo<=hi)(hno:¬(x=ln/\fr<=hi/\lo<=to)):∀{l:List zk},(∃b∈l,z8A ln lo hi V b)->∃b∈zhn x fr to l,z8A ln lo hi V b
 |b::l,⟨c,hc,hh⟩=>by
  unfold zhn;rcases js.1 hc with rfl|hc
  ·obtain⟨h1,h2,h3,h4⟩:=hh;have key:∃b∈zoX x fr to c,z8A ln lo hi V b:=by
    unfold zoX;split
    ·exact⟨c,by simp,h1,h2,h3,h4⟩
    ·rename_i d;by_cases e:hi<fr
     ·have:c.lo<fr:=by omega
      rw[if_pos this];exact⟨{ c with hi:=fr-1 },by simp,h1,h2,by simp only;omega,h4⟩
     ·have:to<c.hi:=by omega
      rw[if_pos this];exact⟨{ c with lo:=to+1 },by simp,h1,by simp only;omega,h3,h4⟩
   obtain⟨b,hb,hh⟩:=key;exact⟨b,j9 _ hb,hh⟩
  ·obtain⟨b,hb,hh⟩:=z96 hlh hno ⟨c,hc,hh⟩;exact⟨b,qi _ hb,hh⟩
theorem z95{ln lo hi V:Int}(hlh:lo<=hi):∀(fr:List Spn) (l:List zk),(∀t∈fr,¬(t.lane=ln/\t.lo<=hi/\lo<=t.hi))->(∃b∈l,z8A ln lo hi V b)->∃b∈yU fr l,z8A ln lo hi V b
 |[],l,_,h=>h
 |s::r,l,hs,h=>z95 hlh r _ (fun t ht=>hs t (by simp[ht])) (z96 hlh (hs s (by simp)) h)
theorem Z3{N:Int}:∀(s g:List Fnd),(∀x∈s,0<=x.lo/\x.hi<=N)->(∀x∈g,0<=x.lo/\x.hi<=N)->∀x∈s.foldl grp g,0<=x.lo/\x.hi<=N
 |[],g,_,hg=>hg
 |y::s,g,hs,hg=>by
  rw[jK];refine Z3 s _ (fun x hx=>hs x (by simp[hx])) ?_;have hy:=hs y (by simp);rcases ks g with rfl |⟨p,z,rfl⟩
  ·intro x hx;have e:grp [] y=[y]:=rfl;rw[e]at hx;simp only[jh]at hx;subst hx;exact hy
  ·rw[ky]at *;rw[z9P];have hz:=hg z (by simp);intro x hx;split at hx
   ·rcases jm.1 hx with hx|hx
    ·exact hg x (by simp[hx])
    ·simp only[jh]at hx;subst hx;exact⟨hz.1,by simp only[ud];omega⟩
   ·rcases jm.1 hx with hx|hx
    ·exact hg x hx
    ·simp only[jh]at hx;subst hx;exact hy
theorem Zav{m:zD}{j:Nat}(hj:j<m.jf.length)(cs:List Pnt):∀c∈zYw j m.jf[j] cs,0<=c.lo/\c.hi<=m.jf[j].len:=by
 unfold zYw;refine Z3 _ [] ?_ (by simp);intro x hx;have hx:=(zZa _).mem_iff.1 hx;obtain⟨p,_,hx⟩:=kR.1 hx;obtain⟨f,_,rfl⟩:=jZ.1 hx;exact⟨by simp only[zYk];omega,by simp only[zYk];omega⟩
theorem z9R{m:zD}(a:AgV):∀(r:List Int) (i:Nat),r.Nodup->(z4F m a i r).Pairwise fun x y=>x.lane≠y.lane
 |[],_,_=>by simp[z4F]
 |x::r,i,h=>by
  rw[qe]at h;unfold z4F;rw[jD];refine⟨by split<;>simp,z9R a r (i+1) h.2,fun p hp q hq=>?_⟩;have h3:=(z8P a r (i+1) q hq).2.2.1;split at hp
  ·simp only[jh]at hp;subst hp;intro e;apply h.1;have e':x=q.lane:=e;rw[e'];exact h3
  ·cases hp
theorem Zc{m:zD}(hs:zmX m){l:List Int}(hr:zdA m l=0):l.Nodup:=by
 have h2:=zlP hs hr
 match l,h2,hr with
 |[],_,_=>simp
 |[_],_,_=>simp
 |[x,y],_,hr =>
  have hg:goF m x [y]=true:=by
   simp only[zdA]at hr;split at hr
   ·cases hr
   split at hr
   ·cases hr
   split at hr
   ·cases hr
   split at hr
   ·cases hr
   split at hr
   ·assumption
   ·cases hr
  simp only[goF,jg,decide_eq_true_eq]at hg;have:=hs.up x y hg.1;simp;omega
theorem ZaG{m:zD}(hs:zmX m){a:AgV}(ha:KAg m a){b c:Spn}(hb:b∈z2B m a)(hc:c∈z2B m a)(h:b.lane=c.lane):b=c:=by
 rcases z9v (z9R (m:=m) a a.jy 0 (Zc hs ha.jy)) hb hc with e|e|e
 ·exact e
 ·exact absurd h e
 ·exact absurd h.symm e
structure z97(m:zD)(s:SnV)(seen:List Spn)(pts:List Pnt):Prop where
 vG:zcp m
 BC:zmX m
 dirs:z8R m
 sn:KSn m s
 vs:∀a∈s.agents,0<=a.v/\a.v<=2000
 se:ZaZ m seen
 pn:z9Z m s (z8g seen (s.agents.length-1)) pts
theorem z92{m:zD}{j:Nat}(hj:j<m.jf.length):m.jf[j].len=z8 m j:=by simp[z8,hj]
theorem z9M{m:zD}{s:SnV}{seen:List Spn}{pts:List Pnt}(H:z97 m s seen pts){i:Nat}(hi:i<s.agents.length)(hi0:0<i)(hst:(s.agents[i]'hi).start<=s.tick){b:Spn}(hb:b∈z2B m s.agents[i]){x:Spn}(hx:x∈seen)(hm:z9A x b=true):∃c∈zWG m pts,c.lane=b.lane/\c.lo<=max b.lo x.lo/\min b.hi x.hi<=c.hi/\c.v1<=s.agents[i].v/\s.agents[i].v<=c.v2/\onF m c.s=true:=by
 have ha:=H.sn.ags _ (jb hi);have hv:=H.vs _ (jb hi);have hxo:=H.se.ok x hx;have qr:s.agents.getD i z9q=s.agents[i]:=by simp[hi]
 obtain⟨pss,hf,hpts⟩:=H.pn;have hin:(x,i)∈z8g seen (s.agents.length-1):=by
  unfold z8g z9D;rw[kR];refine⟨x,hx,jZ.2 ⟨i-1,kL.2 (by omega),?_⟩⟩;rw[show i-1+1=i by omega]
 obtain⟨ps,hps,hA⟩:=hf.left _ hin;unfold ZC at hA;simp only[qr]at hA;cases ho:z9J (z2B m s.agents[i]) x with
 |none =>
  exfalso;unfold z9J at ho;rw[Option.map_eq_none_iff,kp]at ho;have:=ho b hb;rw[hm]at this;cases this
 |some y =>
  rw[ho]at hA;simp only at hA;rw[if_pos hst]at hA;obtain⟨j,hj,hyl,hF⟩:=hA;obtain⟨b0,hb0,hyc,h1,h2,y0,y1,y2,y3,y4,y5,y6⟩:=z9F hxo ha.len.2 ho;have hbl:b.lane=x.lane:=by
   unfold z9A at hm;simp only[jg,decide_eq_true_eq]at hm;exact hm.1
  have eb:b0=b:=ZaG H.BC ha hb0 hb (by rw[h2,hbl]);subst eb;have hlen:=hxo.2.2.2;have hll:=z92 hj;have ejx:x.lane=(j:Int):=by rw[<-h1,hyl]
  rw[ejx]at hlen;have hcs:∀p∈ps,p∈pts.filter zXq:=by
   intro p hp;rw[kF];refine⟨by rw[hpts];exact List.mem_flatten.2 ⟨ps,hps,hp⟩,?_⟩;obtain⟨o,_,hn⟩:=hF.right p hp;have:=hn.v;unfold zXq;simp only[jg,decide_eq_true_eq];omega
  obtain⟨c,hc,c1,c2,c3,c4,c5⟩:=ZO H.vG H.dirs hj hv.1 y0 y1 (by omega) y6 hF hcs;have hbd:=Zav hj _ c hc;have hcl:=((z9N H.vG H.dirs.BF hj (pts.filter zXq)).ok c hc).2;refine⟨c,?_,by rw[c1,hbl,ejx],?_,?_,c4,c5,?_⟩
  ·unfold zWG;exact Zu (m:=m) m.jf 0 j hj c (by simpa using hc)
  ·rw[hyc]at c2;exact c2
  ·rw[hyc]at c3;exact c3
  ·unfold onF Fnd.s;simp only[c1];simp;omega
def z4q(p:Spn)(a:AgV)(b:zk):Bool:=decide (b.lane=p.lane)&&decide (b.lo<=p.lo)&&decide (p.hi<=b.hi)&&(decide (b.vlo<=a.v)&&decide (a.v<=b.vhi))
def unc(k:zci)(a:AgV)(p:Spn):Bool:=!k.jJ.any (z4q p a)
abbrev z3O:AgV:=⟨[],0,0,0,0,false,false⟩
def z4z(m:zD)(s:SnV)(k:zci)(i:Nat):Bool:=decide (0<i)&&decide ((s.agents.getD i z3O).start<=s.tick)&&(z2B m (s.agents.getD i z3O)).any (unc k (s.agents.getD i z3O))
def z7p(a:AgV)(x:Ego):Bool:=decide (x.slo<=a.s)&&decide (a.s<=x.shi)&&(decide (x.vlo<=a.v)&&decide (a.v<=x.vhi))
def z4P(m:zD)(s:SnV)(k:zci):Bool :=
 decide (z31 m s=0)&&decide (zdf m k=0)&&decide (s.tick=k.tick)&&z7p (s.agents.getD 0 z3O) k.ego && !(List.range s.agents.length).any (z4z m s k)
abbrev coM(m:zD)(s:SnV)(k:zci)(a0:AgV):Mem:=[bx 5 (zf m),bx 3 (snC s),bx 6 (zG k),bxv 1 7 (agC a0),bxv 1 4 (zch k.ego)]
theorem z6V(p:Spn)(a:AgV)(b:zk):z4q p a b=true<->b.lane=p.lane/\b.lo<=p.lo/\p.hi<=b.hi/\b.vlo<=a.v/\a.v<=b.vhi:=by
 unfold z4q;simp[and_assoc]
theorem z5Y{α:Type}(p:α->Bool):∀(l:List α) (i:Nat) (s:Bool),zM6 (fun _ s b=>s||p b) i s l=(s||l.any p)
 |[],_,s=>by simp[zM6]
 |x::l,i,s=>by simp[zM6,z5Y p l,vo]
abbrev z41(m:zD)(a:AgV)(is:Bool)(n j i:Nat):Env:=[(12,.w (Bo is)),(13,.w (W n)),(3,.w (Pt 0)),(5,.w (Pt 2)),(10,.w (.c (.jc (zWx (z2B m a))))),(11,.w (W j)),(4,.w (Pt 1)),(9,.w (W i))]
theorem z6l(m:zD)(s:SnV)(k:zci)(a0:AgV)(hk:k.jJ.length<=100000000000)(i:Nat)(hi:i<s.agents.length)(j:Nat)(hj:j<(z2B m s.agents[i]).length):Y L Cs z2Q (some [12,13,3,5,10,11,4,9]) 5 (z41 m s.agents[i] false 0 j i) (coM m s k a0) =
  some (.exit 4,[(93,.w (Bo false)),(12,.w (Bo (k.jJ.any (z4q (z2B m s.agents[i])[j] s.agents[i])))),(13,.w (W k.jJ.length)),(3,.w (Pt 0)),(5,.w (Pt 2)),(10,.w (.c (.jc (zWx (z2B m s.agents[i]))))),(11,.w (W j)),(4,.w (Pt 1)),(9,.w (W i))],coM m s k a0):=by
 have h:=zPH (L:=L) (Cs:=Cs) (b:=z2Q) (live:=some [12,13,3,5,10,11,4,9]) (n0:=5) k.jJ (fun n is=>z41 m s.agents[i] is n j i) (fun _ _=>coM m s k a0) (fun _ _=>True) (fun _ is b=>is||z4q (z2B m s.agents[i])[j] s.agents[i] b)
  (fun is=>(.exit 4,[(93,.w (Bo false)),(12,.w (Bo is)),(13,.w (W k.jJ.length)),(3,.w (Pt 0)),(5,.w (Pt 2)),(10,.w (.c (.jc (zWx (z2B m s.agents[i]))))),(11,.w (W j)),(4,.w (Pt 1)),(9,.w (W i))],coM m s k a0)) ?_ ?_ (s0:=false) trivial
 ·rw[z5Y,v9]at h;exact h
 ·intro n hn is _;refine⟨trivial,?_⟩;have hw:=zB (i:=n) (by omega);generalize hag:s.agents[i]=a at *;have hcj:(j:Int)<(z2B m a).length:=by omega
  generalize hp:(z2B m a)[j]=p at *;generalize hb:k.jJ[n]=b at *;have hci:=z6V p a b;rw[zj z2Q.eq_1];cases is with
  |true=>simp[z41,coM,zf,snC,zG,zch,agC,ze,hn,hb,hw,zg,zH]
  |false =>
   by_cases c1:b.lane=p.lane
   ·have b1:(b.lane==p.lane)=true:=by simp[c1]
    by_cases c2:b.lo<=p.lo
    ·by_cases c3:p.hi<=b.hi
     ·by_cases c4:b.vlo<=a.v
      ·by_cases c5:a.v<=b.vhi
       ·rw[hci.2 ⟨c1,c2,c3,c4,c5⟩];simp[z41,coM,zf,snC,zG,zch,agC,ze,zWX,hn,hb,hj,hcj,hp,hi,hag,hw,b1,c2,c3,c4,c5,zg,zH]
       ·have:z4q p a b=false:=uh.2 fun e=>c5 (hci.1 e).2.2.2.2
        rw[this];simp[z41,coM,zf,snC,zG,zch,agC,ze,zWX,hn,hb,hj,hcj,hp,hi,hag,hw,b1,c2,c3,c4,c5,zg,zH]
      ·have:z4q p a b=false:=uh.2 fun e=>c4 (hci.1 e).2.2.2.1
       rw[this];simp[z41,coM,zf,snC,zG,zch,agC,ze,zWX,hn,hb,hj,hcj,hp,hi,hag,hw,b1,c2,c3,c4,zg,zH]
     ·have:z4q p a b=false:=uh.2 fun e=>c3 (hci.1 e).2.2.1
      rw[this];simp[z41,coM,zf,snC,zG,zch,agC,ze,zWX,hn,hb,hj,hcj,hp,hi,hag,hw,b1,c2,c3,zg,zH]
    ·have:z4q p a b=false:=uh.2 fun e=>c2 (hci.1 e).2.1
     rw[this];simp[z41,coM,zf,snC,zG,zch,agC,ze,zWX,hn,hb,hj,hcj,hp,hi,hag,hw,b1,c2,zg,zH]
   ·have:z4q p a b=false:=uh.2 fun e=>c1 (hci.1 e).1
    have b1:(b.lane==p.lane)=false:=by simp[c1]
    rw[this];simp[z41,coM,zf,snC,zG,zch,agC,ze,zWX,hn,hb,hj,hcj,hp,hi,hag,hw,b1,zg,zH]
 ·intro is _;rw[zj z2Q.eq_1];simp[z41,coM,zf,snC,zG,zch,agC]
abbrev z5T(m:zD)(a:AgV)(j i:Nat):Env:=[(3,.w (Pt 0)),(5,.w (Pt 2)),(10,.w (.c (.jc (zWx (z2B m a))))),(11,.w (W j)),(4,.w (Pt 1)),(9,.w (W i))]
theorem z6F{m:zD}(h:zcp m)(s:SnV)(k:zci)(a0:AgV)(hk:k.jJ.length<=100000000000)(i:Nat)(hi:i<s.agents.length)(ha:KAg m s.agents[i]):∃j:Nat,Y L Cs z2z (some [3,5,10,11,4,9]) 5 (z5T m s.agents[i] 0 i) (coM m s k a0) =
  some (if decide (s.agents[i].start<=s.tick)&&(z2B m s.agents[i]).any (unc k s.agents[i]) then(.ret,[(6,.w (Bo false))],coM m s k a0)
   else(.exit 2,[(86,.w (Bo false)),(3,.w (Pt 0)),(5,.w (Pt 2)),(10,.w (.c (.jc (zWx (z2B m s.agents[i]))))),(11,.w (W j)),(4,.w (Pt 1)),(9,.w (W i))],coM m s k a0)):=by
 have hbl:=z38 h ha;have hT:=z56 s i hi ha.here;by_cases c1:s.agents[i].start<=s.tick
 ·refine⟨(z2B m s.agents[i]).length,?_⟩;rw[decide_eq_true c1,qy];rw[decide_eq_true c1]at hT;refine zpE (L:=L) (Cs:=Cs) (b:=z2z) (live:=some [3,5,10,11,4,9]) (n0:=5) (z2B m s.agents[i]) (fun j=>z5T m s.agents[i] j i) (coM m s k a0) (unc k s.agents[i]) _ _ ?_ ?_ ?_
  ·intro j hj hb;have hw:=zB (i:=j) (by omega);have hcj:(j:Int)<(z2B m s.agents[i]).length:=by omega
   have hI:=z6l m s k a0 hk i hi j hj;unfold unc at hb;have hb:k.jJ.any (z4q (z2B m s.agents[i])[j] s.agents[i])=true:=by simpa using hb
   rw[hb]at hI;rw[zj z2z.eq_1];simp only[z41,coM,zf,snC,zG,zch,agC,ji]at hT hI;simp[z5T,coM,zf,snC,zG,zch,agC,hj,hcj,hw,hT,hI]
  ·intro j hj hb;have hcj:(j:Int)<(z2B m s.agents[i]).length:=by omega
   have hI:=z6l m s k a0 hk i hi j hj;unfold unc at hb;have hb:k.jJ.any (z4q (z2B m s.agents[i])[j] s.agents[i])=false:=by simpa using hb
   rw[hb]at hI;rw[zj z2z.eq_1];simp only[z41,coM,zf,snC,zG,zch,agC,ji]at hT hI;simp[z5T,coM,zf,snC,zG,zch,agC,hj,hcj,hT,hI]
  ·rw[zj z2z.eq_1];simp[z5T,coM,zf,snC,zG,zch,agC]
 ·refine⟨0,?_⟩;rw[decide_eq_false c1,Bool.false_and];rw[decide_eq_false c1]at hT;rw[zj z2z.eq_1];simp only[snC]at hT;by_cases c0:0<(z2B m s.agents[i]).length
  ·simp[z5T,coM,zf,snC,zG,zch,agC,c0,hT]
  ·have:(z2B m s.agents[i]).length=0:=by omega
   simp[z5T,coM,zf,snC,zG,zch,agC,this]
abbrev z5S(i:Nat):Env:=[(3,.w (Pt 0)),(5,.w (Pt 2)),(4,.w (Pt 1)),(9,.w (W i))]
theorem z6W(m:zD)(s:SnV)(k:zci)(i:Nat)(hi:i+1<s.agents.length):z4z m s k (i+1)=(decide (s.agents[i+1].start<=s.tick)&&(z2B m s.agents[i+1]).any (unc k s.agents[i+1])):=by
 unfold z4z;rw[show s.agents.getD (i+1) z3O=s.agents[i+1] by simp[hi]];simp
theorem z6E{m:zD}(h:zcp m)(s:SnV)(hs:KSn m s)(k:zci)(a0:AgV)(hk:k.jJ.length<=100000000000):Y L Cs z2y (some [3,5,4,9]) 5 (z5S 1) (coM m s k a0) =
  some (if(List.range s.agents.length).any (z4z m s k) then(.ret,[(6,.w (Bo false))],coM m s k a0)
   else(.exit 0,[(68,.w (Bo false)),(3,.w (Pt 0)),(5,.w (Pt 2)),(4,.w (Pt 1)),(9,.w (W s.agents.length))],coM m s k a0)):=by
 have qL:=hs.few;have qT:=hs.some;have Ab:∀i (hi:i+1<s.agents.length),Y L Cs z2y (some [3,5,4,9]) 5 (z5S (i+1)) (coM m s k a0)=if z4z m s k (i+1) then some (.ret,[(6,.w (Bo false))],coM m s k a0) else Y L Cs z2y (some [3,5,4,9]) 5 (z5S (i+1+1)) (coM m s k a0):=by
  intro i hi;have hw:=zB (i:=i+1) (by omega);have ha:=hs.ags _ (jb hi);obtain⟨j,hM⟩:=z6F h s k a0 hk (i+1) hi ha;have hB:=z5H h ha;rw[z6W m s k i hi];have a1:(0:Int)<=(i:Int)+1:=by omega
  have a2:(i:Int)+1<(s.agents.length:Int):=by omega
  have a3:((i:Int)+1).toNat=i+1:=by omega
  have w2:=kQ ((i:Int)+1+1);generalize hag:s.agents[i+1]=a at *;generalize (decide (a.start<=s.tick)&&(z2B m a).any (unc k a))=u at *;rw[zj z2y.eq_1];simp only[z5T,coM,zf,snC,zG,zch,agC,ji,jP,kO]at hB hM;cases u with
  |true=>simp[z5S,coM,zf,snC,zG,zch,agC,hi,hag,hB,hM,a1,a2,a3]
  |false=>simp[z5S,coM,zf,snC,zG,zch,agC,hi,hag,hB,hM,a1,a2,a3,w2]
 have key:∀f i,i+1+f=s.agents.length->Y L Cs z2y (some [3,5,4,9]) 5 (z5S (i+1)) (coM m s k a0)=some (if(List.range' (i+1) f).any (z4z m s k) then(.ret,[(6,.w (Bo false))],coM m s k a0)
   else(.exit 0,[(68,.w (Bo false)),(3,.w (Pt 0)),(5,.w (Pt 2)),(4,.w (Pt 1)),(9,.w (W s.agents.length))],coM m s k a0)):=by
  intro f;induction f with
  |zero =>
   intro i hi;have e:s.agents.length=i+1:=by omega
   rw[zj z2y.eq_1];simp[z5S,coM,zf,snC,zG,zch,agC,e]
  |succ f ih =>
   intro i hi;rw[Ab i (by omega),List.range'_succ,qN];cases hb:z4z m s k (i+1)with
   |true=>simp
   |false =>
    rw[v9];simpa using ih (i+1) (by omega)
 have h0:z4z m s k 0=false:=by simp[z4z]
 have hr:(List.range s.agents.length).any (z4z m s k)=(List.range' 1 (s.agents.length-1)).any (z4z m s k):=by
  obtain⟨n,hn⟩:∃n,s.agents.length=n+1:=⟨s.agents.length-1,by omega⟩;rw[hn,List.range_eq_range',List.range'_succ,qN,h0];simp
 rw[hr];have:=key (s.agents.length-1) 0 (by omega);simpa using this
theorem z54{m:zD}(h:zcp m)(s:SnV)(hs:KSn m s)(k:zci)(hk:k.jJ.length<=100000000000)(hok:∀b∈k.jJ,OKB b):R L Cs z37 [.a (zf m),.a (snC s),.a (zG k)] []=some (.w (Bo (z4P m s k)),[]):=by
 have h1:=z5f h s hs;have h2:=zxh h k hk hok;have qT:=hs.some;have h3:=z6E h s hs k s.agents[0] hk;have e0:s.agents.getD 0 z3O=s.agents[0]:=by simp[qT]
 unfold z4P z7p;rw[e0];generalize hag:s.agents[0]=a at *;simp only[z5S,coM,zf,snC,zG,zch,agC,kO]at h1 h2 h3;rw[zUa z39 rfl];by_cases c1:z31 m s=0
 ·by_cases c2:zdf m k=0
  ·by_cases c3:s.tick=k.tick
   ·have c3b:(s.tick !=k.tick)=false:=by simp[c3]
    have c3d:decide (s.tick=k.tick)=true:=by simp[c3]
    have c3e:(s.tick==k.tick)=true:=by simp[c3]
    rw[c1]at h1;rw[c2]at h2;by_cases d1:k.ego.slo<=a.s
    ·have d1':¬a.s<k.ego.slo:=by omega
     by_cases d2:a.s<=k.ego.shi
     ·have d2':¬k.ego.shi<a.s:=by omega
      by_cases d3:k.ego.vlo<=a.v
      ·have d3':¬a.v<k.ego.vlo:=by omega
       by_cases d4:a.v<=k.ego.vhi
       ·have d4':¬k.ego.vhi<a.v:=by omega
        cases hq:(List.range s.agents.length).any (z4z m s k)with
        |false =>
         rw[hq]at h3;simp[zcS,zf,snC,zG,zch,agC,h1,h2,h3,c1,c2,c3b,c3d,c3e,qT,hag,d1,d2,d3,d4,d1',d2',d3',d4',zg,zH]
        |true =>
         rw[hq]at h3;simp[zcS,zf,snC,zG,zch,agC,h1,h2,h3,c1,c2,c3b,c3d,c3e,qT,hag,d1,d2,d3,d4,d1',d2',d3',d4',zg,zH]
       ·have d4':k.ego.vhi<a.v:=by omega
        simp[zcS,zf,snC,zG,zch,agC,h1,h2,c1,c2,c3b,c3d,c3e,qT,hag,d1,d2,d3,d4,d1',d2',d3',d4',zg,zH]
      ·have d3':a.v<k.ego.vlo:=by omega
       simp[zcS,zf,snC,zG,zch,agC,h1,h2,c1,c2,c3b,c3d,c3e,qT,hag,d1,d2,d3,d1',d2',d3',zg,zH]
     ·have d2':k.ego.shi<a.s:=by omega
      simp[zcS,zf,snC,zG,zch,agC,h1,h2,c1,c2,c3b,c3d,c3e,qT,hag,d1,d2,d1',d2',zg,zH]
    ·have d1':a.s<k.ego.slo:=by omega
     simp[zcS,zf,snC,zG,zch,agC,h1,h2,c1,c2,c3b,c3d,c3e,qT,hag,d1,d1',zg,zH]
   ·have c3b:(s.tick !=k.tick)=true:=by simp[c3]
    have c3e:(s.tick==k.tick)=false:=by simp[c3]
    rw[c1]at h1;rw[c2]at h2;simp[zcS,zf,snC,zG,zch,agC,h1,h2,c1,c2,c3,c3b,c3e,zg,zH]
  ·have c2e:(zdf m k==0)=false:=by simp[c2]
   have c2f:(zdf m k !=0)=true:=by simp[c2]
   rw[c1]at h1;simp[zcS,zf,snC,zG,zch,agC,h1,h2,c1,c2,c2e,c2f,zg,zH]
 ·have c1e:(z31 m s==0)=false:=by simp[c1]
  have c1f:(z31 m s !=0)=true:=by simp[c1]
  simp[zcS,zf,snC,zG,zch,agC,h1,c1,c1e,c1f,zg,zH]
theorem z94{m:zD}(h:zcp m)(h1:zXl m)(cs:List Pnt):∀(r:List zfn) (i:Nat),m.jf.drop i=r->∀c∈zXF cs i r,c.lo<=c.hi
 |[],_,_,c,hc=>by simp[zXF]at hc
 |l::r,i,hd,c,hc=>by
  have hil:i<m.jf.length:=by
   have:=congrArg List.length hd;simp at this;omega
  have hl:m.jf[i]=l:=by
   rw[kg hil]at hd;exact(uz hd).1
  have hd':m.jf.drop (i+1)=r:=by
   rw[kg hil]at hd;exact(uz hd).2
  unfold zXF at hc;rcases jm.1 hc with hc|hc
  ·rw[<-hl]at hc;exact((z9N h h1 hil cs).ok c hc).2
  ·exact z94 h h1 cs r (i+1) hd' c hc
theorem Z9{m:zD}{s:SnV}{seen:List Spn}{pts:List Pnt}(H:z97 m s seen pts){i:Nat}(hi:i<s.agents.length)(hi0:0<i)(hst:(s.agents[i]'hi).start<=s.tick){b:Spn}(hb:b∈z2B m s.agents[i]){bs:List zk}(hk:∃B∈bs,z8A b.lane b.lo b.hi s.agents[i].v B):∃B∈zXm m seen pts bs,z8A b.lane b.lo b.hi s.agents[i].v B:=by
 have hbo:=z8P (m:=m) s.agents[i] _ 0 b hb;have hfl:∀f∈zWG m pts,f.lo<=f.hi:=z94 H.vG H.dirs.BF _ m.jf 0 rfl;have hno:∀t∈zXD m seen (zWG m pts),¬(t.lane=b.lane/\t.lo<=b.hi/\b.lo<=t.hi):=by
  rintro t ht ⟨e1,e2,e3⟩;have hV:=z0i H.vG (zWG m pts) (zWG m pts) _ (zZE H.vG seen);have htl:t.lo<=t.hi:=(hV.1 (zWu t) (jZ.2 ⟨t,ht,rfl⟩)).le;have hs:z04 b.lane (max t.lo b.lo) (zXD m seen (zWG m pts)):=⟨t,ht,e1,by omega,by omega⟩;obtain⟨h1,h2⟩:=z93 _ _ hfl hs;obtain⟨x,hx,x1,x2,x3⟩:=z9H h1;have hm:z9A x b=true:=by
   unfold z9A;simp only[jg,decide_eq_true_eq];omega
  obtain⟨c,hc,c1,c2,c3,c4,c5,c6⟩:=z9M H hi hi0 hst hb hx hm;exact h2 c hc c6 ⟨c1,by omega,by omega⟩
 obtain⟨B,hB,hh⟩:=z95 hbo.1 (zXD m seen (zWG m pts)) bs hno hk;have key:∃B'∈zX4 (zXa m seen) (zWG m pts) B,z8A b.lane b.lo b.hi s.agents[i].v B':=by
  unfold zX4;split
  ·rename_i hin;obtain⟨t,ht,hd⟩:=kc.1 hin;simp only[jg,decide_eq_true_eq]at hd;have l1:=hh.lane;have l2:=hh.lo;have l3:=hh.hi;have l4:=hh.v;obtain⟨x,hx,x1,x2,x3⟩:=z9H (m:=m) (l:=seen) (ln:=b.lane) (o:=b.lo) ⟨t,ht,by omega,by omega,by omega⟩;have hm:z9A x b=true:=by
    unfold z9A;simp only[jg,decide_eq_true_eq];omega
   obtain⟨c,hc,c1,c2,c3,c4,c5,c6⟩:=z9M H hi hi0 hst hb hx hm;have hcf:c∈(zWG m pts).filter (zXe B):=by
    rw[kF];refine⟨hc,?_⟩;unfold zXe;simp only[jg,decide_eq_true_eq];omega
   cases hq:(zWG m pts).filter (zXe B)with
   |nil=>rw[hq]at hcf;cases hcf
   |cons y l =>
    rw[hq]at hcf;have m1:=(zYB l y).2 c hcf;have m2:=(zYC l y).2 c hcf;have g1:max B.vlo (zYT y l).v1<=s.agents[i].v:=by omega
    have g2:s.agents[i].v<=min B.vhi (zYU y l).v2:=by omega
    have e:nrB B (y::l)={ B with vlo:=max B.vlo (zYT y l).v1,vhi:=min B.vhi (zYU y l).v2 }:=rfl;rw[e];simp only;rw[if_pos (by omega)];exact⟨{ B with vlo:=max B.vlo (zYT y l).v1,vhi:=min B.vhi (zYU y l).v2 },by simp,l1,l2,l3,g1,g2⟩
  ·exact⟨B,by simp,hh⟩
 obtain⟨B',hB',hh'⟩:=key;exact⟨B',kR.2 ⟨B,hB,hB'⟩,hh'⟩
theorem z9Q{p:Spn}{a:AgV}{b:zk}:z4q p a b=true<->z8A p.lane p.lo p.hi a.v b:=by
 unfold z4q;simp only[jg,decide_eq_true_eq];constructor
 ·rintro⟨⟨⟨h1,h2⟩,h3⟩,h4,h5⟩;exact⟨h1,h2,h3,h4,h5⟩
 ·rintro⟨h1,h2,h3,h4,h5⟩;exact⟨⟨⟨h1,h2⟩,h3⟩,h4,h5⟩
def z9V(m:zD)(s:SnV)(bs:List zk):Prop:=∀(i:Nat) (hi:i<s.agents.length),0<i->(s.agents[i]'hi).start<=s.tick->∀b∈z2B m s.agents[i],∃B∈bs,z8A b.lane b.lo b.hi s.agents[i].v B
theorem ZU{m:zD}{s:SnV}{k:zci}:((List.range s.agents.length).any (z4z m s k)=false)<->z9V m s k.jJ:=by
 constructor
 ·intro h i hi h0 hst b hb;have qr:s.agents.getD i z3O=s.agents[i]:=by simp[hi]
  have Bk:z4z m s k i=false:=by
   cases hc:z4z m s k i with
   |false=>rfl
   |true =>
    have:(List.range s.agents.length).any (z4z m s k)=true:=kc.2 ⟨i,kL.2 hi,hc⟩;rw[this]at h;cases h
  unfold z4z at Bk;rw[qr,decide_eq_true h0,decide_eq_true hst,qy,qy]at Bk;have hu:unc k s.agents[i] b=false:=by
   cases hc:unc k s.agents[i] b with
   |false=>rfl
   |true =>
    have:(z2B m s.agents[i]).any (unc k s.agents[i])=true:=kc.2 ⟨b,hb,hc⟩;rw[this]at Bk;cases Bk
  unfold unc at hu;have hu2:k.jJ.any (z4q b s.agents[i])=true:=by simpa using hu
  obtain⟨B,hB,hc⟩:=kc.1 hu2;exact⟨B,hB,z9Q.1 hc⟩
 ·intro h;rw[List.any_eq_false];intro i hi hb;have hi:=kL.1 hi;have qr:s.agents.getD i z3O=s.agents[i]:=by simp[hi]
  unfold z4z at hb;rw[qr]at hb;simp only[jg,decide_eq_true_eq]at hb;obtain⟨⟨h0,hst⟩,hany⟩:=hb;obtain⟨b,hbm,hu⟩:=kc.1 hany;obtain⟨B,hB,hh⟩:=h i hi h0 hst b hbm;unfold unc at hu;have:k.jJ.any (z4q b s.agents[i])=true:=kc.2 ⟨B,hB,z9Q.2 hh⟩;rw[this]at hu;cases hu
theorem ZY{m:zD}{s:SnV}{seen:List Spn}{pts:List Pnt}(H:z97 m s seen pts){bs:List zk}(h:z9V m s bs):z9V m s (zXm m seen pts bs):=fun i hi h0 hst b hb=>Z9 H hi h0 hst hb (h i hi h0 hst b hb)
theorem Z1:∀(f:Nat) (o hi:Int),o<=hi->∀x∈z8q f o hi,o<=x/\x<=hi
 |0,o,hi,h,x,hx=>by simp only[z8q,jh]at hx;omega
 |f+1,o,hi,h,x,hx=>by
  unfold z8q at hx;split at hx
  ·simp only[jh]at hx;omega
  ·rcases js.1 hx with rfl|hx
   ·omega
   ·have:=Z1 f (min (o+500) hi) hi (by omega) x hx;omega
theorem BM{m:zD}{s:SnV}{seen:List Spn}{pts:List Pnt}(H:z97 m s seen pts){bs:List zk}(h:z9V m s bs):∀p∈pts,bs.any (exB m p)=true:=by
 intro p hp;obtain⟨pss,hf,hpts⟩:=H.pn;rw[hpts]at hp;obtain⟨ps,hps,hpp⟩:=List.mem_flatten.1 hp;obtain⟨⟨x,i⟩,hxi,hA⟩:=hf.right ps hps;unfold z8g at hxi;obtain⟨x',hx,hxi⟩:=kR.1 hxi;unfold z9D at hxi;obtain⟨i',hi',e⟩:=jZ.1 hxi;have hi':=kL.1 hi';obtain⟨rfl,rfl⟩:=Prod.mk.inj e;have hi:i'+1<s.agents.length:=by omega
 have ha:=H.sn.ags _ (jb hi);have hv:=H.vs _ (jb hi);have qr:s.agents.getD (i'+1) z9q=s.agents[i'+1]:=by simp[hi]
 unfold ZC at hA;simp only[qr]at hA;cases ho:z9J (z2B m s.agents[i'+1]) x' with
 |none =>
  rw[ho]at hA;simp only at hA;subst hA;cases hpp
 |some y =>
  rw[ho]at hA;simp only at hA;split at hA
  ·rename_i hst;obtain⟨j,hj,hyl,hF⟩:=hA;obtain⟨b0,hb0,hyc,h1,h2,y0,y1,y2,y3,y4,y5,y6⟩:=z9F (H.se.ok x' hx) ha.len.2 ho;obtain⟨o,hoo,hn⟩:=hF.right p hpp;have hob:=Z1 41 y.lo y.hi y1 o hoo;have hlen:=(H.se.ok x' hx).2.2.2;have ejx:x'.lane=(j:Int):=by rw[<-h1,hyl]
   have hll:=z92 hj;rw[ejx]at hlen;obtain⟨f,hff,hok⟩:=Zf H.dirs hj (o:=o) (by omega) (by omega) hv.1 hn;obtain⟨B,hB,hh⟩:=h (i'+1) hi (by omega) hst b0 hb0;rw[kc];refine⟨B,hB,?_⟩;have hBl:B.lane=(j:Int):=by rw[hh.lane,h2,ejx]
   have l2:=hh.lo;have l3:=hh.hi;have f1:=hok.lo;have f2:=hok.hi;unfold exB;have vL:0<=B.lane/\B.lane.toNat<m.jf.length:=by rw[hBl];exact⟨by omega,by simpa using hj⟩
   rw[dif_pos vL];have e2:B.lane.toNat=j:=by rw[hBl];simp
   have e3:(m.jf[B.lane.toNat]'vL.2)=m.jf[j]:=by simp only[e2]
   rw[e3,hBl,hff];simp only[qN,List.any_nil,Bool.or_false,htF,jg,decide_eq_true_eq];omega
  ·subst hA;cases hpp
theorem Zau(k:Nat)(hk:k<7)(lim r o1 o2 o3 v:Int)(ws:List zCP):z8R (zq k lim r o1 o2 o3 v ws):=by
 refine⟨fun l hl=>?_⟩;have d1:∀{x0 y0 x1 y1 len:Int},x1-x0=len->y1-y0=0->ZaR x0 y0 x1 y1 len:=fun a b=>.inl ⟨a,b⟩
 have d2:∀{x0 y0 x1 y1 len:Int},x1-x0=0->y1-y0=len->ZaR x0 y0 x1 y1 len:=fun a b=>.inr (.inl ⟨a,b⟩)
 have d3:∀{x0 y0 x1 y1 len:Int},x1-x0=24000->y1-y0=10000->len=26000->ZaR x0 y0 x1 y1 len:=fun a b c=>.inr (.inr ⟨a,b,c⟩)
 match k,hk with
 |0,_ =>
  simp only[zq,zy,js,j8,or_false]at hl;subst hl;exact⟨_,_,_,_,rfl,pc0,d1 rfl rfl⟩
 |1,_ =>
  simp only[zq,zy,js,j8,or_false]at hl;rcases hl with rfl|rfl
  ·exact⟨_,_,_,_,rfl,pc1,d1 rfl rfl⟩
  ·exact⟨_,_,_,_,rfl,pc2,d2 rfl rfl⟩
 |2,_ =>
  simp only[zq,zy,js,j8,or_false]at hl;rcases hl with rfl|rfl
  ·exact⟨_,_,_,_,rfl,pc1,d1 rfl rfl⟩
  ·exact⟨_,_,_,_,rfl,pc2,d2 rfl rfl⟩
 |3,_ =>
  simp only[zq,zy,js,j8,or_false]at hl;rcases hl with rfl|rfl|rfl
  ·exact⟨_,_,_,_,rfl,pc3,d1 rfl rfl⟩
  ·exact⟨_,_,_,_,rfl,pc4,d1 rfl rfl⟩
  ·exact⟨_,_,_,_,rfl,pc5,d3 rfl rfl rfl⟩
 |4,_ =>
  simp only[zq,zy,js,j8,or_false]at hl;rcases hl with rfl|rfl|rfl
  ·exact⟨_,_,_,_,rfl,pc3,d1 rfl rfl⟩
  ·exact⟨_,_,_,_,rfl,pc6,d3 rfl rfl rfl⟩
  ·exact⟨_,_,_,_,rfl,pc4,d1 rfl rfl⟩
 |5,_ =>
  simp only[zq,zy,js,j8,or_false]at hl;rcases hl with rfl|rfl|rfl
  ·exact⟨_,_,_,_,rfl,pc7,d1 rfl rfl⟩
  ·exact⟨_,_,_,_,rfl,pc8,d1 rfl rfl⟩
  ·exact⟨_,_,_,_,rfl,pc9,d2 rfl rfl⟩
 |6,_ =>
  simp only[zq,zy,js,j8,or_false]at hl;rcases hl with rfl|rfl|rfl|rfl
  ·exact⟨_,_,_,_,rfl,pc7,d1 rfl rfl⟩
  ·exact⟨_,_,_,_,rfl,pc8,d1 rfl rfl⟩
  ·exact⟨_,_,_,_,rfl,pc10,d3 rfl rfl rfl⟩
  ·exact⟨_,_,_,_,rfl,pc11,d2 rfl rfl⟩
theorem ZaQ(n:Int):∃m zs ss,z7y m zs ss/\z8R m/\R L Cs zY [W n] []=some (.w (.a (zf m)),[]):=by
 obtain⟨k,lim,r,o1,o2,o3,v,ws,hk,nu,hR⟩:=zA5 n;exact⟨_,_,_,z7A k hk nu,Zau k hk _ _ _ _ _ _ _,hR⟩
theorem z9S(s:SnV)(hs:0<s.agents.length)(hv:(0:Int)<=(s.agents[0]'hs).v/\(s.agents[0]'hs).v<=2000)(h0:(0:Int)<=(s.agents[0]'hs).s/\(s.agents[0]'hs).s<=100000000):R L Cs z8w [.a (snC s)] []=some (.w (Bo true),[]):=by
 have hz:((s.agents.length:Int)==0)=false:=beq_false_of_ne (by omega);obtain⟨hv1,hv2⟩:=hv;obtain⟨h01,h02⟩:=h0;generalize hag:s.agents[0]=a at *;have c1:a.v<=1099511627776:=by omega
 have c2:a.s<=1099511627776:=by omega
 have hci:(0:Int)<s.agents.length:=by omega
 rw[zUa z8x rfl];simp[z75,snC,agC,hs,hci,hag,hz,hv1,c1,h01,c2,zg,zH]
theorem Zak(s:SnV)(hs:0<s.agents.length)(hv:(0:Int)<=(s.agents[0]'hs).v/\(s.agents[0]'hs).v<=2000)(h0:(0:Int)<=(s.agents[0]'hs).s/\(s.agents[0]'hs).s<=100000000)(n:Int):∃x:Int,(s.agents[0]'hs).v-3<=x/\x<=(s.agents[0]'hs).v+3/\R L Cs z8K [.a (snC s),W n] []=some (.w (.a [I s.tick,I (max 0 (x-3)),I (x+3)]),[]):=by
 have hm:=z9S s hs hv h0;have hr:=ZW n 7 (by omega) (by omega);have hb:=kG n (show(7:Int)≠0 by omega);have hb2:=kr n (show(0:Int)<7 by omega);generalize n % 7=d at *;obtain⟨hv1,hv2⟩:=hv;obtain⟨h01,h02⟩:=h0;generalize hag:s.agents[0]=a at *;have w1:=kQ (a.v+d);have w2:=kQ (a.v+d-3);have w3:=kQ (a.v+d-3-3);have w4:=kQ (a.v+d-3+3);have hci:(0:Int)<s.agents.length:=by omega
 refine⟨a.v+d-3,by omega,by omega,?_⟩;simp only[snC]at hm;rw[zUa z8S rfl];simp[z79,snC,agC,hs,hci,hag,hm,hr,w1,w2,w3,w4,zg,zH]
 try rw[w4]
theorem Za3(s:SnV)(hs:0<s.agents.length)(hv:(0:Int)<=(s.agents[0]'hs).v/\(s.agents[0]'hs).v<=2000)(h0:(0:Int)<=(s.agents[0]'hs).s/\(s.agents[0]'hs).s<=100000000)(n:Int):∃x:Int,(s.agents[0]'hs).s-200<=x/\x<=(s.agents[0]'hs).s+200/\R L Cs z9c [.a (snC s),W n] []=some (.w (.a [I s.tick,I (x-200),I (x+200)]),[]):=by
 have hm:=z9S s hs hv h0;have hr:=ZW n 401 (by omega) (by omega);have hb:=kG n (show(401:Int)≠0 by omega);have hb2:=kr n (show(0:Int)<401 by omega);generalize n % 401=d at *;obtain⟨hv1,hv2⟩:=hv;obtain⟨h01,h02⟩:=h0;generalize hag:s.agents[0]=a at *;have w1:=kQ (a.s+d);have w2:=kQ (a.s+d-200);have w3:=kQ (a.s+d-200-200);have w4:=kQ (a.s+d-200+200);have hci:(0:Int)<s.agents.length:=by omega
 refine⟨a.s+d-200,by omega,by omega,?_⟩;simp only[snC]at hm;rw[zUa z9e rfl];simp[z8h,snC,agC,hs,hci,hag,hm,hr,w1,w2,w3,w4,zg,zH]
 try rw[w4]
abbrev z7r:Sh:=.st [zmN,zmN,zmN,zmN,zmN,.bool]
theorem z7q{r:List Cl}(h:zfo z7r r):∃x,r=z3N x:=by
 simp only[zfo,znD]at h;obtain⟨_,_,rfl,⟨a1,rfl,q1⟩,_,_,rfl,⟨a2,rfl,q2⟩,_,_,rfl,⟨a3,rfl,q3⟩,_,_,rfl,⟨a4,rfl,q4⟩,_,_,rfl,⟨a5,rfl,q5⟩,_,_,rfl,⟨a6,rfl⟩,rfl⟩:=h;exact⟨⟨a1,a2,a3,a4,a5,a6⟩,rfl⟩
theorem z6p:∀{rows:List (List Cl)},(∀r∈rows,zfo z7r r)->∃l,rows=z32 l
 |[],_=>⟨[],rfl⟩
 |r::rows,h=>by
  obtain⟨b,rfl⟩:=z7q (h r (jr ..));obtain⟨l,rfl⟩:=z6p fun x hx=>h x (jp _ hx)
  exact⟨b::l,rfl⟩
theorem z8v{m:zD}{s:SnV}{k:zci}:z4P m s k=true<->z31 m s=0/\zdf m k=0/\s.tick=k.tick/\z7p (s.agents.getD 0 z3O) k.ego=true/\z9V m s k.jJ:=by
 unfold z4P;rw[<-ZU];simp only[jg,decide_eq_true_eq,kU];constructor
 ·rintro⟨⟨⟨⟨a,b⟩,c⟩,d⟩,e⟩;exact⟨a,b,c,d,e⟩
 ·rintro⟨a,b,c,d,e⟩;exact⟨⟨⟨⟨a,b⟩,c⟩,d⟩,e⟩
theorem Z2{m:zD}{k:zci}(hc:zdf m k=0):¬ziI k:=by
 unfold zdf at hc;split at hc
 ·cases hc
 ·assumption
def Zaz(k:zci)(e:Ego):zci:=⟨k.tick,k.jJ,e⟩
theorem ZT{m:zD}(h:zcp m){s:SnV}{k:zci}(hk:z4P m s k=true){e:Ego}(he:z7p (s.agents.getD 0 z3O) e=true)(h1:k.ego.slo<=e.slo/\e.shi<=k.ego.shi)(h2:k.ego.vlo<=e.vlo/\e.vhi<=k.ego.vhi):z4P m s (Zaz k e)=true/\zXR (Zaz k e) k=true:=by
 obtain⟨a,b,c,d,f⟩:=z8v.1 hk;have hv:=zxJ h b;have ha:=zFn h b;have ho:=Z2 b;have he':=he;unfold z7p at he';simp only[jg,decide_eq_true_eq]at he';refine⟨z8v.2 ⟨a,zFv (k:=Zaz k e) ?_ hv ha,c,he,f⟩,(zX7 _ _).2 ⟨rfl,⟨h1.1,h1.2,h2.1,h2.2⟩,fun p hp=>⟨p,hp,.refl p⟩⟩⟩;unfold ziI at ho ⊢;simp only[Zaz];omega
theorem ZJ{m:zD}{s:SnV}{seen:List Spn}{pts:List Pnt}(H:z97 m s seen pts){k:zci}(hk:z4P m s k=true):z4P m s ⟨k.tick,zXm m seen pts k.jJ,k.ego⟩=true/\zXR ⟨k.tick,zXm m seen pts k.jJ,k.ego⟩ k=true:=by
 obtain⟨a,b,c,d,f⟩:=z8v.1 hk;have hv:=zxJ H.vG b;have ha:=zFn H.vG b;have ho:=Z2 b;obtain⟨p1,p2⟩:=zZj (seen:=seen) (pts:=pts) hv ha;refine⟨z8v.2 ⟨a,zFv (k:=⟨k.tick,zXm m seen pts k.jJ,k.ego⟩) ?_ p1 p2,c,d,ZY H f⟩,(zX7 _ _).2 ⟨rfl,⟨jQ _,jQ _,jQ _,jQ _⟩,z0e fun p hp=>(hv p hp).le⟩⟩;unfold ziI at ho ⊢;exact ho
theorem Zaa{m:zD}{s:SnV}(h:z31 m s=0):∀a∈s.agents,0<=a.v/\a.v<=2000:=by
 intro a ha;unfold z31 at h;split at h
 ·cases h
 ·rename_i c;have hc:z3z m a=0:=by
   by_cases e:z3z m a=0
   ·exact e
   ·exact absurd (kc.2 ⟨a,ha,by simpa using e⟩) c
  have ht:=z5w (zaK m (z42 m a));unfold z3z at hc;split at hc
  ·omega
  ·cases hc
theorem Z5{m:zD}(h:zcp m):∀(r:List zfn) (i:Nat),(∀l∈r,l∈m.jf)->∀b∈zTA i r,OKB b
 |[],_,_,b,hb=>by simp[zTA]at hb
 |l::r,i,hr,b,hb=>by
  unfold zTA at hb;rcases js.1 hb with rfl|hb
  ·have:=h.Bf l (hr l (by simp));exact⟨by simp only[zTF];omega,by simp only[zTF];omega,by simp only[zTF];omega,by simp only[zTF];omega⟩
  ·exact Z5 h r (i+1) (fun l hl=>hr l (by simp[hl])) b hb
theorem Z6:∀(r:List zfn) (i:Nat),(zTA i r).length=r.length
 |[],_=>rfl
 |l::r,i=>by
  unfold zTA;simp[Z6 r (i+1)]
theorem ZE{m:zD}{zs:List Zon}{ss:List Sgn}(hF:z7y m zs ss)(hD:z8R m)(n:Int)(l:List z45)(c1:l.length<=7)(pad:List Int)(c2:pad.length<=8)(hpi:∀x∈pad,zk0 x)(sp view:Int)(z:List Int)(c3:z.length<=60)(hM:R L Cs zY [W n] []=some (.w (.a (zf m)),[])) :
  R L Cs z7S [W n,.c (.jc (z32 l)),.c (.jc (zu pad)),W sp,W view,.c (.jc (zu z))] []=some (.w (Bo true),[]):=by
 have haw:=zBZ;have h:=hF.full.vG;have hsh:=hF.full.BC;obtain⟨s,hs,hS⟩:=z7i hF l c1;obtain⟨k0,b1,b2,b3,hC⟩:=ZG h hsh s hs pad (by omega) hpi sp;have hA:=zT0 h s.tick k0.ego;have d1:¬(7:Int)<l.length:=by omega
 have d1':¬7<l.length:=by omega
 have d2:¬(8:Int)<pad.length:=by omega
 have d2':¬8<pad.length:=by omega
 have d3:¬(60:Int)<z.length:=by omega
 have d3':¬60<z.length:=by omega
 have qL:=hsh.few;obtain⟨K,hK0,hK1,hK2,hK3⟩:∃K:zci,K.jJ.length<=4000/\(∀b∈K.jJ,OKB b)/\K.tick=s.tick/\(pad.length=0/\K=⟨s.tick,zTA 0 m.jf,k0.ego⟩\/¬pad.length=0/\K=k0):=by
  by_cases e:pad.length=0
  ·exact⟨⟨s.tick,zTA 0 m.jf,k0.ego⟩,by simp only[Z6];omega,Z5 h m.jf 0 (fun _ h=>h),rfl,.inl ⟨e,rfl⟩⟩
  ·exact⟨k0,b1,b2,b3,.inr ⟨e,rfl⟩⟩
 have Bb:=z54 h s hs K (by omega) hK1;have pz:pad.length=0->((pad.length:Int)==0)=true:=fun e=>by simp[e]
 have pn:¬pad.length=0->((pad.length:Int)==0)=false:=fun e=>beq_false_of_ne (by omega)
 cases hc:z4P m s K with
 |false =>
  rw[hc]at Bb;rw[zUa z7R rfl];simp only[zf,snC,zG,zch]at hM hS hC hA Bb;rcases hK3 with⟨e,rfl⟩ |⟨e,rfl⟩
  ·have pe:=pz e;obtain rfl:pad=[]:=jN.1 e;simp only[zay]at hC;simp (maxSteps:=1000000) [z7H,zf,snC,zG,d1,d1',d2,d2',d3,d3',haw,hM,hS,hC,hA,Bb,zg,zH]
  ·have pe:=pn e;simp (maxSteps:=1000000) [z7H,zf,snC,zG,d1,d1',d2,d2',d3,d3',haw,hM,hS,hC,hA,Bb,pe,e,zg,zH]
 |true =>
  rw[hc]at Bb;obtain⟨q1,q2,q3,q4,q5⟩:=z8v.1 hc;have hvs:=Zaa q1;have hbl:∀a∈s.agents,(z2B m a).length<=2:=fun a ha=>by
   have h2:=zlP hsh (hs.ags a ha).jy;have h3:=z51 m a a.jy 0;exact kd h3 h2
  have hvw:=zDJ view 80001 (by omega);have hmv:=zD0 view 80001 (by omega) (by omega);obtain⟨seen,pts,hse,hpn,hX⟩:=ZaJ h hD.BF qL s hs q1 hbl hvs (view % 80001) ⟨by omega,by omega⟩ z (by omega);have H:z97 m s seen pts:=⟨h,hsh,hD,hs,hvs,hse,hpn⟩;have hpl:=Zp hs hbl hse.ok hse.ap (by have:=hs.some;omega) hpn;have hU:=Zal h hsh hD.BF K q2 ⟨s.tick,seen,pts⟩ hK2.symm (by simp only;exact hse.len) (by simp only;omega);obtain⟨u1,u2⟩:=ZJ H hc;have hvK:=zxJ h q2;have haK:=zFn h q2;have hul:=zYP h hsh seen pts hvK haK;have huV:=(zZj (seen:=seen) (pts:=pts) hvK haK).1;have huO:∀b∈zXm m seen pts K.jJ,OKB b:=fun b hb=>(huV b hb).okb h
  have hex:=BM H (ZY H q5);have hI1:=zYb ⟨K.tick,zXm m seen pts K.jJ,K.ego⟩ K (by simp only;omega) (by omega);rw[u2]at hI1;have hCU:=z54 h s hs ⟨K.tick,zXm m seen pts K.jJ,K.ego⟩ (by simp only;omega) huO;rw[u1]at hCU;have hEx:=ZF h hD.BF ⟨K.tick,zXm m seen pts K.jJ,K.ego⟩ (by simp only;omega) pts (by omega) (fun p hp _=>hex p hp);have qT:=hs.some;have ha0:=hs.ags _ (jb qT);have hv0:=hvs _ (jb qT);have hs0:=ha0.s;have he0:=ha0.yp h;obtain⟨x,x1,x2,hM1⟩:=Zak s qT hv0 ⟨hs0.1,by omega⟩ sp;obtain⟨y,y1,y2,hM2⟩:=Za3 s qT hv0 ⟨hs0.1,by omega⟩ view;have hg0:s.agents.getD 0 z3O=s.agents[0]:=by simp[qT]
  rw[hg0]at q4;unfold z7p at q4;simp only[jg,decide_eq_true_eq]at q4;have hT1:=Za4 ⟨K.tick,zXm m seen pts K.jJ,K.ego⟩ (by simp only;omega) s.tick (max 0 (x-3)) (x+3);have e1:z9f ⟨K.tick,zXm m seen pts K.jJ,K.ego⟩ s.tick (max 0 (x-3)) (x+3)=(⟨K.tick,zXm m seen pts K.jJ,⟨K.ego.slo,K.ego.shi,max K.ego.vlo (max 0 (x-3)),min K.ego.vhi (x+3)⟩⟩,true):=by
   unfold z9f;rw[if_neg (by simp only;omega),if_neg (by simp only;omega)]
  rw[e1]at hT1;have hT2:=Zbi ⟨K.tick,zXm m seen pts K.jJ,⟨K.ego.slo,K.ego.shi,max K.ego.vlo (max 0 (x-3)),min K.ego.vhi (x+3)⟩⟩ (by simp only;omega) s.tick (y-200) (y+200);have e2:Zag ⟨K.tick,zXm m seen pts K.jJ,⟨K.ego.slo,K.ego.shi,max K.ego.vlo (max 0 (x-3)),min K.ego.vhi (x+3)⟩⟩ s.tick (y-200) (y+200)=(⟨K.tick,zXm m seen pts K.jJ,⟨max K.ego.slo (y-200),min K.ego.shi (y+200),max K.ego.vlo (max 0 (x-3)),min K.ego.vhi (x+3)⟩⟩,true):=by
   unfold Zag;rw[if_neg (by simp only;omega),if_neg (by simp only;omega)]
  rw[e2]at hT2;obtain⟨w1,w2⟩:=ZT h u1 (e:=⟨max K.ego.slo (y-200),min K.ego.shi (y+200),max K.ego.vlo (max 0 (x-3)),min K.ego.vhi (x+3)⟩) (by
   rw[hg0];unfold z7p;simp only[jg,decide_eq_true_eq];omega) ⟨by simp only;omega,by simp only;omega⟩ ⟨by simp only;omega,by simp only;omega⟩
  unfold Zaz at w1 w2;have hCB:=z54 h s hs ⟨K.tick,zXm m seen pts K.jJ,⟨max K.ego.slo (y-200),min K.ego.shi (y+200),max K.ego.vlo (max 0 (x-3)),min K.ego.vhi (x+3)⟩⟩ (by simp only;omega) huO;rw[w1]at hCB;have hI2:=zYb ⟨K.tick,zXm m seen pts K.jJ,⟨max K.ego.slo (y-200),min K.ego.shi (y+200),max K.ego.vlo (max 0 (x-3)),min K.ego.vhi (x+3)⟩⟩ ⟨K.tick,zXm m seen pts K.jJ,K.ego⟩ (by simp only;omega) (by simp only;omega);rw[w2]at hI2;clear u1 u2 w1 w2 e1 e2 H hex huO huV hvK haK hc q5 hpn hse hvs hbl hK1 q4 b2;generalize zXm m seen pts K.jJ=U at *;generalize max K.ego.vlo (max 0 (x-3))=g1 at *;generalize min K.ego.vhi (x+3)=g2 at *;generalize max K.ego.slo (y-200)=g3 at *;generalize min K.ego.shi (y+200)=g4 at *;simp only[zf,snC,zG,zch,ZaU,zX6,zM5]at hM hS hC hA Bb hX hU hI1 hCU hEx hM1 hM2 hT1 hT2 hCB hI2;rw[zUa z7R rfl];rcases hK3 with⟨e,rfl⟩ |⟨e,rfl⟩
  ·have pe:=pz e;obtain rfl:pad=[]:=jN.1 e;simp only[zay]at hC;simp (maxSteps:=1000000) [z7H,zf,snC,zG,d1,d1',d2,d2',d3,d3',haw,hM,hS,hC,hA,Bb,hmv,hX,hU,hI1,hCU,hEx,hM1,hM2,hT1,hT2,hCB,hI2,zg,zH]
  ·have pe:=pn e;simp (maxSteps:=1000000) [z7H,zf,snC,zG,d1,d1',d2,d2',d3,d3',haw,hM,hS,hC,hA,Bb,hmv,hX,hU,hI1,hCU,hEx,hM1,hM2,hT1,hT2,hCB,hI2,pe,e,zg,zH]
theorem Zh(n:Int)(l:List z45)(pad:List Int)(hpi:∀x∈pad,zk0 x)(sp view:Int)(z:List Int):R L Cs z7S [W n,.c (.jc (z32 l)),.c (.jc (zu pad)),W sp,W view,.c (.jc (zu z))] []=some (.w (Bo true),[]):=by
 have ha:=zBZ;by_cases c1:(7:Int)<l.length
 ·have c1':7<l.length:=by omega
  rw[zUa z7R rfl];simp[z7H,c1,c1',ha,zg]
 have c1':¬7<l.length:=by omega
 by_cases c2:(8:Int)<pad.length
 ·have c2':8<pad.length:=by omega
  rw[zUa z7R rfl];simp[z7H,c1,c1',c2,c2',ha,zg]
 have c2':¬8<pad.length:=by omega
 by_cases c3:(60:Int)<z.length
 ·have c3':60<z.length:=by omega
  rw[zUa z7R rfl];simp[z7H,c1,c1',c2,c2',c3,c3',ha,zg]
 obtain⟨m,zs,ss,hF,hD,hM⟩:=ZaQ n;exact ZE hF hD n l (by omega) pad (by omega) hpi sp view z (by omega) hM
theorem ZP:∀xs,zot [zmN,.slice z7r,.slice zmN,zmN,zmN,.slice zmN] xs->∃M',R L Cs z7S xs []=some (.w (.c (.bool true)),M'):=by
 intro xs h;simp only[zot]at h;obtain⟨c1,_,rfl,h1,c2,_,rfl,h2,c3,_,rfl,h3,c4,_,rfl,h4,c5,_,rfl,h5,c6,_,rfl,h6,rfl⟩:=h;simp only[zfo]at h1 h2 h3 h4 h5 h6;obtain⟨n,rfl,_⟩:=h1;obtain⟨rows,rfl,_,yV⟩:=h2;obtain⟨l,rfl⟩:=z6p (rows:=rows) (fun r hr=>by
  have:=yV r hr;simp only[zfo,znD];exact this)
 obtain⟨rows3,rfl,_,Bi⟩:=h3;obtain⟨pad,rfl,hpi⟩:=zxB (rows:=rows3) (fun r hr=>by simp only[zfo];exact Bi r hr);obtain⟨sp,rfl,_⟩:=h4;obtain⟨view,rfl,_⟩:=h5;obtain⟨rows6,rfl,_,hrows6⟩:=h6;obtain⟨z,rfl,_⟩:=zxB (rows:=rows6) (fun r hr=>by simp only[zfo];exact hrows6 r hr);exact⟨[],Zh n l pad hpi sp view z⟩
end Go.TrRun
