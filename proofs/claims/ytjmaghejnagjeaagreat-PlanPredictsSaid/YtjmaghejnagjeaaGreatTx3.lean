/- This text proves what functions of this seat's program answer, run by the evaluator; no condition. -/
import Derived.Test.YtjmaghejnagjeaaGreatTx2
import Derived.WalkSmall
set_option maxHeartbeats 8000000
set_option linter.unusedVariables false
set_option linter.unusedSimpArgs false
set_option linter.unusedSectionVars false
set_option maxRecDepth 10000
namespace Go.TrRun
open Go Go.Eng
def zbS(a b:Nat):Nat:=(a+b) / 2
def loS(a m b:Nat):Nat:=if zbS a b<m then zbS a b+m-b else a
def hiS(a m b:Nat):Nat:=if zbS a b<m then zbS a b else m
def stS(a m b:Nat)(l:List zk):Nat:=bsF (pC l (zbS a b+m-1)) (hiS a m b-loS a m b) (loS a m b) (hiS a m b)
def enS(a m b:Nat)(l:List zk):Nat:=zbS a b+m-stS a m b l
def zjz(a m b:Nat)(l:List zk):List zk:=if stS a m b l<m/\m<enS a m b l then ztB (stS a m b l) m (enS a m b l) l else l
def zlI:Nat->Nat->Nat->Nat->List zk->List zk
 |0,_,_,_,l=>l
 |f+1,a,m,b,l =>
  if m-a=1 then upF a (bsF (pA l a) (b-m) m b-1-a) l
  else if b-m=1 then dnF m (m-bsF (pB l m) (m-a) a m) l
  else
   let l2:=if a<stS a m b l/\stS a m b l<zbS a b then zlI f a (stS a m b l) (zbS a b) (zjz a m b l) else zjz a m b l
   if zbS a b<enS a m b l/\enS a m b l<b then zlI f (zbS a b) (enS a m b l) b l2 else l2
@[simp] theorem zC6(a m b:Nat)(l:List zk):(zjz a m b l).length=l.length:=by unfold zjz;split<;>simp
@[simp] theorem zzn:∀(f a m b:Nat) (l:List zk),(zlI f a m b l).length=l.length
  |0,_,_,_,_=>rfl
  |f+1,a,m,b,l=>by
   rw[zlI];split
   ·simp
   ·split
    ·simp
    ·dsimp only;split<;>split<;>simp[zzn f]
structure Bd(a m b:Nat)(l:List zk):Prop where
 lo:loS a m b<=hiS a m b
 st:loS a m b<=stS a m b l/\stS a m b l<=hiS a m b
 hi:hiS a m b<=m/\a<=loS a m b
 en:m<=enS a m b l/\enS a m b l<=b
 mid:a<zbS a b/\zbS a b<b
 p:hiS a m b<=zbS a b+m-1+1/\zbS a b+m-1<b+loS a m b
 sm:loS a m b<4000000000000
theorem zDk{a m b:Nat}(h1:a<m)(h2:m<b)(hb:b<=900000000000)(l:List zk):Bd a m b l:=by
 have hm:zbS a b=(a+b) / 2:=rfl;have hlo:loS a m b<=hiS a m b:=by unfold loS hiS;split<;>omega
 have hst:=zju (pC l (zbS a b+m-1)) (hiS a m b-loS a m b) (loS a m b) (hiS a m b) hlo;have hst':loS a m b<=stS a m b l/\stS a m b l<=hiS a m b:=hst;have hen:enS a m b l=zbS a b+m-stS a m b l:=rfl;have e1:hiS a m b<=m/\a<=loS a m b/\loS a m b<4000000000000:=by unfold loS hiS;split<;>omega
 have e2:hiS a m b<=zbS a b+m-1+1/\zbS a b+m-1<b+loS a m b:=by unfold loS hiS;split<;>omega
 have e3:m<=zbS a b+m-stS a m b l/\zbS a b+m-stS a m b l<=b:=by
  have h3:=hst'.1;have h4:=hst'.2;by_cases c:zbS a b<m
  ·simp only[loS,if_pos c]at h3;simp only[hiS,if_pos c]at h4;omega
  ·simp only[loS,if_neg c]at h3;simp only[hiS,if_neg c]at h4;omega
 exact⟨hlo,hst',⟨e1.1,e1.2.1⟩,by rw[hen];exact e3,by omega,e2,e1.2.2⟩
theorem zrM(N k:Nat)(hk:k<=N)(hN:N<=900000000000):∀(f a m b:Nat) (l:List zk),b-a<=f->a<m->m<b->b<=k->l.length=N->zxj zcQ N k [(a:Int),(m:Int),(b:Int)] l (zlI f a m b l):=by
 intro f;induction f with
 |zero=>intro a m b l h1 h2 h3;omega
 |succ f ih =>
  intro a m b l hf ham hmb hbk hl v;have w1:IntKind.i64.wrap ((m:Int)-(a:Int))=((m-a:Nat):Int):=by rw[zl _ (by omega) (by omega)];omega
  have w2:IntKind.i64.wrap ((b:Int)-(m:Int))=((b-m:Nat):Int):=by rw[zl _ (by omega) (by omega)];omega
  rw[zlI];by_cases c1:m-a=1
  ·rw[if_pos c1];have h1:=zxW N k a hk hN (by omega) l hl v (b-m) m b (Nat.le_refl _) (by omega) hbk;have hb:=zju (pA l a) (b-m) m b (by omega);obtain⟨v',g1,g2,h2⟩:=zxV N k (bsF (pA l a) (b-m) m b) hk hN (by omega) (by omega) (bsF (pA l a) (b-m) m b-1-a) a l v (by omega) hl;refine⟨v',g1,g2,?_⟩;generalize bsF (pA l a) (b-m) m b=i at *;rw[z4 zcU rfl];have c1':((m-a:Nat):Int)=1:=by omega
   simp[zc,w1,c1,h1,h2,blk,hl]
  ·rw[if_neg c1];have c1':(((m-a:Nat):Int)==1)=false:=by simp;omega
   by_cases c2:b-m=1
   ·rw[if_pos c2];have h1:=zxU N k m hk hN (by omega) l hl v (m-a) a m (Nat.le_refl _) (by omega) (by omega);have hb:=zju (pB l m) (m-a) a m (by omega);obtain⟨v',g1,g2,h2⟩:=zxT N k (bsF (pB l m) (m-a) a m) hk hN (m-bsF (pB l m) (m-a) a m) m l v (by omega) (by omega) hl;refine⟨v',g1,g2,?_⟩;generalize bsF (pB l m) (m-a) a m=i at *;rw[z4 zcU rfl];simp[zc,w1,w2,c1',c2,h1,h2,blk,hl]
   ·rw[if_neg c2];have c2':(((b-m:Nat):Int)==1)=false:=by simp;omega
    have bd:=zDk ham hmb (by omega) l;have hL:=zxS N k b (zbS a b) a m (zbS a b+m) (zbS a b+m-1) hk hN (by have:=bd.mid;omega) l hl v (hiS a m b-loS a m b) (loS a m b) (hiS a m b) (Nat.le_refl _) bd.lo (by have:=bd.hi;omega) bd.p.1 (by have:=bd.p.2;omega);have eS:bsF (pC l (zbS a b+m-1)) (hiS a m b-loS a m b) (loS a m b) (hiS a m b)=stS a m b l:=rfl;rw[eS]at hL;have hen:enS a m b l=zbS a b+m-stS a m b l:=rfl;have b1:=bd.st;have b2:=bd.hi;have b3:=bd.en;have b4:=bd.mid;have hT:∃v1 fp1,v<=v1/\(v1=v->zjz a m b l=l)/\(stS a m b l<m/\m<enS a m b l->zx (R L Cs) ⟨false⟩ (fn1 ze4) [.c (.slice 0 N 6 0 k none),W (stS a m b l),W m,W (enS a m b l),fn1 zdc] [some { box:=false,esz:=6,rows:=zI l,gen:=N,fz:=false,ver:=v }]=some (.t [],[some { box:=false,esz:=6,rows:=zI (zjz a m b l),gen:=N,fz:=false,ver:=v1 }],fp1))/\(¬(stS a m b l<m/\m<enS a m b l)->zjz a m b l=l/\v1=v):=by
     by_cases c:stS a m b l<m/\m<enS a m b l
     ·have e:zjz a m b l=ztB (stS a m b l) m (enS a m b l) l:=by rw[zjz,if_pos c]
      have hd:=zAQ N k (stS a m b l) m (enS a m b l) hk hN c.1 c.2 (by omega) l hl;rw[<-e]at hd;obtain⟨v1,fp,q1,q2,q3⟩:=zfi hd hl (by simp[hl]) v;exact⟨v1,fp,q1,q2,fun _=>q3,fun h=>absurd c h⟩
     ·have e:zjz a m b l=l:=by rw[zjz,if_neg c]
      exact⟨v,.no,Nat.le_refl _,fun _=>e,fun h=>absurd h c,fun _=>⟨e,rfl⟩⟩
    obtain⟨v1,fp1,t1,t2,t3,t4⟩:=hT;generalize hl1:zjz a m b l=l1 at *;have hl1n:l1.length=N:=by rw[<-hl1];simp[hl]
    dsimp only;generalize hl2:(if a<stS a m b l/\stS a m b l<zbS a b then zlI f a (stS a m b l) (zbS a b) l1 else l1)=l2;have hl2n:l2.length=N:=by rw[<-hl2];split<;>simp[hl1n]
    have hA:∃v2 fp2,v1<=v2/\(v2=v1->l2=l1)/\(a<stS a m b l/\stS a m b l<zbS a b->zx (R L Cs) ⟨false⟩ (fn1 zcQ) [.c (.slice 0 N 6 0 k none),W a,W (stS a m b l),W (zbS a b),fn1 zdc] [some { box:=false,esz:=6,rows:=zI l1,gen:=N,fz:=false,ver:=v1 }]=some (.t [],[some { box:=false,esz:=6,rows:=zI l2,gen:=N,fz:=false,ver:=v2 }],fp2))/\(¬(a<stS a m b l/\stS a m b l<zbS a b)->l2=l1/\v2=v1):=by
     by_cases c:a<stS a m b l/\stS a m b l<zbS a b
     ·rw[if_pos c]at hl2;have hd:=ih a (stS a m b l) (zbS a b) l1 (by omega) c.1 c.2 (by omega) hl1n;rw[hl2]at hd;obtain⟨v2,fp,q1,q2,q3⟩:=zfi hd hl1n hl2n v1;exact⟨v2,fp,q1,q2,fun _=>q3,fun h=>absurd c h⟩
     ·rw[if_neg c]at hl2;exact⟨v1,.no,Nat.le_refl _,fun _=>hl2.symm,fun h=>absurd h c,fun _=>⟨hl2.symm,rfl⟩⟩
    obtain⟨v2,fp2,s1,s2,s3,s4⟩:=hA;generalize hl3:(if zbS a b<enS a m b l/\enS a m b l<b then zlI f (zbS a b) (enS a m b l) b l2 else l2)=l3;have hl3n:l3.length=N:=by rw[<-hl3];split<;>simp[hl2n]
    have hB:∃v3 fp3,v2<=v3/\(v3=v2->l3=l2)/\(zbS a b<enS a m b l/\enS a m b l<b->zx (R L Cs) ⟨false⟩ (fn1 zcQ) [.c (.slice 0 N 6 0 k none),W (zbS a b),W (enS a m b l),W b,fn1 zdc] [some { box:=false,esz:=6,rows:=zI l2,gen:=N,fz:=false,ver:=v2 }]=some (.t [],[some { box:=false,esz:=6,rows:=zI l3,gen:=N,fz:=false,ver:=v3 }],fp3))/\(¬(zbS a b<enS a m b l/\enS a m b l<b)->l3=l2/\v3=v2):=by
     by_cases c:zbS a b<enS a m b l/\enS a m b l<b
     ·rw[if_pos c]at hl3;have hd:=ih (zbS a b) (enS a m b l) b l2 (by omega) c.1 c.2 (by omega) hl2n;rw[hl3]at hd;obtain⟨v3,fp,q1,q2,q3⟩:=zfi hd hl2n hl3n v2;exact⟨v3,fp,q1,q2,fun _=>q3,fun h=>absurd c h⟩
     ·rw[if_neg c]at hl3;exact⟨v2,.no,Nat.le_refl _,fun _=>hl3.symm,fun h=>absurd h c,fun _=>⟨hl3.symm,rfl⟩⟩
    obtain⟨v3,fp3,r1,r2,r3,r4⟩:=hB;refine⟨v3,by omega,fun hv=>by rw[r2 (by omega),s2 (by omega),t2 (by omega)],?_⟩;have w3:IntKind.i64.wrap ((a:Int)+(b:Int))=((a+b:Nat):Int):=by rw[zl _ (by omega) (by omega)];omega
    have w4:=ztp (a+b) (by omega);have w5:Int.fdiv ((a+b:Nat):Int) (2 ^ min 1 IntKind.u64.bits)=((zbS a b:Nat):Int):=zqe (a+b);have w6:=zqd (zbS a b) (by omega);have w7:IntKind.i64.wrap ((zbS a b:Int)+(m:Int))=((zbS a b+m:Nat):Int):=by rw[zl _ (by omega) (by omega)];omega
    have w8:IntKind.i64.wrap (((zbS a b+m:Nat):Int)-1)=((zbS a b+m-1:Nat):Int):=by rw[zl _ (by omega) (by omega)];omega
    have w9:IntKind.i64.wrap (((zbS a b+m:Nat):Int)-(stS a m b l:Int))=((enS a m b l:Nat):Int):=by rw[zl _ (by omega) (by omega)];omega
    have w10:zbS a b<m->IntKind.i64.wrap (((zbS a b+m:Nat):Int)-(b:Int))=((loS a m b:Nat):Int):=fun h=>by
     have:loS a m b=zbS a b+m-b:=by rw[loS,if_pos h]
     rw[zl _ (by omega) (by omega)];have:b<=zbS a b+m:=by have:zbS a b=(a+b) / 2:=rfl;omega
     omega
    have w11:zbS a b<m->hiS a m b=zbS a b:=fun h=>by rw[hiS,if_pos h]
    have w12:¬zbS a b<m->hiS a m b=m/\loS a m b=a:=fun h=>by rw[hiS,loS,if_neg h,if_neg h];exact⟨rfl,rfl⟩
    generalize stS a m b l=st at *;generalize enS a m b l=en at *;generalize zbS a b=mid at *;generalize loS a m b=lo at *;generalize hiS a m b=hi at *;rw[z4 zcU rfl];clear ih bd;have hcode:∀E,X L Cs zc.code E [blk v l]=X L Cs zc.code E [some { box:=false,esz:=6,rows:=zI l,gen:=N,fz:=false,ver:=v }]:=fun E=>by simp[blk,hl]
    simp only[e5]at hL;by_cases d1:mid<m
    ·rw[w11 d1]at hL;have w10:=w10 d1;by_cases d2:st<m
     ·by_cases d2b:m<en
      ·have t3:=t3 ⟨d2,d2b⟩;by_cases d3:a<st
       ·by_cases d3b:st<mid
        ·have s3:=s3 ⟨d3,d3b⟩;by_cases d4:mid<en
         ·by_cases d4b:en<b
          ·have r3:=r3 ⟨d4,d4b⟩;simp[zc,w1,w2,c1',c2',w3,w4,w5,w6,w7,w8,w9,w10,hL,d1,d2,d2b,d3,d3b,d4,d4b,t3,s3,r3,blk,hl,hl3n,-zx,-Int.natCast_add]
          ·obtain⟨e1,e2⟩:=r4 (fun h=>d4b h.2);subst e1 e2;have r3:=trivial;simp[zc,w1,w2,c1',c2',w3,w4,w5,w6,w7,w8,w9,w10,hL,d1,d2,d2b,d3,d3b,d4,d4b,t3,s3,r3,blk,hl,hl3n,-zx,-Int.natCast_add]
         ·obtain⟨e1,e2⟩:=r4 (fun h=>d4 h.1);subst e1 e2;have r3:=trivial;have d4b:=trivial;simp[zc,w1,w2,c1',c2',w3,w4,w5,w6,w7,w8,w9,w10,hL,d1,d2,d2b,d3,d3b,d4,d4b,t3,s3,r3,blk,hl,hl3n,-zx,-Int.natCast_add]
        ·obtain⟨e1,e2⟩:=s4 (fun h=>d3b h.2);subst e1 e2;have s3:=trivial;by_cases d4:mid<en
         ·by_cases d4b:en<b
          ·have r3:=r3 ⟨d4,d4b⟩;simp[zc,w1,w2,c1',c2',w3,w4,w5,w6,w7,w8,w9,w10,hL,d1,d2,d2b,d3,d3b,d4,d4b,t3,s3,r3,blk,hl,hl3n,-zx,-Int.natCast_add]
          ·obtain⟨e1,e2⟩:=r4 (fun h=>d4b h.2);subst e1 e2;have r3:=trivial;simp[zc,w1,w2,c1',c2',w3,w4,w5,w6,w7,w8,w9,w10,hL,d1,d2,d2b,d3,d3b,d4,d4b,t3,s3,r3,blk,hl,hl3n,-zx,-Int.natCast_add]
         ·obtain⟨e1,e2⟩:=r4 (fun h=>d4 h.1);subst e1 e2;have r3:=trivial;have d4b:=trivial;simp[zc,w1,w2,c1',c2',w3,w4,w5,w6,w7,w8,w9,w10,hL,d1,d2,d2b,d3,d3b,d4,d4b,t3,s3,r3,blk,hl,hl3n,-zx,-Int.natCast_add]
       ·obtain⟨e1,e2⟩:=s4 (fun h=>d3 h.1);subst e1 e2;have s3:=trivial;have d3b:=trivial;by_cases d4:mid<en
        ·by_cases d4b:en<b
         ·have r3:=r3 ⟨d4,d4b⟩;simp[zc,w1,w2,c1',c2',w3,w4,w5,w6,w7,w8,w9,w10,hL,d1,d2,d2b,d3,d3b,d4,d4b,t3,s3,r3,blk,hl,hl3n,-zx,-Int.natCast_add]
         ·obtain⟨e1,e2⟩:=r4 (fun h=>d4b h.2);subst e1 e2;have r3:=trivial;simp[zc,w1,w2,c1',c2',w3,w4,w5,w6,w7,w8,w9,w10,hL,d1,d2,d2b,d3,d3b,d4,d4b,t3,s3,r3,blk,hl,hl3n,-zx,-Int.natCast_add]
        ·obtain⟨e1,e2⟩:=r4 (fun h=>d4 h.1);subst e1 e2;have r3:=trivial;have d4b:=trivial;simp[zc,w1,w2,c1',c2',w3,w4,w5,w6,w7,w8,w9,w10,hL,d1,d2,d2b,d3,d3b,d4,d4b,t3,s3,r3,blk,hl,hl3n,-zx,-Int.natCast_add]
      ·obtain⟨e1,e2⟩:=t4 (fun h=>d2b h.2);subst e1 e2;have t3:=trivial;by_cases d3:a<st
       ·by_cases d3b:st<mid
        ·have s3:=s3 ⟨d3,d3b⟩;by_cases d4:mid<en
         ·by_cases d4b:en<b
          ·have r3:=r3 ⟨d4,d4b⟩;simp[zc,w1,w2,c1',c2',w3,w4,w5,w6,w7,w8,w9,w10,hL,d1,d2,d2b,d3,d3b,d4,d4b,t3,s3,r3,blk,hl,hl3n,-zx,-Int.natCast_add]
          ·obtain⟨e1,e2⟩:=r4 (fun h=>d4b h.2);subst e1 e2;have r3:=trivial;simp[zc,w1,w2,c1',c2',w3,w4,w5,w6,w7,w8,w9,w10,hL,d1,d2,d2b,d3,d3b,d4,d4b,t3,s3,r3,blk,hl,hl3n,-zx,-Int.natCast_add]
         ·obtain⟨e1,e2⟩:=r4 (fun h=>d4 h.1);subst e1 e2;have r3:=trivial;have d4b:=trivial;simp[zc,w1,w2,c1',c2',w3,w4,w5,w6,w7,w8,w9,w10,hL,d1,d2,d2b,d3,d3b,d4,d4b,t3,s3,r3,blk,hl,hl3n,-zx,-Int.natCast_add]
        ·obtain⟨e1,e2⟩:=s4 (fun h=>d3b h.2);subst e1 e2;have s3:=trivial;by_cases d4:mid<en
         ·by_cases d4b:en<b
          ·have r3:=r3 ⟨d4,d4b⟩;simp[zc,w1,w2,c1',c2',w3,w4,w5,w6,w7,w8,w9,w10,hL,d1,d2,d2b,d3,d3b,d4,d4b,t3,s3,r3,blk,hl,hl3n,-zx,-Int.natCast_add]
          ·obtain⟨e1,e2⟩:=r4 (fun h=>d4b h.2);subst e1 e2;have r3:=trivial;simp[zc,w1,w2,c1',c2',w3,w4,w5,w6,w7,w8,w9,w10,hL,d1,d2,d2b,d3,d3b,d4,d4b,t3,s3,r3,blk,hl,hl3n,-zx,-Int.natCast_add]
         ·obtain⟨e1,e2⟩:=r4 (fun h=>d4 h.1);subst e1 e2;have r3:=trivial;have d4b:=trivial;simp[zc,w1,w2,c1',c2',w3,w4,w5,w6,w7,w8,w9,w10,hL,d1,d2,d2b,d3,d3b,d4,d4b,t3,s3,r3,blk,hl,hl3n,-zx,-Int.natCast_add]
       ·obtain⟨e1,e2⟩:=s4 (fun h=>d3 h.1);subst e1 e2;have s3:=trivial;have d3b:=trivial;by_cases d4:mid<en
        ·by_cases d4b:en<b
         ·have r3:=r3 ⟨d4,d4b⟩;simp[zc,w1,w2,c1',c2',w3,w4,w5,w6,w7,w8,w9,w10,hL,d1,d2,d2b,d3,d3b,d4,d4b,t3,s3,r3,blk,hl,hl3n,-zx,-Int.natCast_add]
         ·obtain⟨e1,e2⟩:=r4 (fun h=>d4b h.2);subst e1 e2;have r3:=trivial;simp[zc,w1,w2,c1',c2',w3,w4,w5,w6,w7,w8,w9,w10,hL,d1,d2,d2b,d3,d3b,d4,d4b,t3,s3,r3,blk,hl,hl3n,-zx,-Int.natCast_add]
        ·obtain⟨e1,e2⟩:=r4 (fun h=>d4 h.1);subst e1 e2;have r3:=trivial;have d4b:=trivial;simp[zc,w1,w2,c1',c2',w3,w4,w5,w6,w7,w8,w9,w10,hL,d1,d2,d2b,d3,d3b,d4,d4b,t3,s3,r3,blk,hl,hl3n,-zx,-Int.natCast_add]
     ·obtain⟨e1,e2⟩:=t4 (fun h=>d2 h.1);subst e1 e2;have t3:=trivial;have d2b:=trivial;by_cases d3:a<st
      ·by_cases d3b:st<mid
       ·have s3:=s3 ⟨d3,d3b⟩;by_cases d4:mid<en
        ·by_cases d4b:en<b
         ·have r3:=r3 ⟨d4,d4b⟩;simp[zc,w1,w2,c1',c2',w3,w4,w5,w6,w7,w8,w9,w10,hL,d1,d2,d2b,d3,d3b,d4,d4b,t3,s3,r3,blk,hl,hl3n,-zx,-Int.natCast_add]
         ·obtain⟨e1,e2⟩:=r4 (fun h=>d4b h.2);subst e1 e2;have r3:=trivial;simp[zc,w1,w2,c1',c2',w3,w4,w5,w6,w7,w8,w9,w10,hL,d1,d2,d2b,d3,d3b,d4,d4b,t3,s3,r3,blk,hl,hl3n,-zx,-Int.natCast_add]
        ·obtain⟨e1,e2⟩:=r4 (fun h=>d4 h.1);subst e1 e2;have r3:=trivial;have d4b:=trivial;simp[zc,w1,w2,c1',c2',w3,w4,w5,w6,w7,w8,w9,w10,hL,d1,d2,d2b,d3,d3b,d4,d4b,t3,s3,r3,blk,hl,hl3n,-zx,-Int.natCast_add]
       ·obtain⟨e1,e2⟩:=s4 (fun h=>d3b h.2);subst e1 e2;have s3:=trivial;by_cases d4:mid<en
        ·by_cases d4b:en<b
         ·have r3:=r3 ⟨d4,d4b⟩;simp[zc,w1,w2,c1',c2',w3,w4,w5,w6,w7,w8,w9,w10,hL,d1,d2,d2b,d3,d3b,d4,d4b,t3,s3,r3,blk,hl,hl3n,-zx,-Int.natCast_add]
         ·obtain⟨e1,e2⟩:=r4 (fun h=>d4b h.2);subst e1 e2;have r3:=trivial;simp[zc,w1,w2,c1',c2',w3,w4,w5,w6,w7,w8,w9,w10,hL,d1,d2,d2b,d3,d3b,d4,d4b,t3,s3,r3,blk,hl,hl3n,-zx,-Int.natCast_add]
        ·obtain⟨e1,e2⟩:=r4 (fun h=>d4 h.1);subst e1 e2;have r3:=trivial;have d4b:=trivial;simp[zc,w1,w2,c1',c2',w3,w4,w5,w6,w7,w8,w9,w10,hL,d1,d2,d2b,d3,d3b,d4,d4b,t3,s3,r3,blk,hl,hl3n,-zx,-Int.natCast_add]
      ·obtain⟨e1,e2⟩:=s4 (fun h=>d3 h.1);subst e1 e2;have s3:=trivial;have d3b:=trivial;by_cases d4:mid<en
       ·by_cases d4b:en<b
        ·have r3:=r3 ⟨d4,d4b⟩;simp[zc,w1,w2,c1',c2',w3,w4,w5,w6,w7,w8,w9,w10,hL,d1,d2,d2b,d3,d3b,d4,d4b,t3,s3,r3,blk,hl,hl3n,-zx,-Int.natCast_add]
        ·obtain⟨e1,e2⟩:=r4 (fun h=>d4b h.2);subst e1 e2;have r3:=trivial;simp[zc,w1,w2,c1',c2',w3,w4,w5,w6,w7,w8,w9,w10,hL,d1,d2,d2b,d3,d3b,d4,d4b,t3,s3,r3,blk,hl,hl3n,-zx,-Int.natCast_add]
       ·obtain⟨e1,e2⟩:=r4 (fun h=>d4 h.1);subst e1 e2;have r3:=trivial;have d4b:=trivial;simp[zc,w1,w2,c1',c2',w3,w4,w5,w6,w7,w8,w9,w10,hL,d1,d2,d2b,d3,d3b,d4,d4b,t3,s3,r3,blk,hl,hl3n,-zx,-Int.natCast_add]
    ·obtain⟨e3,e4⟩:=w12 d1;rw[e3,e4]at hL;by_cases d2:st<m
     ·by_cases d2b:m<en
      ·have t3:=t3 ⟨d2,d2b⟩;by_cases d3:a<st
       ·by_cases d3b:st<mid
        ·have s3:=s3 ⟨d3,d3b⟩;by_cases d4:mid<en
         ·by_cases d4b:en<b
          ·have r3:=r3 ⟨d4,d4b⟩;simp[zc,w1,w2,c1',c2',w3,w4,w5,w6,w7,w8,w9,hL,d1,d2,d2b,d3,d3b,d4,d4b,t3,s3,r3,blk,hl,hl3n,-zx,-Int.natCast_add]
          ·obtain⟨e1,e2⟩:=r4 (fun h=>d4b h.2);subst e1 e2;have r3:=trivial;simp[zc,w1,w2,c1',c2',w3,w4,w5,w6,w7,w8,w9,hL,d1,d2,d2b,d3,d3b,d4,d4b,t3,s3,r3,blk,hl,hl3n,-zx,-Int.natCast_add]
         ·obtain⟨e1,e2⟩:=r4 (fun h=>d4 h.1);subst e1 e2;have r3:=trivial;have d4b:=trivial;simp[zc,w1,w2,c1',c2',w3,w4,w5,w6,w7,w8,w9,hL,d1,d2,d2b,d3,d3b,d4,d4b,t3,s3,r3,blk,hl,hl3n,-zx,-Int.natCast_add]
        ·obtain⟨e1,e2⟩:=s4 (fun h=>d3b h.2);subst e1 e2;have s3:=trivial;by_cases d4:mid<en
         ·by_cases d4b:en<b
          ·have r3:=r3 ⟨d4,d4b⟩;simp[zc,w1,w2,c1',c2',w3,w4,w5,w6,w7,w8,w9,hL,d1,d2,d2b,d3,d3b,d4,d4b,t3,s3,r3,blk,hl,hl3n,-zx,-Int.natCast_add]
          ·obtain⟨e1,e2⟩:=r4 (fun h=>d4b h.2);subst e1 e2;have r3:=trivial;simp[zc,w1,w2,c1',c2',w3,w4,w5,w6,w7,w8,w9,hL,d1,d2,d2b,d3,d3b,d4,d4b,t3,s3,r3,blk,hl,hl3n,-zx,-Int.natCast_add]
         ·obtain⟨e1,e2⟩:=r4 (fun h=>d4 h.1);subst e1 e2;have r3:=trivial;have d4b:=trivial;simp[zc,w1,w2,c1',c2',w3,w4,w5,w6,w7,w8,w9,hL,d1,d2,d2b,d3,d3b,d4,d4b,t3,s3,r3,blk,hl,hl3n,-zx,-Int.natCast_add]
       ·obtain⟨e1,e2⟩:=s4 (fun h=>d3 h.1);subst e1 e2;have s3:=trivial;have d3b:=trivial;by_cases d4:mid<en
        ·by_cases d4b:en<b
         ·have r3:=r3 ⟨d4,d4b⟩;simp[zc,w1,w2,c1',c2',w3,w4,w5,w6,w7,w8,w9,hL,d1,d2,d2b,d3,d3b,d4,d4b,t3,s3,r3,blk,hl,hl3n,-zx,-Int.natCast_add]
         ·obtain⟨e1,e2⟩:=r4 (fun h=>d4b h.2);subst e1 e2;have r3:=trivial;simp[zc,w1,w2,c1',c2',w3,w4,w5,w6,w7,w8,w9,hL,d1,d2,d2b,d3,d3b,d4,d4b,t3,s3,r3,blk,hl,hl3n,-zx,-Int.natCast_add]
        ·obtain⟨e1,e2⟩:=r4 (fun h=>d4 h.1);subst e1 e2;have r3:=trivial;have d4b:=trivial;simp[zc,w1,w2,c1',c2',w3,w4,w5,w6,w7,w8,w9,hL,d1,d2,d2b,d3,d3b,d4,d4b,t3,s3,r3,blk,hl,hl3n,-zx,-Int.natCast_add]
      ·obtain⟨e1,e2⟩:=t4 (fun h=>d2b h.2);subst e1 e2;have t3:=trivial;by_cases d3:a<st
       ·by_cases d3b:st<mid
        ·have s3:=s3 ⟨d3,d3b⟩;by_cases d4:mid<en
         ·by_cases d4b:en<b
          ·have r3:=r3 ⟨d4,d4b⟩;simp[zc,w1,w2,c1',c2',w3,w4,w5,w6,w7,w8,w9,hL,d1,d2,d2b,d3,d3b,d4,d4b,t3,s3,r3,blk,hl,hl3n,-zx,-Int.natCast_add]
          ·obtain⟨e1,e2⟩:=r4 (fun h=>d4b h.2);subst e1 e2;have r3:=trivial;simp[zc,w1,w2,c1',c2',w3,w4,w5,w6,w7,w8,w9,hL,d1,d2,d2b,d3,d3b,d4,d4b,t3,s3,r3,blk,hl,hl3n,-zx,-Int.natCast_add]
         ·obtain⟨e1,e2⟩:=r4 (fun h=>d4 h.1);subst e1 e2;have r3:=trivial;have d4b:=trivial;simp[zc,w1,w2,c1',c2',w3,w4,w5,w6,w7,w8,w9,hL,d1,d2,d2b,d3,d3b,d4,d4b,t3,s3,r3,blk,hl,hl3n,-zx,-Int.natCast_add]
        ·obtain⟨e1,e2⟩:=s4 (fun h=>d3b h.2);subst e1 e2;have s3:=trivial;by_cases d4:mid<en
         ·by_cases d4b:en<b
          ·have r3:=r3 ⟨d4,d4b⟩;simp[zc,w1,w2,c1',c2',w3,w4,w5,w6,w7,w8,w9,hL,d1,d2,d2b,d3,d3b,d4,d4b,t3,s3,r3,blk,hl,hl3n,-zx,-Int.natCast_add]
          ·obtain⟨e1,e2⟩:=r4 (fun h=>d4b h.2);subst e1 e2;have r3:=trivial;simp[zc,w1,w2,c1',c2',w3,w4,w5,w6,w7,w8,w9,hL,d1,d2,d2b,d3,d3b,d4,d4b,t3,s3,r3,blk,hl,hl3n,-zx,-Int.natCast_add]
         ·obtain⟨e1,e2⟩:=r4 (fun h=>d4 h.1);subst e1 e2;have r3:=trivial;have d4b:=trivial;simp[zc,w1,w2,c1',c2',w3,w4,w5,w6,w7,w8,w9,hL,d1,d2,d2b,d3,d3b,d4,d4b,t3,s3,r3,blk,hl,hl3n,-zx,-Int.natCast_add]
       ·obtain⟨e1,e2⟩:=s4 (fun h=>d3 h.1);subst e1 e2;have s3:=trivial;have d3b:=trivial;by_cases d4:mid<en
        ·by_cases d4b:en<b
         ·have r3:=r3 ⟨d4,d4b⟩;simp[zc,w1,w2,c1',c2',w3,w4,w5,w6,w7,w8,w9,hL,d1,d2,d2b,d3,d3b,d4,d4b,t3,s3,r3,blk,hl,hl3n,-zx,-Int.natCast_add]
         ·obtain⟨e1,e2⟩:=r4 (fun h=>d4b h.2);subst e1 e2;have r3:=trivial;simp[zc,w1,w2,c1',c2',w3,w4,w5,w6,w7,w8,w9,hL,d1,d2,d2b,d3,d3b,d4,d4b,t3,s3,r3,blk,hl,hl3n,-zx,-Int.natCast_add]
        ·obtain⟨e1,e2⟩:=r4 (fun h=>d4 h.1);subst e1 e2;have r3:=trivial;have d4b:=trivial;simp[zc,w1,w2,c1',c2',w3,w4,w5,w6,w7,w8,w9,hL,d1,d2,d2b,d3,d3b,d4,d4b,t3,s3,r3,blk,hl,hl3n,-zx,-Int.natCast_add]
     ·obtain⟨e1,e2⟩:=t4 (fun h=>d2 h.1);subst e1 e2;have t3:=trivial;have d2b:=trivial;by_cases d3:a<st
      ·by_cases d3b:st<mid
       ·have s3:=s3 ⟨d3,d3b⟩;by_cases d4:mid<en
        ·by_cases d4b:en<b
         ·have r3:=r3 ⟨d4,d4b⟩;simp[zc,w1,w2,c1',c2',w3,w4,w5,w6,w7,w8,w9,hL,d1,d2,d2b,d3,d3b,d4,d4b,t3,s3,r3,blk,hl,hl3n,-zx,-Int.natCast_add]
         ·obtain⟨e1,e2⟩:=r4 (fun h=>d4b h.2);subst e1 e2;have r3:=trivial;simp[zc,w1,w2,c1',c2',w3,w4,w5,w6,w7,w8,w9,hL,d1,d2,d2b,d3,d3b,d4,d4b,t3,s3,r3,blk,hl,hl3n,-zx,-Int.natCast_add]
        ·obtain⟨e1,e2⟩:=r4 (fun h=>d4 h.1);subst e1 e2;have r3:=trivial;have d4b:=trivial;simp[zc,w1,w2,c1',c2',w3,w4,w5,w6,w7,w8,w9,hL,d1,d2,d2b,d3,d3b,d4,d4b,t3,s3,r3,blk,hl,hl3n,-zx,-Int.natCast_add]
       ·obtain⟨e1,e2⟩:=s4 (fun h=>d3b h.2);subst e1 e2;have s3:=trivial;by_cases d4:mid<en
        ·by_cases d4b:en<b
         ·have r3:=r3 ⟨d4,d4b⟩;simp[zc,w1,w2,c1',c2',w3,w4,w5,w6,w7,w8,w9,hL,d1,d2,d2b,d3,d3b,d4,d4b,t3,s3,r3,blk,hl,hl3n,-zx,-Int.natCast_add]
         ·obtain⟨e1,e2⟩:=r4 (fun h=>d4b h.2);subst e1 e2;have r3:=trivial;simp[zc,w1,w2,c1',c2',w3,w4,w5,w6,w7,w8,w9,hL,d1,d2,d2b,d3,d3b,d4,d4b,t3,s3,r3,blk,hl,hl3n,-zx,-Int.natCast_add]
        ·obtain⟨e1,e2⟩:=r4 (fun h=>d4 h.1);subst e1 e2;have r3:=trivial;have d4b:=trivial;simp[zc,w1,w2,c1',c2',w3,w4,w5,w6,w7,w8,w9,hL,d1,d2,d2b,d3,d3b,d4,d4b,t3,s3,r3,blk,hl,hl3n,-zx,-Int.natCast_add]
      ·obtain⟨e1,e2⟩:=s4 (fun h=>d3 h.1);subst e1 e2;have s3:=trivial;have d3b:=trivial;by_cases d4:mid<en
       ·by_cases d4b:en<b
        ·have r3:=r3 ⟨d4,d4b⟩;simp[zc,w1,w2,c1',c2',w3,w4,w5,w6,w7,w8,w9,hL,d1,d2,d2b,d3,d3b,d4,d4b,t3,s3,r3,blk,hl,hl3n,-zx,-Int.natCast_add]
        ·obtain⟨e1,e2⟩:=r4 (fun h=>d4b h.2);subst e1 e2;have r3:=trivial;simp[zc,w1,w2,c1',c2',w3,w4,w5,w6,w7,w8,w9,hL,d1,d2,d2b,d3,d3b,d4,d4b,t3,s3,r3,blk,hl,hl3n,-zx,-Int.natCast_add]
       ·obtain⟨e1,e2⟩:=r4 (fun h=>d4 h.1);subst e1 e2;have r3:=trivial;have d4b:=trivial;simp[zc,w1,w2,c1',c2',w3,w4,w5,w6,w7,w8,w9,hL,d1,d2,d2b,d3,d3b,d4,d4b,t3,s3,r3,blk,hl,hl3n,-zx,-Int.natCast_add]
def zrH(a:Nat):Nat->List zk->List zk
 |0,l=>l
 |c+1,l=>if ziK (l.getD (a+c+1) z9) (l.getD (a+c) z9)<0 then zrH a c (swp l (a+c+1) (a+c)) else l
@[simp] theorem zAE(a:Nat):∀(c:Nat) (l:List zk),(zrH a c l).length=l.length
  |0,l=>rfl
  |c+1,l=>by
   rw[zrH];split
   ·rw[zAE a c];simp
   ·rfl
theorem zwR(N k a b i:Nat)(hk:k<=N)(hN:N<=900000000000):∀(c:Nat) (l:List zk) (v:Nat),a+c<k->l.length=N->∃v' j',v<=v'/\(v'=v->zrH a c l=l) /\
  Y L Cs zaD (some [9,3,1,2,8,0]) 1 [(9,.w (W ((a+c:Nat):Int))),(3,.w cB),(1,.w (W a)),(2,.w (W b)),(8,.w (W i)),(0,.w (sN N k))] [some { box:=false,esz:=6,rows:=zI l,gen:=N,fz:=false,ver:=v }] =
    some (.exit 2,[(34,.w (Bo false)),(9,.w (W j')),(3,.w cB),(1,.w (W a)),(2,.w (W b)),(8,.w (W i)),(0,.w (sN N k))],[some { box:=false,esz:=6,rows:=zI (zrH a c l),gen:=N,fz:=false,ver:=v' }]):=by
 intro c;induction c with
 |zero =>
  intro l v hc hl;refine⟨v,a,Nat.le_refl _,fun _=>rfl,?_⟩;rw[zj zaD.eq_1];simp[zrH]
 |succ c ih =>
  intro l v hc hl;have a1:a+c+1<k:=by omega
  have a2:a+c<k:=by omega
  have a3:a+c+1<N:=by omega
  have a4:a+c<N:=by omega
  have a5:a+c+1<l.length:=by omega
  have a6:a+c<l.length:=by omega
  have hg:a<a+c+1:=by omega
  have hw:IntKind.i64.wrap (((a+c+1:Nat):Int)-1)=((a+c:Nat):Int):=by rw[zl _ (by omega) (by omega)];omega
  have e1:l.getD (a+c+1) z9=l[a+c+1]:=by simp[a5]
  have e2:l.getD (a+c) z9=l[a+c]:=by simp[a6]
  have e3:(((a+c+1:Nat):Int)).toNat=a+c+1:=by omega
  have e4:(((a+c:Nat):Int)).toNat=a+c:=by omega
  have e5:a+(c+1)=a+c+1:=by omega
  have hc2:=zop l[a+c+1] l[a+c];simp only[ze]at hc2;rw[zrH,e1,e2,e5];by_cases h:ziK l[a+c+1] l[a+c]<0
  ·obtain⟨v',j',hv1,hv2,h4⟩:=ih (swp l (a+c+1) (a+c)) (v+1+1) (by omega) (by simp[hl]);refine⟨v',j',by omega,fun hv=>by omega,?_⟩;rw[if_pos h,<-h4,zj zaD.eq_1];have hs1:=zeg l (a+c+1) l[a+c];have hs2:=zeg (l.set (a+c+1) l[a+c]) (a+c) l[a+c+1];have hsw:swp l (a+c+1) (a+c)=(l.set (a+c+1) l[a+c]).set (a+c) l[a+c+1]:=by simp[swp,a5,a6]
   simp only[ze]at hs1 hs2;clear ih h4;simp[hg,hc2,h,hw,a1,a2,a3,a4,a5,a6,e3,e4,hl,ze,hs1,hs2,hsw,-Int.natCast_add]
  ·refine⟨v,((a+c+1:Nat):Int),Nat.le_refl _,fun _=>by rw[if_neg h],?_⟩;rw[if_neg h,zj zaD.eq_1];clear ih;simp[hg,hc2,h,hw,a1,a2,a3,a4,a5,a6,e3,e4,hl,ze,-Int.natCast_add]
def zjJ(a:Nat):Nat->Nat->List zk->List zk
 |_,0,l=>l
 |i,m+1,l=>zjJ a (i+1) m (zrH a i l)
@[simp] theorem zAn(a:Nat):∀(m i:Nat) (l:List zk),(zjJ a i m l).length=l.length
  |0,i,l=>rfl
  |m+1,i,l=>by rw[zjJ,zAn a m];simp
theorem zwQ(N k a b:Nat)(hk:k<=N)(hN:N<=900000000000)(hb:b<=k):∀(m i:Nat) (l:List zk) (v:Nat),b-(a+i)=m->a+i<=b+1->l.length=N->∃v' i',v<=v'/\(v'=v->zjJ a i m l=l) /\
  Y L Cs za3 (some [2,1,3,8,0]) 1 [(2,.w (W b)),(1,.w (W a)),(3,.w cB),(8,.w (W ((a+i:Nat):Int))),(0,.w (sN N k))] [some { box:=false,esz:=6,rows:=zI l,gen:=N,fz:=false,ver:=v }] =
    some (.exit 0,[(14,.w (Bo false)),(3,.w cB),(1,.w (W a)),(2,.w (W b)),(8,.w (W i')),(0,.w (sN N k))],[some { box:=false,esz:=6,rows:=zI (zjJ a i m l),gen:=N,fz:=false,ver:=v' }]):=by
 intro m;induction m with
 |zero =>
  intro i l v hm hi hl;have hg:¬a+i<b:=by omega
  refine⟨v,(a+i:Nat),Nat.le_refl _,fun _=>rfl,?_⟩;rw[zj za3.eq_1];simp[hg,zjJ,-Int.natCast_add]
 |succ m ih =>
  intro i l v hm hi hl;have hg:a+i<b:=by omega
  have hw:=zB (i:=a+i) (by omega);obtain⟨v1,j1,q1,q2,h1⟩:=zwR N k a b (a+i) hk hN i l v (by omega) hl;obtain⟨v2,i2,q3,q4,h2⟩:=ih (i+1) (zrH a i l) v1 (by omega) (by omega) (by simp[hl]);refine⟨v2,i2,by omega,fun hv=>by rw[zjJ,q4 (by omega),q2 (by omega)],?_⟩;rw[show a+(i+1)=a+i+1 by omega]at h2;rw[zjJ,<-h2,zj za3.eq_1];clear ih h2;simp[hg,h1,hw,hl,-Int.natCast_add]
theorem zAW(N k a b:Nat)(hk:k<=N)(hN:N<=900000000000)(ha:a<=b)(hb:b<=k)(l:List zk)(hl:l.length=N):zxj zf0 N k [(a:Int),(b:Int)] l (zjJ a 1 (b-(a+1)) l):=by
 intro v;obtain⟨v',i',q1,q2,h⟩:=zwQ N k a b hk hN hb (b-(a+1)) 1 l v rfl (by omega) hl;refine⟨v',q1,q2,?_⟩;rw[z4 zgc rfl];have hw:=zB (i:=a) (by omega);simp[zce,hw,h,blk,hl,-Int.natCast_add]
def zok(bs n:Nat):Nat->Nat->List zk->Nat×List zk
 |0,a,l=>(a,l)
 |f+1,a,l=>if a+bs<=n then zok bs n f (a+bs) (zjJ a 1 (a+bs-(a+1)) l) else(a,l)
theorem zrJ(bs n:Nat):∀(f a:Nat) (l:List zk),(zok bs n f a l).2.length=l.length/\(a<=n->(zok bs n f a l).1<=n)
 |0,a,l=>⟨rfl,fun h=>h⟩
 |f+1,a,l=>by
  rw[zok];split
  ·have:=zrJ bs n f (a+bs) (zjJ a 1 (a+bs-(a+1)) l);exact⟨by rw[this.1];simp,fun _=>this.2 (by omega)⟩
  ·exact⟨rfl,fun h=>h⟩
theorem zAH(N k bs:Nat)(hk:k<=N)(hN:N<=900000000000)(h0:0<bs)(h1:bs<=900000000000):∀(f a:Nat) (l:List zk) (v:Nat),k-a<f*bs->a<=k->l.length=N->∃v' b',v<=v'/\(v'=v->(zok bs k f a l).2=l) /\
  Y L Cs zbO (some [7,8,1,0,2,6]) 1 [(7,.w (W a)),(8,.w (W ((a+bs:Nat):Int))),(1,.w (W k)),(0,.w (sN N k)),(2,.w cB),(6,.w (W bs))] [some { box:=false,esz:=6,rows:=zI l,gen:=N,fz:=false,ver:=v }] =
    some (.exit 0,[(13,.w (Bo false)),(7,.w (W (zok bs k f a l).1)),(8,.w (W b')),(1,.w (W k)),(0,.w (sN N k)),(2,.w cB),(6,.w (W bs))],[some { box:=false,esz:=6,rows:=zI (zok bs k f a l).2,gen:=N,fz:=false,ver:=v' }]):=by
 intro f;induction f with
 |zero=>intro a l v hf;omega
 |succ f ih =>
  intro a l v hf ha hl;rw[zok];by_cases c:a+bs<=k
  ·rw[if_pos c];have hd:=zAW N k a (a+bs) hk hN (by omega) c l hl;obtain⟨v1,fp,q1,q2,q3⟩:=zrm hd hl (by simp[hl]) v;obtain⟨v2,b2,q4,q5,q6⟩:=ih (a+bs) (zjJ a 1 (a+bs-(a+1)) l) v1 (by rw[Nat.succ_mul]at hf;omega) c (by simp[hl]);refine⟨v2,b2,by omega,fun hv=>by rw[q5 (by omega),q2 (by omega)],?_⟩;rw[<-q6,zj zbO.eq_1];have hw:IntKind.i64.wrap (((a+bs:Nat):Int)+(bs:Int))=((a+bs+bs:Nat):Int):=by rw[zl _ (by omega) (by omega)];omega
   clear ih q6 hd;simp[c,q3,hw,-zx,-Int.natCast_add]
  ·rw[if_neg c];refine⟨v,(a+bs:Nat),Nat.le_refl _,fun _=>rfl,?_⟩;rw[zj zbO.eq_1];simp[c,-Int.natCast_add]
def zgP(bs n:Nat):Nat->Nat->List zk->Nat×List zk
 |0,a,l=>(a,l)
 |f+1,a,l=>if a+2*bs<=n then zgP bs n f (a+2*bs) (zlI (2*bs) a (a+bs) (a+2*bs) l) else(a,l)
theorem zqR(bs n:Nat):∀(f a:Nat) (l:List zk),(zgP bs n f a l).2.length=l.length/\(a<=n->(zgP bs n f a l).1<=n)
 |0,a,l=>⟨rfl,fun h=>h⟩
 |f+1,a,l=>by
  rw[zgP];split
  ·have:=zqR bs n f (a+2*bs) (zlI (2*bs) a (a+bs) (a+2*bs) l);exact⟨by rw[this.1];simp,fun _=>this.2 (by omega)⟩
  ·exact⟨rfl,fun h=>h⟩
theorem zzZ(N k bs:Nat)(hk:k<=N)(hN:N<=900000000000)(h0:0<bs)(h1:bs<=900000000000):∀(f a:Nat) (l:List zk) (v:Nat),k-a<f*(2*bs)->a<=k->l.length=N->∃v' b',v<=v'/\(v'=v->(zgP bs k f a l).2=l) /\
  Y L Cs zbN (some [7,8,1,0,2,6]) 1 [(7,.w (W a)),(8,.w (W ((a+2*bs:Nat):Int))),(1,.w (W k)),(0,.w (sN N k)),(2,.w cB),(6,.w (W bs))] [some { box:=false,esz:=6,rows:=zI l,gen:=N,fz:=false,ver:=v }] =
    some (.exit 4,[(35,.w (Bo false)),(7,.w (W (zgP bs k f a l).1)),(8,.w (W b')),(1,.w (W k)),(0,.w (sN N k)),(2,.w cB),(6,.w (W bs))],[some { box:=false,esz:=6,rows:=zI (zgP bs k f a l).2,gen:=N,fz:=false,ver:=v' }]):=by
 intro f;induction f with
 |zero=>intro a l v hf;omega
 |succ f ih =>
  intro a l v hf ha hl;rw[zgP];by_cases c:a+2*bs<=k
  ·rw[if_pos c];have hd:=zrM N k hk hN (2*bs) a (a+bs) (a+2*bs) l (by omega) (by omega) (by omega) c hl;obtain⟨v1,fp,q1,q2,q3⟩:=zfi hd hl (by simp[hl]) v;obtain⟨v2,b2,q4,q5,q6⟩:=ih (a+2*bs) (zlI (2*bs) a (a+bs) (a+2*bs) l) v1 (by rw[Nat.succ_mul]at hf;omega) c (by simp[hl]);refine⟨v2,b2,by omega,fun hv=>by rw[q5 (by omega),q2 (by omega)],?_⟩;rw[<-q6,zj zbN.eq_1];have hw0:IntKind.i64.wrap ((a:Int)+(bs:Int))=((a+bs:Nat):Int):=by rw[zl _ (by omega) (by omega)];omega
   have hw1:IntKind.i64.wrap (2*(bs:Int))=((2*bs:Nat):Int):=by rw[zl _ (by omega) (by omega)];omega
   have hw:IntKind.i64.wrap (((a+2*bs:Nat):Int)+((2*bs:Nat):Int))=((a+2*bs+2*bs:Nat):Int):=by rw[zl _ (by omega) (by omega)];omega
   clear ih q6 hd;simp[c,q3,hw0,hw1,hw,-zx,-Int.natCast_add,-Int.natCast_mul]
  ·rw[if_neg c];refine⟨v,(a+2*bs:Nat),Nat.le_refl _,fun _=>rfl,?_⟩;rw[zj zbN.eq_1];simp[c,-Int.natCast_add,-Int.natCast_mul]
def zjE(bs n:Nat)(l:List zk):List zk :=
 if(zgP bs n (n+1) 0 l).1+bs<n then zlI (n-(zgP bs n (n+1) 0 l).1) (zgP bs n (n+1) 0 l).1 ((zgP bs n (n+1) 0 l).1+bs) n (zgP bs n (n+1) 0 l).2 else(zgP bs n (n+1) 0 l).2
@[simp] theorem zDc(bs n:Nat)(l:List zk):(zjE bs n l).length=l.length:=by
  unfold zjE;have:=(zqR bs n (n+1) 0 l).1;split<;>simp[this]
def passes(n:Nat):Nat->Nat->List zk->List zk
 |0,_,l=>l
 |f+1,bs,l=>if bs<n then passes n f (2*bs) (zjE bs n l) else l
@[simp] theorem zwz(n:Nat):∀(f bs:Nat) (l:List zk),(passes n f bs l).length=l.length
  |0,_,_=>rfl
  |f+1,bs,l=>by
   rw[passes];split
   ·rw[zwz n f];simp
   ·rfl
theorem zyk(N k:Nat)(hk:k<=N)(hN:N<=900000000000):∀(f bs:Nat) (l:List zk) (v:Nat),k<bs+f->0<bs->bs<=1800000000000->l.length=N->∃v' b',v<=v'/\(v'=v->passes k f bs l=l) /\
  Y L Cs zaO (some [1,0,2,6]) 1 [(1,.w (W k)),(0,.w (sN N k)),(2,.w cB),(6,.w (W bs))] [some { box:=false,esz:=6,rows:=zI l,gen:=N,fz:=false,ver:=v }] =
    some (.exit 2,[(30,.w (Bo false)),(1,.w (W k)),(0,.w (sN N k)),(2,.w cB),(6,.w (W b'))],[some { box:=false,esz:=6,rows:=zI (passes k f bs l),gen:=N,fz:=false,ver:=v' }]):=by
 intro f;induction f with
 |zero =>
  intro bs l v hf h0 h1 hl;refine⟨v,bs,Nat.le_refl _,fun _=>rfl,?_⟩;have c:¬bs<k:=by omega
  rw[passes,zj zaO.eq_1];simp[c]
 |succ f ih =>
  intro bs l v hf h0 h1 hl;rw[passes];by_cases c:bs<k
  ·rw[if_pos c];obtain⟨v1,b1,q1,q2,q3⟩:=zzZ N k bs hk hN h0 (by omega) (k+1) 0 l v (by have:k+1<=(k+1)*(2*bs):=Nat.le_mul_of_pos_right _ (by omega);omega) (Nat.zero_le _) hl;obtain⟨g1,g2⟩:=zqR bs k (k+1) 0 l;have g2:=g2 (Nat.zero_le _);have hw1:IntKind.i64.wrap (2*(bs:Int))=((2*bs:Nat):Int):=by rw[zl _ (by omega) (by omega)];omega
   have hw2:IntKind.i64.wrap ((bs:Int)*2)=((2*bs:Nat):Int):=by rw[zl _ (by omega) (by omega)];omega
   simp only[Nat.zero_add,Int.natCast_zero]at q3;by_cases d:(zgP bs k (k+1) 0 l).1+bs<k
   ·have e:zjE bs k l=zlI (k-(zgP bs k (k+1) 0 l).1) (zgP bs k (k+1) 0 l).1 ((zgP bs k (k+1) 0 l).1+bs) k (zgP bs k (k+1) 0 l).2:=by rw[zjE,if_pos d]
    have hd:=zrM N k hk hN (k-(zgP bs k (k+1) 0 l).1) (zgP bs k (k+1) 0 l).1 ((zgP bs k (k+1) 0 l).1+bs) k (zgP bs k (k+1) 0 l).2 (Nat.le_refl _) (by omega) d (Nat.le_refl _) (by omega);rw[<-e]at hd;have pl:(zjE bs k l).length=N:=by simp[hl]
    obtain⟨v2,fp,q4,q5,q6⟩:=zfi hd (by omega) pl v1;obtain⟨v3,b3,q7,q8,q9⟩:=ih (2*bs) (zjE bs k l) v2 (by omega) (by omega) (by omega) pl;refine⟨v3,b3,by omega,fun hv=>by rw[q8 (by omega),q5 (by omega),q2 (by omega)],?_⟩;rw[<-q9,zj zaO.eq_1];clear ih q9 hd e;generalize zjE bs k l=pF at *;generalize zgP bs k (k+1) 0 l=q at *;have hw0:IntKind.i64.wrap ((q.1:Int)+(bs:Int))=((q.1+bs:Nat):Int):=by rw[zl _ (by omega) (by omega)];omega
    simp[c,d,q3,q6,hw0,hw1,hw2,-zx,-Int.natCast_add,-Int.natCast_mul]
   ·have e:zjE bs k l=(zgP bs k (k+1) 0 l).2:=by rw[zjE,if_neg d]
    obtain⟨v3,b3,q7,q8,q9⟩:=ih (2*bs) (zjE bs k l) v1 (by omega) (by omega) (by omega) (by simp[hl]);refine⟨v3,b3,by omega,fun hv=>by rw[q8 (by omega),e,q2 (by omega)],?_⟩;rw[<-q9,e,zj zaO.eq_1];clear ih q9 e q8;generalize zgP bs k (k+1) 0 l=q at *;have hw0:IntKind.i64.wrap ((q.1:Int)+(bs:Int))=((q.1+bs:Nat):Int):=by rw[zl _ (by omega) (by omega)];omega
    simp[c,d,q3,hw0,hw1,hw2,-zx,-Int.natCast_add,-Int.natCast_mul]
  ·rw[if_neg c];refine⟨v,bs,Nat.le_refl _,fun _=>rfl,?_⟩;rw[zj zaO.eq_1];simp[c]
def zmz(k:Nat)(l:List zk):List zk:=passes k k 20 (zjJ (zok 20 k (k+1) 0 l).1 1 (k-((zok 20 k (k+1) 0 l).1+1)) (zok 20 k (k+1) 0 l).2)
@[simp] theorem zCc(k:Nat)(l:List zk):(zmz k l).length=l.length:=by simp[zmz,(zrJ 20 k (k+1) 0 l).1]
theorem zsp(N k:Nat)(hk:k<=N)(hN:N<=900000000000)(l:List zk)(hl:l.length=N):zxj zhA N k [] l (zmz k l):=by
 intro v;obtain⟨v1,b1,q1,q2,q3⟩:=zAH N k 20 hk hN (by decide) (by decide) (k+1) 0 l v (by omega) (Nat.zero_le _) hl;obtain⟨g1,g2⟩:=zrJ 20 k (k+1) 0 l;have g2:=g2 (Nat.zero_le _);unfold zmz;generalize zok 20 k (k+1) 0 l=q at *;have hd:=zAW N k q.1 k hk hN g2 (Nat.le_refl _) q.2 (by omega);obtain⟨v2,fp,q4,q5,q6⟩:=zrm hd (by omega) (by simp;omega) v1;obtain⟨v3,b3,q7,q8,q9⟩:=zyk N k hk hN k 20 (zjJ q.1 1 (k-(q.1+1)) q.2) v2 (by omega) (by decide) (by decide) (by simp;omega);have hall:v3=v->passes k k 20 (zjJ q.1 1 (k-(q.1+1)) q.2)=l:=fun hv=>by rw[q8 (by omega),q5 (by omega),q2 (by omega)]
 refine⟨v3,by omega,hall,?_⟩;have hlen:(passes k k 20 (zjJ q.1 1 (k-(q.1+1)) q.2)).length=N:=by simp;omega
 generalize zjJ q.1 1 (k-(q.1+1)) q.2=l2 at *;generalize passes k k 20 l2=l3 at *;simp only[Nat.zero_add,Int.natCast_zero]at q3;rw[show((20:Nat):Int)=20 from rfl]at q3 q9;have hs:∀v0,v0=v->R L Cs zhZ [sN N k,W k,cB] [some { box:=false,esz:=6,rows:=zI l,gen:=N,fz:=false,ver:=v0 }]=some (.t [],[some { box:=false,esz:=6,rows:=zI l3,gen:=N,fz:=false,ver:=v3 }]):=by
  intro v0 h0;subst h0;rw[z4 zh8 rfl];simp[zdj,q3,q6,q9,-zx]
 have hs:=hs v rfl;rw[z4 zhK rfl];by_cases hv:v3=v
 ·have:=hall hv;subst hv this;simp[zcd,hs,blk,hl]
 ·simp[zcd,hs,blk,hl,hlen,hv]
theorem zts(P M Q:List zk)(x y:zk):swp (P++x::(M++y::Q)) P.length (P.length+1+M.length)=P++y::(M++x::Q):=by
 have e1:(P++x::(M++y::Q)).getD (P.length+1+M.length) z9=y:=by
  rw[List.getD_eq_getElem?_getD,List.getElem?_append_right (by omega),show P.length+1+M.length-P.length=M.length+1 by omega,List.getElem?_cons_succ,List.getElem?_append_right (by omega)];simp
 have e2:(P++x::(M++y::Q)).getD P.length z9=x:=by
  rw[List.getD_eq_getElem?_getD,List.getElem?_append_right (by omega)];simp
 rw[swp,e1,e2,List.set_append_right _ _ (by omega),Nat.sub_self,List.set_cons_zero,List.set_append_right _ _ (by omega),show P.length+1+M.length-P.length=M.length+1 by omega,List.set_cons_succ,List.set_append_right _ _ (by omega),Nat.sub_self,List.set_cons_zero]
theorem zzo(l:List zk)(i j:Nat)(h:i≠j):swp l i j=swp l j i:=by
 unfold swp;exact List.set_comm _ _ (Ne.symm h) |>.symm ▸ rfl
theorem zsF(a b:Nat):∀(m i:Nat) (l:List zk),swR a b (i+1) m l=swR (a+1) (b+1) i m l
 |0,i,l=>rfl
 |m+1,i,l=>by
  rw[swR,swR,zsF a b m (i+1),show a+(i+1)=a+1+i by omega,show b+(i+1)=b+1+i by omega]
theorem zp7:∀(A B P M Q:List zk),A.length=B.length->swR P.length (P.length+A.length+M.length) 0 A.length (P++(A++(M++(B++Q))))=P++(B++(M++(A++Q)))
 |[],[],P,M,Q,_=>rfl
 |x::A,y::B,P,M,Q,h=>by
  have h':A.length=B.length:=by simpa using h
  have:=zp7 A B (P++[y]) (M++[x]) Q h';rw[List.length_cons,swR,zsF];have e:swp (P++(x::A++(M++(y::B++Q)))) (P.length+0) (P.length+(A.length+1)+M.length+0)=P++(y::(A++(M++(x::(B++Q))))):=by
   have:=zts P (A++M) (B++Q) x y;simp only[List.length_append,List.append_assoc,List.cons_append]at this ⊢;rw[show P.length+(A.length+1)+M.length+0=P.length+1+(A.length+M.length) by omega,Nat.add_zero];exact this
  rw[e];simp only[List.length_append,List.length_cons,List.length_nil,List.append_assoc,List.cons_append,List.nil_append]at this ⊢;rw[show P.length+(A.length+1)+M.length+1=P.length+(0+1)+A.length+(M.length+(0+1)) by omega];exact this
theorem zzC:∀(f:Nat) (P A B Q:List zk) (m:Nat),m=P.length+A.length->0<A.length->0<B.length->A.length+B.length<=f ->
  swR (m-(zkm m f A.length B.length (P++(A++(B++Q)))).1) m 0 (zkm m f A.length B.length (P++(A++(B++Q)))).1 (zkm m f A.length B.length (P++(A++(B++Q)))).2=P++(B++(A++Q)):=by
 intro f;induction f with
 |zero=>intro P A B Q m hm ha hb hf;omega
 |succ f ih =>
  intro P A B Q m hm ha hb hf;rw[zkm];by_cases c:A.length=B.length
  ·rw[if_pos c];have:=zp7 A B P [] Q c;simp only[List.nil_append,List.length_nil,Nat.add_zero]at this;dsimp only;rw[show m-A.length=P.length by omega,hm];exact this
  ·rw[if_neg c];by_cases c2:B.length<A.length
   ·rw[if_pos c2];have hA:=List.take_append_drop B.length A;have l1:(A.take B.length).length=B.length:=by simp;omega
    have l2:(A.drop B.length).length=A.length-B.length:=by simp
    generalize A.take B.length=A1 at *;generalize A.drop B.length=A2 at *;have e:=zp7 A1 B P A2 Q l1;rw[l1]at e;have h2:=ih (P++B) A2 A1 Q m (by simp;omega) (by omega) (by omega) (by omega);rw[show m-A.length=P.length by omega];have hm2:m=P.length+B.length+A2.length:=by omega
    rw[<-hA,List.append_assoc A1 A2];have e':swR P.length m 0 B.length (P++(A1++(A2++(B++Q))))=P++(B++(A2++(A1++Q))):=by rw[hm2];exact e
    rw[e'];simp only[List.append_assoc,List.length_append,l1,l2]at h2 ⊢;rw[<-l2]at h2 ⊢;have hs:B.length+A2.length-B.length=A2.length:=by omega
    rw[hs];exact h2
   ·rw[if_neg c2];have hB:=List.take_append_drop (B.length-A.length) B;have l1:(B.take (B.length-A.length)).length=B.length-A.length:=by simp
    have l2:(B.drop (B.length-A.length)).length=A.length:=by simp;omega
    generalize B.take (B.length-A.length)=B1 at *;generalize B.drop (B.length-A.length)=B2 at *;have e:=zp7 A B2 P B1 Q l2.symm;have h2:=ih P B2 B1 (A++Q) m (by omega) (by omega) (by omega) (by omega);have e':swR (m-A.length) (m+B.length-A.length) 0 A.length (P++(A++(B++Q)))=P++(B2++(B1++(A++Q))):=by
     rw[<-hB,show m-A.length=P.length by omega,show m+(B1++B2).length-A.length=P.length+A.length+B1.length by simp;omega];simp only[List.append_assoc];exact e
    rw[e',<-l1,<-hB];rw[l2]at h2;simp only[List.append_assoc];exact h2
theorem zzD(P A B Q:List zk)(ha:0<A.length)(hb:0<B.length):ztB P.length (P.length+A.length) (P.length+A.length+B.length) (P++(A++(B++Q)))=P++(B++(A++Q)):=by
 have:=zzC (A.length+B.length) P A B Q _ rfl ha hb (Nat.le_refl _);unfold ztB;rw[show P.length+A.length+B.length-P.length=A.length+B.length by omega,show P.length+A.length-P.length=A.length by omega,show P.length+A.length+B.length-(P.length+A.length)=B.length by omega];exact this
theorem zxl:∀(C P Q:List zk) (x:zk),upF P.length C.length (P++x::(C++Q))=P++(C++x::Q)
 |[],P,Q,x=>rfl
 |y::C,P,Q,x=>by
  have h:=zts P [] (C++Q) x y;have h2:=zxl C (P++[y]) Q x;simp only[List.nil_append,List.length_nil,Nat.add_zero]at h;rw[List.length_cons,upF,List.cons_append,h];simp only[List.length_append,List.length_cons,List.length_nil,List.append_assoc,List.cons_append,List.nil_append]at h2 ⊢;exact h2
theorem zxG:∀(n:Nat) (C P Q:List zk) (x:zk),C.length=n->dnF (P.length+C.length) C.length (P++(C++x::Q))=P++x::(C++Q)
 |0,C,P,Q,x,h=>by
  have:C=[]:=List.length_eq_zero_iff.1 h;subst this;rfl
 |n+1,C,P,Q,x,h=>by
  obtain⟨D,y,rfl⟩:∃D y,C=D++[y]:=by
   rcases List.eq_nil_or_concat C with e |⟨D,y,e⟩
   ·subst e;simp at h
   ·exact⟨D,y,by rw[e,List.concat_eq_append]⟩
  have hD:D.length=n:=by simpa using h
  have h1:=zts (P++D) [] Q y x;have h2:=zxG n D P (y::Q) x hD;simp only[List.nil_append,List.length_nil,Nat.add_zero,List.append_assoc,List.length_append]at h1;simp only[List.length_append,List.length_cons,List.length_nil,List.append_assoc,List.cons_append,List.nil_append]at h2 ⊢;rw[dnF,show P.length+(D.length+(0+1))-1=P.length+D.length by omega,zzo _ _ _ (by omega),show P.length+(D.length+(0+1))=P.length+D.length+1 by omega,h1,h2]
theorem zmj(p:Nat->Bool):∀(f i j:Nat),j-i<=f->i<=j->(∀x y,i<=x->x<=y->y<j->p y=true->p x=true)->∀h,i<=h->h<j->(p h=true<->h<bsF p f i j)
 |0,i,j,hf,hi,hm,h,h1,h2=>by omega
 |f+1,i,j,hf,hi,hm,h,h1,h2=>by
  rw[bsF,if_pos (by omega)];by_cases c:p ((i+j) / 2)=true
  ·rw[if_pos c];by_cases c2:h<=(i+j) / 2
   ·have hb:=(zju p f ((i+j) / 2+1) j (by omega)).1;exact⟨fun _=>by omega,fun _=>hm h _ h1 c2 (by omega) c⟩
   ·exact zmj p f ((i+j) / 2+1) j (by omega) (by omega) (fun x y a b d e=>hm x y (by omega) b d e) h (by omega) h2
  ·rw[if_neg c];by_cases c2:(i+j) / 2<=h
   ·have hb:=(zju p f i ((i+j) / 2) (by omega)).2;exact⟨fun e=>absurd (hm _ h (by omega) c2 h2 e) c,fun _=>by omega⟩
   ·exact zmj p f i ((i+j) / 2) (by omega) (by omega) (fun x y a b d e=>hm x y a b (by omega) e) h h1 (by omega)
abbrev Srt(l:List zk):Prop:=l.Pairwise leB
theorem zw6(a b:zk):¬ziK a b<0<->leB b a:=by rw[znX,zqc]
theorem zyY{a b:zk}(h:ziK a b<0):leB a b:=zxy ((znX a b).1 h)
theorem zyX{u w x:zk}(h:leB u w)(g:ziK w x<0):ziK u x<0:=by
 rw[znX]at *;unfold leB at h;unfold ltB at *;simp at *;omega
def Mrg(P A B Q r:List zk):Prop:=∃S,r=P++(S++Q)/\S.Perm (A++B)/\Srt S
theorem zoR{A R:List zk}{h:Nat}(P:List zk)(h1:P.length<=h)(h2:h<P.length+A.length):(P++(A++R)).getD h z9=A.getD (h-P.length) z9:=by
 rw[List.getD_eq_getElem?_getD,List.getD_eq_getElem?_getD,List.getElem?_append_right h1,List.getElem?_append_left (by omega)]
theorem zns{A B Q:List zk}{h:Nat}(P:List zk)(h1:P.length+A.length<=h)(h2:h<P.length+A.length+B.length):(P++(A++(B++Q))).getD h z9=B.getD (h-(P.length+A.length)) z9:=by
 rw[List.getD_eq_getElem?_getD,List.getD_eq_getElem?_getD,List.getElem?_append_right (by omega),List.getElem?_append_right (by omega),List.getElem?_append_left (by omega),show h-P.length-A.length=h-(P.length+A.length) by omega]
theorem ziQ{A:List zk}(h:Srt A){i j:Nat}(hij:i<=j)(hj:j<A.length):leB (A.getD i z9) (A.getD j z9):=by
 rcases Nat.lt_or_eq_of_le hij with hij|rfl
 ·have:=List.pairwise_iff_getElem.1 h i j (by omega) hj hij;simpa [List.getD_eq_getElem?_getD,hj,show i<A.length by omega]using this
 ·exact .inr ⟨rfl,Int.le_refl _⟩
theorem zi3{A:List zk}{x:zk}(h:x∈A):∃i,i<A.length/\A.getD i z9=x:=by
 obtain⟨i,hi,rfl⟩:=List.getElem_of_mem h;exact⟨i,hi,by simp[hi]⟩
theorem ztr(P B Q:List zk)(x:zk)(hB:Srt B)(hb:0<B.length):Mrg P [x] B Q (upF P.length (bsF (pA (P++([x]++(B++Q))) P.length) B.length (P.length+1) (P.length+1+B.length)-1-P.length) (P++([x]++(B++Q)))):=by
 have hx:(P++([x]++(B++Q))).getD P.length z9=x:=by rw[zoR P (Nat.le_refl _) (by simp)];simp
 have hp:∀h,P.length+1<=h->h<P.length+1+B.length->(pA (P++([x]++(B++Q))) P.length h=true<->ziK (B.getD (h-(P.length+1)) z9) x<0):=by
  intro h h1 h2;unfold pA;rw[hx,zns P (by simpa using h1) (by simpa using h2)];simp
 have hs:=zmj (pA (P++([x]++(B++Q))) P.length) B.length (P.length+1) (P.length+1+B.length) (by omega) (by omega) (by
  intro a b h1 h2 h3 h4;rw[hp b (by omega) h3]at h4;rw[hp a h1 (by omega)];exact zyX (ziQ hB (by omega) (by omega)) h4)
 have hb1:=zju (pA (P++([x]++(B++Q))) P.length) B.length (P.length+1) (P.length+1+B.length) (by omega);generalize bsF (pA (P++([x]++(B++Q))) P.length) B.length (P.length+1) (P.length+1+B.length)=r at *;have hB2:=List.take_append_drop (r-(P.length+1)) B;have l1:(B.take (r-(P.length+1))).length=r-(P.length+1):=by simp;omega
 have k1:∀y∈B.take (r-(P.length+1)),leB y x:=by
  intro y hy;obtain⟨i,hi,rfl⟩:=zi3 hy;rw[l1]at hi;have:=(hs (P.length+1+i) (by omega) (by omega)).2 (by omega);rw[hp _ (by omega) (by omega),show P.length+1+i-(P.length+1)=i by omega]at this;have e:(B.take (r-(P.length+1))).getD i z9=B.getD i z9:=by simp[List.getD_eq_getElem?_getD,List.getElem?_take_of_lt hi]
  rw[e];exact zyY this
 have k2:∀y∈B.drop (r-(P.length+1)),leB x y:=by
  intro y hy;obtain⟨i,hi,rfl⟩:=zi3 hy;simp only[List.length_drop]at hi;have:=mt (hs (r+i) (by omega) (by omega)).1 (by omega);rw[hp _ (by omega) (by omega),zw6]at this;have e:(B.drop (r-(P.length+1))).getD i z9=B.getD (r+i-(P.length+1)) z9:=by simp only[List.getD_eq_getElem?_getD,List.getElem?_drop];rw[show r-(P.length+1)+i=r+i-(P.length+1) by omega]
  rw[e];exact this
 generalize B.take (r-(P.length+1))=B1 at *;generalize B.drop (r-(P.length+1))=B2 at *;subst hB2;have hu:=zxl B1 P (B2++Q) x;refine⟨B1++x::B2,?_,?_,?_⟩
 ·rw[show r-1-P.length=B1.length by omega];simp only[List.append_assoc,List.cons_append,List.nil_append]at hu ⊢;exact hu
 ·exact List.perm_middle
 ·have hsr:=List.pairwise_append.1 hB;refine List.pairwise_append.2 ⟨hsr.1,List.pairwise_cons.2 ⟨k2,hsr.2.1⟩,fun a ha b hb=>?_⟩;rcases List.mem_cons.1 hb with rfl|hb
  ·exact k1 a ha
  ·exact hsr.2.2 a ha b hb
theorem zr2(P A Q:List zk)(y:zk)(hA:Srt A):Mrg P A [y] Q (dnF (P.length+A.length) (P.length+A.length-bsF (pB (P++(A++([y]++Q))) (P.length+A.length)) A.length P.length (P.length+A.length)) (P++(A++([y]++Q)))):=by
 have hy:(P++(A++([y]++Q))).getD (P.length+A.length) z9=y:=by rw[zns P (Nat.le_refl _) (by simp)];simp
 have hp:∀h,P.length<=h->h<P.length+A.length->(pB (P++(A++([y]++Q))) (P.length+A.length) h=true<->leB (A.getD (h-P.length) z9) y):=by
  intro h h1 h2;unfold pB;rw[hy,zoR P h1 h2,<-zw6];simp
 have hs:=zmj (pB (P++(A++([y]++Q))) (P.length+A.length)) A.length P.length (P.length+A.length) (by omega) (by omega) (by
  intro a b h1 h2 h3 h4;rw[hp b (by omega) h3]at h4;rw[hp a h1 (by omega)];exact zfs (ziQ hA (by omega) (by omega)) h4)
 have hb1:=zju (pB (P++(A++([y]++Q))) (P.length+A.length)) A.length P.length (P.length+A.length) (by omega);generalize bsF (pB (P++(A++([y]++Q))) (P.length+A.length)) A.length P.length (P.length+A.length)=r at *;have hA2:=List.take_append_drop (r-P.length) A;have l1:(A.take (r-P.length)).length=r-P.length:=by simp;omega
 have k1:∀x∈A.take (r-P.length),leB x y:=by
  intro x hx;obtain⟨i,hi,rfl⟩:=zi3 hx;rw[l1]at hi;have:=(hs (P.length+i) (by omega) (by omega)).2 (by omega);rw[hp _ (by omega) (by omega),show P.length+i-P.length=i by omega]at this;have e:(A.take (r-P.length)).getD i z9=A.getD i z9:=by simp[List.getD_eq_getElem?_getD,List.getElem?_take_of_lt hi]
  rw[e];exact this
 have k2:∀x∈A.drop (r-P.length),leB y x:=by
  intro x hx;obtain⟨i,hi,rfl⟩:=zi3 hx;simp only[List.length_drop]at hi;have:=mt (hs (r+i) (by omega) (by omega)).1 (by omega);rw[hp _ (by omega) (by omega),zqc,Decidable.not_not]at this;have e:(A.drop (r-P.length)).getD i z9=A.getD (r+i-P.length) z9:=by simp only[List.getD_eq_getElem?_getD,List.getElem?_drop];rw[show r-P.length+i=r+i-P.length by omega]
  rw[e];exact zxy this
 have l2:(A.drop (r-P.length)).length=P.length+A.length-r:=by simp;omega
 generalize A.take (r-P.length)=A1 at *;generalize A.drop (r-P.length)=A2 at *;subst hA2;have hd:=zxG A2.length A2 (P++A1) Q y rfl;refine⟨A1++y::A2,?_,?_,?_⟩
 ·rw[<-l2];simp only[List.append_assoc,List.cons_append,List.nil_append,List.length_append,Nat.add_assoc]at hd ⊢;exact hd
 ·have:(A1++y::A2).Perm (A1++(A2++[y])):=List.Perm.append_left _ (List.perm_append_singleton y A2).symm;simpa using this
 ·have hsr:=List.pairwise_append.1 hA;refine List.pairwise_append.2 ⟨hsr.1,List.pairwise_cons.2 ⟨k2,hsr.2.1⟩,fun a ha b hb=>?_⟩;rcases List.mem_cons.1 hb with rfl|hb
  ·exact k1 a ha
  ·exact hsr.2.2 a ha b hb
theorem zuD:∀(f:Nat) (P A B Q:List zk),0<A.length->0<B.length->A.length+B.length<=f->Srt A->Srt B->Mrg P A B Q (zlI f P.length (P.length+A.length) (P.length+A.length+B.length) (P++(A++(B++Q)))):=by
 intro f;induction f with
 |zero=>intro P A B Q h1 h2 h3;omega
 |succ f ih =>
  intro P A B Q hA0 hB0 hf hA hB;rw[zlI];by_cases c1:P.length+A.length-P.length=1
  ·rw[if_pos c1];obtain⟨x,rfl⟩:∃x,A=[x]:=List.length_eq_one_iff.1 (by omega);have:=ztr P B Q x hB hB0;simp only[List.length_cons,List.length_nil,Nat.zero_add]at this ⊢;rw[show P.length+1+B.length-(P.length+1)=B.length by omega];exact this
  ·rw[if_neg c1];by_cases c2:P.length+A.length+B.length-(P.length+A.length)=1
   ·rw[if_pos c2];obtain⟨y,rfl⟩:∃y,B=[y]:=List.length_eq_one_iff.1 (by omega);have:=zr2 P A Q y hA;rw[show P.length+A.length-P.length=A.length by omega];exact this
   ·rw[if_neg c2];have hm:zbS P.length (P.length+A.length+B.length)=(P.length+(P.length+A.length+B.length)) / 2:=rfl;have hlo:loS P.length (P.length+A.length) (P.length+A.length+B.length)<=hiS P.length (P.length+A.length) (P.length+A.length+B.length):=by unfold loS hiS;split<;>omega
    have hsp:=zmj (pC (P++(A++(B++Q))) (zbS P.length (P.length+A.length+B.length)+(P.length+A.length)-1)) (hiS P.length (P.length+A.length) (P.length+A.length+B.length)-loS P.length (P.length+A.length) (P.length+A.length+B.length)) (loS P.length (P.length+A.length) (P.length+A.length+B.length)) (hiS P.length (P.length+A.length) (P.length+A.length+B.length)) (Nat.le_refl _) hlo;have hbd:=zju (pC (P++(A++(B++Q))) (zbS P.length (P.length+A.length+B.length)+(P.length+A.length)-1)) (hiS P.length (P.length+A.length) (P.length+A.length+B.length)-loS P.length (P.length+A.length) (P.length+A.length+B.length)) (loS P.length (P.length+A.length) (P.length+A.length+B.length)) (hiS P.length (P.length+A.length) (P.length+A.length+B.length)) hlo;have eS:bsF (pC (P++(A++(B++Q))) (zbS P.length (P.length+A.length+B.length)+(P.length+A.length)-1)) (hiS P.length (P.length+A.length) (P.length+A.length+B.length)-loS P.length (P.length+A.length) (P.length+A.length+B.length)) (loS P.length (P.length+A.length) (P.length+A.length+B.length)) (hiS P.length (P.length+A.length) (P.length+A.length+B.length))=stS P.length (P.length+A.length) (P.length+A.length+B.length) (P++(A++(B++Q))):=rfl;rw[eS]at hsp hbd;have eE:enS P.length (P.length+A.length) (P.length+A.length+B.length) (P++(A++(B++Q)))=zbS P.length (P.length+A.length+B.length)+(P.length+A.length)-stS P.length (P.length+A.length) (P.length+A.length+B.length) (P++(A++(B++Q))):=rfl;have hcase:(zbS P.length (P.length+A.length+B.length)<P.length+A.length/\loS P.length (P.length+A.length) (P.length+A.length+B.length)=zbS P.length (P.length+A.length+B.length)+(P.length+A.length)-(P.length+A.length+B.length)/\hiS P.length (P.length+A.length) (P.length+A.length+B.length)=zbS P.length (P.length+A.length+B.length))\/(P.length+A.length<=zbS P.length (P.length+A.length+B.length)/\loS P.length (P.length+A.length) (P.length+A.length+B.length)=P.length/\hiS P.length (P.length+A.length) (P.length+A.length+B.length)=P.length+A.length):=by
     by_cases c:zbS P.length (P.length+A.length+B.length)<P.length+A.length
     ·left;exact⟨c,by rw[loS,if_pos c],by rw[hiS,if_pos c]⟩
     ·right;exact⟨by omega,by rw[loS,if_neg c],by rw[hiS,if_neg c]⟩
    unfold zjz;generalize hst:stS P.length (P.length+A.length) (P.length+A.length+B.length) (P++(A++(B++Q)))=st at *;generalize hen:enS P.length (P.length+A.length) (P.length+A.length+B.length) (P++(A++(B++Q)))=en at *;generalize hmid:zbS P.length (P.length+A.length+B.length)=mid at *;generalize hloe:loS P.length (P.length+A.length) (P.length+A.length+B.length)=lo at *;generalize hhie:hiS P.length (P.length+A.length) (P.length+A.length+B.length)=hi at *;have b1:P.length<=lo/\hi<=P.length+A.length/\P.length+A.length<=en/\en<=P.length+A.length+B.length:=by omega
    have hp:∀c,lo<=c->c<hi->(pC (P++(A++(B++Q))) (mid+(P.length+A.length)-1) c=true<->leB (A.getD (c-P.length) z9) (B.getD (mid-1-c+P.length-P.length) z9)):=by
     intro c h1 h2;unfold pC;rw[zns P (h:=mid+(P.length+A.length)-1-c) (by omega) (by omega),zoR P (by omega) (by omega),<-zw6,show mid+(P.length+A.length)-1-c-(P.length+A.length)=mid-1-c+P.length-P.length by omega];simp
    have hsp:=hsp (by
     intro a b h1 h2 h3 h4;rw[hp b (by omega) h3]at h4;rw[hp a h1 (by omega)];refine zfs (ziQ hA (by omega) (by omega)) (zfs h4 (ziQ hB (by omega) (by omega))))
    have hA2:=List.take_append_drop (st-P.length) A;have hB2:=List.take_append_drop (en-(P.length+A.length)) B;have la1:(A.take (st-P.length)).length=st-P.length:=by simp;omega
    have la2:(A.drop (st-P.length)).length=P.length+A.length-st:=by simp;omega
    have lb1:(B.take (en-(P.length+A.length))).length=en-(P.length+A.length):=by simp;omega
    have lb2:(B.drop (en-(P.length+A.length))).length=P.length+A.length+B.length-en:=by simp;omega
    have k1:∀x∈A.take (st-P.length),∀y∈B.drop (en-(P.length+A.length)),leB x y:=by
     intro x hx y hy;obtain⟨i,hi',rfl⟩:=zi3 hx;obtain⟨j,hj',rfl⟩:=zi3 hy;have e1:(A.take (st-P.length)).getD i z9=A.getD i z9:=by simp[List.getD_eq_getElem?_getD,List.getElem?_take_of_lt (by omega:i<st-P.length)]
     have e2:(B.drop (en-(P.length+A.length))).getD j z9=B.getD (en-(P.length+A.length)+j) z9:=by simp only[List.getD_eq_getElem?_getD,List.getElem?_drop]
     rw[e1,e2];have h0:=(hsp (st-1) (by omega) (by omega)).2 (by omega);rw[hp _ (by omega) (by omega)]at h0;exact zfs (ziQ hA (by omega) (by omega)) (zfs h0 (ziQ hB (by omega) (by omega)))
    have k2:∀y∈B.take (en-(P.length+A.length)),∀x∈A.drop (st-P.length),leB y x:=by
     intro y hy x hx;obtain⟨i,hi',rfl⟩:=zi3 hx;obtain⟨j,hj',rfl⟩:=zi3 hy;have e1:(A.drop (st-P.length)).getD i z9=A.getD (st-P.length+i) z9:=by simp only[List.getD_eq_getElem?_getD,List.getElem?_drop]
     have e2:(B.take (en-(P.length+A.length))).getD j z9=B.getD j z9:=by simp[List.getD_eq_getElem?_getD,List.getElem?_take_of_lt (by omega:j<en-(P.length+A.length))]
     rw[e1,e2];have h0:=mt (hsp st (by omega) (by omega)).1 (by omega);rw[hp _ (by omega) (by omega),zqc,Decidable.not_not]at h0;exact zfs (ziQ hB (by omega) (by omega)) (zfs (zxy h0) (ziQ hA (by omega) (by omega)))
    generalize A.take (st-P.length)=A1 at *;generalize A.drop (st-P.length)=A2 at *;generalize B.take (en-(P.length+A.length))=B1 at *;generalize B.drop (en-(P.length+A.length))=B2 at *;subst hA2 hB2;have sA:=List.pairwise_append.1 hA;have sB:=List.pairwise_append.1 hB;simp only[List.length_append]at *;have ht:(if st<P.length+(A1.length+A2.length)/\P.length+(A1.length+A2.length)<en then ztB st (P.length+(A1.length+A2.length)) en (P++(A1++A2++(B1++B2++Q))) else P++(A1++A2++(B1++B2++Q)))=P++(A1++(B1++(A2++(B2++Q)))):=by
     split
     ·rename_i hc;have:=zzD (P++A1) A2 B1 (B2++Q) (by omega) (by omega);simp only[List.length_append,List.append_assoc]at this ⊢;rw[show st=P.length+A1.length by omega,show P.length+(A1.length+A2.length)=P.length+A1.length+A2.length by omega,show en=P.length+A1.length+A2.length+B1.length by omega];exact this
     ·rename_i hc;have:A2.length=0\/B1.length=0:=by omega
      rcases this with h|h
      ·have:A2=[]:=List.length_eq_zero_iff.1 h;subst this;simp
      ·have:B1=[]:=List.length_eq_zero_iff.1 h;subst this;simp
    rw[ht];have hL:∃S1,(if P.length<st/\st<mid then zlI f P.length st mid (P++(A1++(B1++(A2++(B2++Q))))) else P++(A1++(B1++(A2++(B2++Q)))))=P++(S1++(A2++(B2++Q)))/\S1.Perm (A1++B1)/\Srt S1:=by
     split
     ·have:=ih P A1 B1 (A2++(B2++Q)) (by omega) (by omega) (by omega) sA.1 sB.1;rw[show P.length+A1.length=st by omega,show st+B1.length=mid by omega]at this;exact this
     ·have:A1.length=0\/B1.length=0:=by omega
      refine⟨A1++B1,by simp,List.Perm.refl _,?_⟩;rcases this with h|h
      ·have:A1=[]:=List.length_eq_zero_iff.1 h;subst this;simpa using sB.1
      ·have:B1=[]:=List.length_eq_zero_iff.1 h;subst this;simpa using sA.1
    obtain⟨S1,e1,p1,o1⟩:=hL;rw[e1];have hl1:=p1.length_eq;simp only[List.length_append]at hl1;have hR:∃S2,(if mid<en/\en<P.length+(A1.length+A2.length)+(B1.length+B2.length) then zlI f mid en (P.length+(A1.length+A2.length)+(B1.length+B2.length)) (P++(S1++(A2++(B2++Q)))) else P++(S1++(A2++(B2++Q))))=P++(S1++(S2++Q))/\S2.Perm (A2++B2)/\Srt S2:=by
     split
     ·obtain⟨S2,g1,g2,g3⟩:=ih (P++S1) A2 B2 Q (by omega) (by omega) (by omega) sA.2.1 sB.2.1;simp only[List.length_append,List.append_assoc]at g1;rw[show P.length+S1.length=mid by omega,show mid+A2.length=en by omega,show en+B2.length=P.length+(A1.length+A2.length)+(B1.length+B2.length) by omega]at g1;exact⟨S2,g1,g2,g3⟩
     ·have:A2.length=0\/B2.length=0:=by omega
      refine⟨A2++B2,by simp,List.Perm.refl _,?_⟩;rcases this with h|h
      ·have:A2=[]:=List.length_eq_zero_iff.1 h;subst this;simpa using sB.2.1
      ·have:B2=[]:=List.length_eq_zero_iff.1 h;subst this;simpa using sA.2.1
    obtain⟨S2,e2,p2,o2⟩:=hR;refine⟨S1++S2,by rw[e2];simp,?_,List.pairwise_append.2 ⟨o1,o2,fun a ha b hb=>?_⟩⟩
    ·refine(p1.append p2).trans ?_;simp only[List.append_assoc];refine List.Perm.append_left _ ?_;rw[<-List.append_assoc,<-List.append_assoc];exact List.Perm.append_right _ List.perm_append_comm
    ·have ha:=p1.subset ha;have hb:=p2.subset hb;rcases List.mem_append.1 ha with ha|ha<;>rcases List.mem_append.1 hb with hb|hb
     ·exact sA.2.2 a ha b hb
     ·exact k1 a ha b hb
     ·exact k2 a ha b hb
     ·exact sB.2.2 a ha b hb
theorem zvC(a:Nat):∀(c:Nat) (P l:List zk),P.length=a->zrH a c (P++l)=P++bub l c
 |0,P,l,_=>rfl
 |c+1,P,l,h=>by
  have g:∀i,(P++l).getD (a+i) z9=l.getD i z9:=fun i=>by
   rw[List.getD_eq_getElem?_getD,List.getD_eq_getElem?_getD,List.getElem?_append_right (by omega),show a+i-P.length=i by omega]
  have e1:=g (c+1);have e2:=g c;rw[show a+(c+1)=a+c+1 by omega]at e1;rw[zrH,bub,e1,e2];split
  ·rw[<-zvC a c P _ h]
   congr 1
   unfold swp;rw[e1,e2,List.set_append_right _ _ (by omega),List.set_append_right _ _ (by omega),show a+c+1-P.length=c+1 by omega,show a+c-P.length=c by omega]
  ·rfl
theorem zs3(a:Nat):∀(m i:Nat) (P l:List zk),P.length=a->zjJ a i m (P++l)=P++zq4 l i m
 |0,i,P,l,_=>rfl
 |m+1,i,P,l,h=>by rw[zjJ,zq4,zvC a i P l h,zs3 a m (i+1) P _ h]
theorem zs2:∀(r s Q:List zk),zq4 (s++(r++Q)) s.length r.length=r.foldl zfK s++Q
 |[],s,Q=>by simp[zq4]
 |x::r,s,Q=>by
  have e:bub (s++(x::r++Q)) s.length=zfK s x++(r++Q):=zup x s.length s (r++Q) rfl;rw[List.length_cons,zq4,e,List.foldl_cons];have h:=zs2 r (zfK s x) Q;rw[zn4]at h;exact h
theorem zyQ(s:List zk)(x:zk):(zfK s x).Perm (x::s):=by
 unfold zfK;have:=List.take_append_drop (zev x s s.length) s;refine List.perm_middle.trans ?_;rw[this]
theorem znu:∀(r s:List zk),(r.foldl zfK s).Perm (s++r)
 |[],s=>by simp
 |x::r,s=>by
  refine(znu r (zfK s x)).trans ?_;refine((zyQ s x).append_right r).trans ?_;simpa using(List.perm_middle (a:=x) (l₁:=s) (l₂:=r)).symm
theorem zq5(P C Q:List zk):∃S,zjJ P.length 1 (P.length+C.length-(P.length+1)) (P++(C++Q))=P++(S++Q)/\S.Perm C/\Srt S:=by
 rw[zs3 P.length _ 1 P _ rfl];cases C with
 |nil=>exact⟨[],by simp[zq4],List.Perm.refl _,List.Pairwise.nil⟩
 |cons x r =>
  have h:=zs2 r [x] Q;refine⟨r.foldl zfK [x],?_,by simpa using znu r [x],ziR r [x] (by simp)⟩;simp only[List.length_cons,List.length_nil,List.cons_append,List.nil_append]at h ⊢;rw[show P.length+(r.length+1)-(P.length+1)=r.length by omega];rw[h]
inductive Chf (bs:Nat):List zk->Prop
 |nil:Chf bs []
 |cons {C R:List zk}:C.length=bs->Srt C->Chf bs R->Chf bs (C++R)
inductive Chs (bs:Nat):List zk->Prop
 |one {C:List zk}:C.length<=bs->Srt C->Chs bs C
 |cons {C R:List zk}:C.length=bs->Srt C->Chs bs R->Chs bs (C++R)
theorem Chf.snoc{bs:Nat}{R C:List zk}(h:Chf bs R)(hc:C.length<=bs)(hs:Srt C):Chs bs (R++C):=by
 induction h with
 |nil=>simpa using Chs.one hc hs
 |cons a b _ ih=>rw[List.append_assoc];exact Chs.cons a b ih
theorem Chs.short{bs:Nat}{R:List zk}(h:Chs bs R)(hl:R.length<=bs):Srt R:=by
 cases h with
 |one _ h=>exact h
 |cons a b c =>
  rename_i C R';have:R'=[]:=List.length_eq_zero_iff.1 (by simp at hl;omega);subst this;simpa using b
theorem Chs.long{bs:Nat}{R:List zk}(h:Chs bs R)(hl:bs<R.length):∃C R',R=C++R'/\C.length=bs/\Srt C/\Chs bs R':=by
 cases h with
 |one h _=>omega
 |cons a b c=>exact⟨_,_,rfl,a,b,c⟩
theorem Chs.two{bs:Nat}(h0:0<bs){R:List zk}(h:Chs bs R)(hl:2*bs<=R.length):∃A B R',R=A++(B++R')/\A.length=bs/\B.length=bs/\Srt A/\Srt B/\Chs bs R':=by
 obtain⟨A,R1,rfl,a1,a2,a3⟩:=h.long (by omega);simp at hl;by_cases c:bs<R1.length
 ·obtain⟨B,R2,rfl,b1,b2,b3⟩:=a3.long c;exact⟨A,B,R2,rfl,a1,b1,a2,b2,b3⟩
 ·exact⟨A,R1,[],by simp,a1,by omega,a2,a3.short (by omega),Chs.one (by simp) List.Pairwise.nil⟩
theorem zAG(bs k:Nat)(T:List zk):∀(f:Nat) (P R:List zk),P.length+R.length=k->R.length<f*bs->∃R1 R2,zok bs k f P.length (P++(R++T))=(P.length+R1.length,P++(R1++(R2++T)))/\(R1++R2).Perm R/\Chf bs R1/\R2.length<bs:=by
 intro f;induction f with
 |zero=>intro P R h1 h2;omega
 |succ f ih =>
  intro P R h1 h2;rw[zok];by_cases c:P.length+bs<=k
  ·rw[if_pos c];have hR:=List.take_append_drop bs R;have l1:(R.take bs).length=bs:=by simp;omega
   have l2:(R.drop bs).length=R.length-bs:=by simp
   generalize R.take bs=C at *;generalize R.drop bs=R' at *;subst hR;obtain⟨S,e,p,s⟩:=zq5 P C (R'++T);have hs:=p.length_eq;rw[l1]at e;obtain⟨R1,R2,g1,g2,g3,g4⟩:=ih (P++S) R' (by simp at h1 ⊢;omega) (by rw[Nat.succ_mul]at h2;omega);rw[List.append_assoc C,e];simp only[List.length_append,List.append_assoc]at g1;rw[show P.length+S.length=P.length+bs by omega]at g1;rw[g1];refine⟨S++R1,R2,by simp;omega,?_,Chf.cons (by omega) s g3,g4⟩;rw[List.append_assoc];exact p.append g2
  ·rw[if_neg c];exact⟨[],R,by simp,by simp,Chf.nil,by omega⟩
theorem zzY(bs k:Nat)(h0:0<bs)(T:List zk):∀(f:Nat) (P R:List zk),P.length+R.length=k->R.length<f*(2*bs)->Chs bs R->∃R1 R2,zgP bs k f P.length (P++(R++T))=(P.length+R1.length,P++(R1++(R2++T)))/\(R1++R2).Perm R/\Chf (2*bs) R1/\R2.length<2*bs/\Chs bs R2:=by
 intro f;induction f with
 |zero=>intro P R h1 h2;omega
 |succ f ih =>
  intro P R h1 h2 hc;rw[zgP];by_cases c:P.length+2*bs<=k
  ·rw[if_pos c];obtain⟨A,B,R',rfl,a1,b1,a2,b2,r3⟩:=hc.two h0 (by omega);obtain⟨S,e,p,s⟩:=zuD (2*bs) P A B (R'++T) (by omega) (by omega) (by omega) a2 b2;have hs:=p.length_eq;simp only[List.length_append]at hs h1 h2;obtain⟨R1,R2,g1,g2,g3,g4,g5⟩:=ih (P++S) R' (by simp;omega) (by rw[Nat.succ_mul]at h2;omega) r3;rw[a1,b1,show P.length+bs+bs=P.length+2*bs by omega]at e;simp only[List.append_assoc];rw[e];simp only[List.length_append,List.append_assoc]at g1;rw[show P.length+S.length=P.length+2*bs by omega]at g1;rw[g1];refine⟨S++R1,R2,by simp;omega,?_,Chf.cons (by omega) s g3,g4,g5⟩;rw[List.append_assoc];refine(p.append g2).trans ?_;simp
  ·rw[if_neg c];exact⟨[],R,by simp,by simp,Chf.nil,by omega,hc⟩
theorem zyj(bs:Nat)(h0:0<bs)(R T:List zk)(h:Chs bs R):∃R',zjE bs R.length (R++T)=R'++T/\R'.Perm R/\Chs (2*bs) R':=by
 obtain⟨R1,R2,e,p,c1,l2,c2⟩:=zzY bs R.length h0 T (R.length+1) [] R (by simp) (by have:R.length+1<=(R.length+1)*(2*bs):=Nat.le_mul_of_pos_right _ (by omega);omega) h;simp only[List.nil_append,List.length_nil,Nat.zero_add]at e;have hl:=p.length_eq;simp only[List.length_append]at hl;unfold zjE;rw[e];dsimp only;by_cases c:R1.length+bs<R.length
 ·rw[if_pos c];obtain⟨A,B,rfl,a1,a2,a3⟩:=c2.long (by omega);simp only[List.length_append]at hl l2;obtain⟨S,e2,p2,s2⟩:=zuD (R.length-R1.length) R1 A B T (by omega) (by omega) (by omega) a2 (a3.short (by omega));have hs:=p2.length_eq;simp only[List.length_append]at hs;rw[a1,show R1.length+bs+B.length=R.length by omega]at e2;refine⟨R1++S,?_,?_,c1.snoc (by omega) s2⟩
  ·simp only[List.append_assoc];exact e2
  ·exact(List.Perm.append_left _ p2).trans p
 ·rw[if_neg c];exact⟨R1++R2,by simp,p,c1.snoc (by omega) (c2.short (by omega))⟩
theorem zpp(T:List zk):∀(f bs:Nat) (R:List zk),0<bs->R.length<bs+f->Chs bs R->∃S,passes R.length f bs (R++T)=S++T/\S.Perm R/\Srt S
 |0,bs,R,h0,hf,hc=>⟨R,rfl,List.Perm.refl _,hc.short (by omega)⟩
 |f+1,bs,R,h0,hf,hc=>by
  rw[passes];by_cases c:bs<R.length
  ·rw[if_pos c];obtain⟨R',e,p,hc'⟩:=zyj bs h0 R T hc;have hl:=p.length_eq;obtain⟨S,e2,p2,s2⟩:=zpp T f (2*bs) R' (by omega) (by omega) hc';rw[hl]at e2;exact⟨S,by rw[e,e2],p2.trans p,s2⟩
  ·rw[if_neg c];exact⟨R,rfl,List.Perm.refl _,hc.short (by omega)⟩
theorem zuI(R T:List zk):∃S,zmz R.length (R++T)=S++T/\S.Perm R/\Srt S:=by
 obtain⟨R1,R2,e,p,c1,l2⟩:=zAG 20 R.length T (R.length+1) [] R (by simp) (by have:R.length+1<=(R.length+1)*20:=Nat.le_mul_of_pos_right _ (by omega);omega);simp only[List.nil_append,List.length_nil,Nat.zero_add]at e;have hl:=p.length_eq;simp only[List.length_append]at hl;unfold zmz;rw[e];dsimp only;obtain⟨S2,e2,p2,s2⟩:=zq5 R1 R2 T;have h2:=p2.length_eq;rw[show R1.length+R2.length=R.length by omega]at e2;rw[e2];have hc:Chs 20 (R1++S2):=c1.snoc (by omega) s2;obtain⟨S,e3,p3,s3⟩:=zpp T R.length 20 (R1++S2) (by decide) (by simp;omega) hc;have h3:(R1++S2).length=R.length:=by simp;omega
 rw[h3,List.append_assoc]at e3;exact⟨S,e3,p3.trans ((List.Perm.append_left _ p2).trans p),s3⟩
theorem zs4{x y:zk}(h:x.lane=y.lane):zeM x y=zeM y x:=by
 unfold zeM;rw[h]
 congr 1
 ·omega
 ·omega
 ·omega
 ·omega
 ·by_cases c:x.hold=0<;>by_cases d:y.hold=0<;>simp[c,d];omega
theorem zyR(a x y:zk):zeM (zeM a x) y=zeM (zeM a y) x:=by
 unfold zeM
 congr 1
 ·dsimp;omega
 ·dsimp;omega
 ·dsimp;omega
 ·dsimp;omega
 ·dsimp;by_cases b:a.hold=0<;>by_cases c:x.hold=0<;>by_cases d:y.hold=0<;>simp[b,c,d];have h1:¬max a.hold x.hold=0:=by omega
  have h2:¬max a.hold y.hold=0:=by omega
  simp[h1,h2];omega
theorem zds(o:List zk)(a b:zk):zaQ (o++[a]) b=if meets a b=true then o++[zeM a b] else o++[a]++[b]:=by
 have e:(o++[a]).getD ((o++[a]).length-1) z9=a:=by simp[List.getD_eq_getElem?_getD]
 unfold zaQ;rw[e];by_cases h:meets a b=true
 ·rw[if_pos ⟨by simp,h⟩,if_pos h];simp
 ·rw[if_neg (fun g=>h g.2),if_neg h]
theorem zse(out:List zk){x y:zk}(h1:x.lane=y.lane)(h2:x.lo=y.lo)(hx:x.lo<=x.hi)(hy:y.lo<=y.hi):zaQ (zaQ out x) y=zaQ (zaQ out y) x:=by
 have hm:∀a,meets a x=meets a y:=fun a=>by unfold meets;rw[h1,h2]
 have m1:meets x y=true:=by unfold meets;simp[h1];omega
 have m2:meets y x=true:=by unfold meets;simp[h1];omega
 rcases List.eq_nil_or_concat out with e |⟨o,a,e⟩
 ·subst e;have e0:∀b,zaQ [] b=[]++[b]:=fun b=>by simp[zaQ]
  rw[e0,e0,zds,zds,if_pos m1,if_pos m2,zs4 h1]
 ·rw[List.concat_eq_append]at e;subst e;rw[zds,zds,<-hm a];by_cases c:meets a x=true
  ·have c1:meets (zeM a x) y=true:=by
    unfold meets at c ⊢;unfold zeM;simp at c ⊢;omega
   have c2:meets (zeM a y) x=true:=by
    unfold meets at c ⊢;unfold zeM;simp at c ⊢;omega
   rw[if_pos c,if_pos c,zds,zds,if_pos c1,if_pos c2,zyR]
  ·rw[if_neg c,if_neg c,zds,zds,if_pos m1,if_pos m2,zs4 h1]
theorem zrb{x:zk}(hx:x.lo<=x.hi):∀(u:List zk) (g:List zk),(∀y∈u,y.lane=x.lane/\y.lo=x.lo/\y.lo<=y.hi)->u.foldl zaQ (zaQ g x)=zaQ (u.foldl zaQ g) x
 |[],g,h=>rfl
 |y::u,g,h=>by
  obtain⟨h1,h2,h3⟩:=h y (List.mem_cons_self ..);simp only[List.foldl_cons];rw[zse g h1.symm h2.symm hx h3,zrb hx u (zaQ g y) fun z hz=>h z (List.mem_cons_of_mem _ hz)]
theorem zn8:∀(s t:List zk) (g:List zk),s.Perm t->Srt s->Srt t->(∀x∈s,x.lo<=x.hi)->s.foldl zaQ g=t.foldl zaQ g
 |[],t,g,hp,_,_,_=>by rw[hp.nil_eq]
 |x::s,t,g,hp,hs,ht,hn=>by
  have hx:x∈t:=hp.mem_iff.1 (List.mem_cons_self ..);obtain⟨u,v,rfl⟩:=List.append_of_mem hx;have hp':s.Perm (u++v):=(List.perm_cons x).1 (hp.trans List.perm_middle);have ht':Srt (u++v):=ht.sublist (List.Sublist.append_left (List.sublist_cons_self ..) u);obtain⟨hs1,hs2⟩:=List.pairwise_cons.1 hs;have ih:=zn8 s (u++v) (zaQ g x) hp' hs2 ht' fun y hy=>hn y (List.mem_cons_of_mem _ hy)
  have hu:∀y∈u,y.lane=x.lane/\y.lo=x.lo/\y.lo<=y.hi:=by
   intro y hy;have h1:leB y x:=(List.pairwise_append.1 ht).2.2 y hy x (List.mem_cons_self ..);have h2:y∈s:=hp'.mem_iff.2 (List.mem_append_left _ hy);have h3:=hs1 y h2;unfold leB at h1 h3;exact⟨by omega,by omega,hn y (List.mem_cons_of_mem _ h2)⟩
  simp only[List.foldl_cons,List.foldl_append]at ih ⊢;rw[ih,zrb (hn x (List.mem_cons_self ..)) u g hu]
theorem zq6{l:List zk}:∀x∈l.filter (fun b=>!bad b),x.lo<=x.hi:=by
 intro x hx;have:=(List.mem_filter.1 hx).2;simp at this;omega
theorem zAi{l S:List zk}(hp:S.Perm (l.filter fun b=>!bad b))(hs:Srt S):S.foldl zaQ []=zcz l:=by
 rw[<-zAh];unfold zAj;rw[zsN];refine zn8 S _ [] ?_ hs (ziR _ [] List.Pairwise.nil) (fun x hx=>zq6 x (hp.subset hx));exact hp.trans (by simpa using(znu (l.filter fun b=>!bad b) []).symm)
theorem zso(l:List zk)(hl:l.length<=100000000000)(hok:∀x∈l,OKB x):R L Cs zsj [.c (.rslice (zI l))] []=some (.w (.c (.rslice (zI (zcz l)))),[]):=by
 have hc:=zvv l (by omega);obtain⟨l',v1,d1,d2,d3,d4,d5,hD⟩:=zuw l l.length (by omega);obtain⟨S,e,p,s⟩:=zuI (l.filter fun b=>!bad b) (l'.drop (l.filter fun b=>!bad b).length);have hsl:=p.length_eq;have hdec:(l.filter fun b=>!bad b)++l'.drop (l.filter fun b=>!bad b).length=l':=by
  conv=>lhs;arg 1;rw[<-d5]
  exact List.take_append_drop _ _
 rw[hdec]at e;obtain⟨v2,s1,s2,hS⟩:=zsp l'.length (l.filter fun b=>!bad b).length (by omega) (by omega) l' rfl v1;rw[e]at s2 hS;have htk:(S++l'.drop (l.filter fun b=>!bad b).length).take (l.filter fun b=>!bad b).length=S:=by
  rw[<-hsl,List.take_left]
 have hSl0:(S++l'.drop (l.filter fun b=>!bad b).length).length=l.length:=by simp;omega
 obtain⟨w',hJ⟩:=zyO (S++l'.drop (l.filter fun b=>!bad b).length) (l.filter fun b=>!bad b).length (by omega) (by omega) v2 (by
  rw[htk];intro x hx;exact hok x (List.mem_filter.1 (p.subset hx)).1) _ 0 [] 0 rfl (Nat.zero_le _) (Nat.zero_le _) (by simp)
 rw[List.drop_zero,htk,zAi p s]at hJ;generalize hk:(l.filter fun b=>!bad b).length=k at *;generalize zcz l=Q at *;generalize S++l'.drop k=S' at *;simp only[blk,hSl0,d3,Int.natCast_zero,List.length_nil,zic,List.map_nil,List.nil_append]at hD hS hJ;rw[z4 zsx rfl];by_cases q1:v1=l.length
 ·have e1:=d2 q1;by_cases q2:v2=v1
  ·have e2:=s2 q2;rw[e1,q1]at hD;rw[e2,e1,q2,q1]at hS hJ;simp[zeQ,hc,hD,hS,hJ]
  ·rw[e1,q1]at hD;rw[e1,q1]at hS;rw[q1]at q2;simp[zeQ,hc,hD,hS,hJ,q2]
 ·by_cases q2:v2=v1
  ·have e2:=s2 q2;rw[e2,q2]at hS hJ;simp[zeQ,hc,hD,hS,hJ,q1]
  ·simp[zeQ,hc,hD,hS,hJ,q1,q2]
def zfx(len:Int)(e:Ego):Int:=e.shi-len-1
def zex(m:zD)(zs:List Zon)(ss:List Sgn)(r:List Int)(len:Int)(k:zci)(e:Ego)(signals:Bool):List zk :=
 zgt m zs ss r (zfx len e) e.slo len k signals (zkr m k.ego len r k.blobs)++(zbK m 0 m.lanes).flatMap (zfb m (r.getD 0 0) (zfx len e))
def zfV(m:zD)(zs:List Zon)(ss:List Sgn)(r:List Int)(len:Int)(k:zci)(e:Ego)(signals:Bool):List Swp :=
 zhM m zs ss r (zfx len e) e.slo len k signals (zkr m k.ego len r k.blobs)
def zpg(m:zD)(zs:List Zon)(ss:List Sgn)(r:List Int)(len:Int)(k:zci)(e:Ego)(signals:Bool):zci :=
 ⟨k.tick+1,zkr m e len r (zcz (zex m zs ss r len k e signals)),e⟩
theorem zsL(m:zD)(r0 bar:Int):∀(t:List Int),(t.flatMap (zfb m r0 bar)).length<=t.length
 |[]=>by simp
 |x::t=>by
  have ih:=zsL m r0 bar t;have:(zfb m r0 bar x).length<=1:=by unfold zfb;split<;>simp
  rw[List.flatMap_cons,List.length_append,List.length_cons];omega
theorem zne{m:zD}(hs:zmX m)(zs:List Zon)(ss:List Sgn){r:List Int}(hr:r.length<=2)(len:Int)(k:zci)(e:Ego)(signals:Bool)(hk:k.blobs.length<=200000000):(zex m zs ss r len k e signals).length<=2400000100:=by
 have h1:=zxY hs zs ss r (zfx len e) e.slo len k signals (zkr m k.ego len r k.blobs);have h2:=zij m k.ego len hr k.blobs;have h3:=zsL m (r.getD 0 0) (zfx len e) (zbK m 0 m.lanes);have h4:=zlK m m.lanes 0;have h5:=hs.few;unfold zex;rw[List.length_append];omega
theorem zsI{m:zD}(h:zcp m)(zs:List Zon)(ss:List Sgn)(r:List Int)(len:Int)(k:zci)(e:Ego)(signals:Bool)(hvb:∀b∈k.blobs,VB m b):∀x∈zex m zs ss r len k e signals,OKB x:=by
 intro x hx;unfold zex at hx;rcases List.mem_append.1 hx with hx|hx
 ·unfold zgt at hx;obtain⟨b,hb,hx⟩:=List.mem_flatMap.1 hx;obtain⟨z,hz,rfl⟩:=List.mem_map.1 hx;have hv:=ztK k.ego len r k.blobs hvb b hb;have hbd:=zwE h zs ss k signals hv;unfold zm8 at hz;split at hz
  ·have ho:=zBF h r (zfx len e) e.slo (mvF m zs ss k signals b) (by rw[hbd.1];exact hv.lane) _ _ _ z hz;have h1:=zcX h ho.on;have h2:=ho.lo;have h3:=ho.le;have h4:=ho.hi;exact⟨by omega,by omega,by omega,by omega⟩
  ·cases hz
 ·obtain⟨b,hb,hx⟩:=List.mem_flatMap.1 hx;unfold zfb at hx;split at hx
  ·simp only[List.mem_singleton]at hx;subst hx;exact⟨by simp,by simp,by simp,by simp⟩
  ·cases hx
theorem zux{m:zD}{zs:List Zon}{ss:List Sgn}(hf:zmq m zs ss){r:List Int}(hr:zdA m r=0)(len:Int)(hn:0<=len/\len<=20000)(k:zci)(hk:k.blobs.length<=200000000)(ht:0<=k.tick/\k.tick<=1099511628776)(he:znd k.ego)(hvb:∀b∈k.blobs,VB m b)(act:Int)(ha:zk0 act)(signals:Bool) :
  R L Cs zl7 [.a (zh m r len),.a (zG k),W act,Bo signals] []=some (.t [.a (zG (zpg m zs ss r len k (zaN m r k.ego act) signals)),.c (.rslice (zbf (zhp (zlg (zfV m zs ss r len k (zaN m r k.ego act) signals)))))],[]):=by
 have h:=hf.good;obtain⟨hon,hne,hl8⟩:=zg1 h hr;have hr2:=zlP hf.shal hr;obtain⟨x0,r',rfl⟩:∃x r',r=x::r':=by cases r with|nil=>exact absurd rfl hne|cons x r'=>exact⟨x,r',rfl⟩
 have hx0:=hon x0 (List.mem_cons_self ..);have hD:=zvQ h x0 r' len hx0 k.ego he act ha;have s1:=zge h r' hx0 act k.ego.vlo;have s2:=zge h r' hx0 act k.ego.vhi;have hes:=he.s;have hbl:=zne hf.shal zs ss hr2 len k (zaN m (x0::r') k.ego act) signals hk;have hok:=zsI h zs ss (x0::r') len k (zaN m (x0::r') k.ego act) signals hvb;have hb1:0<=(zaN m (x0::r') k.ego act).slo/\(zaN m (x0::r') k.ego act).slo<=1099511630000/\0<=(zaN m (x0::r') k.ego act).shi/\(zaN m (x0::r') k.ego act).shi<=1099511630000:=by
  simp only[zaN];omega
 have hsw:(zfV m zs ss (x0::r') len k (zaN m (x0::r') k.ego act) signals).length<=2400000100:=by
  have h1:=zoA hf.shal zs ss (x0::r') (zfx len (zaN m (x0::r') k.ego act)) (zaN m (x0::r') k.ego act).slo len k signals (zkr m k.ego len (x0::r') k.blobs);have h2:=zij m k.ego len hr2 k.blobs;unfold zfV;omega
 unfold zpg;generalize zaN m (x0::r') k.ego act=e at *;have hp:2 ^ (x0::r').length<=4:=Nat.pow_le_pow_right (by decide) hr2;have hO1:=zor h (x0::r') hl8 hon len k.ego (by omega) hn k.blobs (by
  refine Nat.le_trans (Nat.mul_le_mul hk hp) (by decide))
 have hJl:=zkq (zex m zs ss (x0::r') len k e signals);have hO2:=zor h (x0::r') hl8 hon len e (by omega) hn (zcz (zex m zs ss (x0::r') len k e signals)) (by
  refine Nat.le_trans (Nat.mul_le_mul (Nat.le_trans hJl hbl) hp) (by decide))
 have hJ:=zso (zex m zs ss (x0::r') len k e signals) (by omega) hok;have hbar:-4000000000000<=zfx len e/\zfx len e<=4000000000000:=by unfold zfx;omega
 have hly:ziO m (x0::r') (zfx len e):=⟨h,hl8,hon,hbar⟩;have how:=zij m k.ego len hr2 k.blobs;have hvo:=ztK k.ego len (x0::r') k.blobs hvb;generalize zkr m e len (x0::r') (zcz (zex m zs ss (x0::r') len k e signals))=out at *;generalize zcz (zex m zs ss (x0::r') len k e signals)=jn at *;unfold zex at hJ hbl;unfold zfV at hsw ⊢;generalize zkr m k.ego len (x0::r') k.blobs=ow at *;have h3:=zwe hf hly len hn e k he ow hvo (by omega) signals ow 0 [] [] rfl (Nat.zero_le _) (by simp) (by simp);have hTg:∀(i:Nat) (hi:i<(srT m).length),(srT m)[i]=decide (zes (i:Int) 0 m.lanes=[]):=zBi m;have h4:=zwd h x0 r' len (zfx len e) e k (zhM m zs ss (x0::r') (zfx len e) e.slo len k signals ow) (srT m) (zxq m) hTg m.lanes 0 (zgt m zs ss (x0::r') (zfx len e) e.slo len k signals ow) rfl (Nat.zero_le _) (by have:=h.small.lanes;rw[List.length_append]at hbl;omega);have e0:(x0::r').getD 0 0=x0:=rfl;rw[e0]at hJ hbl;generalize zgt m zs ss (x0::r') (zfx len e) e.slo len k signals ow++(zbK m 0 m.lanes).flatMap (zfb m x0 (zfx len e))=bl at *;generalize hSA:zgt m zs ss (x0::r') (zfx len e) e.slo len k signals ow=sa at *;generalize zhM m zs ss (x0::r') (zfx len e) e.slo len k signals ow=sw at *;have w1:IntKind.i64.wrap (e.shi-len)=e.shi-len:=zl _ (by omega) (by omega);have w2:IntKind.i64.wrap (e.shi-len-1)=e.shi-len-1:=zl _ (by omega) (by omega);have w3:IntKind.i64.wrap (k.tick+1)=k.tick+1:=zl _ (by omega) (by omega);simp only[zfx,zh,zi,zch,zm,zG,List.cons_append,List.nil_append,zaP]at hD hO1 hO2 h3 h4;simp only[s3E,s4E,stM,bsC,swW,zdQ,own,zfx,zaP,zox,List.nil_append,zh,zi,zch,zm,zG,List.cons_append,List.nil_append,Int.natCast_zero,zmB,zgg,List.length_nil,zic,zoB]at h3 h4;by_cases c:sw=[]
 ·subst c;have hS:=zvU 0;have hC:R L Cs zeD [.c (.slice 0 0 4 0 0 none)] [swB 0 []]=some (.w (.c (.slice 0 0 4 0 0 none)),[swB 0 []]):=by
   rw[z4 zcq rfl];simp[zbk,zg]
  have e3:zlg []=[]:=List.length_eq_zero_iff.1 (by rw[zhh];rfl);have e2:zhp (zlg [])=[]:=by rw[e3];rfl
  simp only[swB,swS,List.length_nil,zoB]at hS hC h4;rw[e2,z4 zhx rfl];simp (maxSteps:=3000000) [zcT,zh,zi,zch,zm,zG,hD,hO1,hO2,h3,h4,hJ,hS,hC,w1,w2,w3,zg,zX]
 ·have hS:=zB0 sw (by omega) c sw.length;obtain⟨C,v',c1,c2,c3,c4,c5,hC⟩:=zrS (zlg sw) (by rw[zhh];omega) (sw.length+1);rw[zhh]at c1 c5;simp only[swB,swS,zhh,c1]at hS hC;have c2':=congrArg zbf c2;rw[<-zwp]at c2';generalize zhp (zlg sw)=q at *;rw[z4 zhx rfl];have hql:q.length<=sw.length:=c5;have hqC:q.length<=C.length:=by rw[c1];exact c5
  by_cases qv:v'=sw.length+1
  ·have eC:=c4 qv;subst eC;subst qv;simp (maxSteps:=3000000) [zcT,zh,zi,zch,zm,zG,hD,hO1,hO2,h3,h4,hJ,hS,hC,w1,w2,w3,zg,zhh,hql,zX,c2',c5]
  ·simp (maxSteps:=3000000) [zcT,zh,zi,zch,zm,zG,hD,hO1,hO2,h3,h4,hJ,hS,hC,w1,w2,w3,zg,qv,hqC,zX,c2',c5]
def zm6(m:zD)(r:List Int)(len:Int)(k:zci)(act:Int):Int :=
 if zdf m k=0 then(if zdA m r=0 then(if(300<=len/\len<=20000)/\k.tick≠1099511627776/\(zaN m r k.ego act).shi<=1099511627776 then 0 else 2) else 13) else zdf m k
def zsH(m:zD)(zs:List Zon)(ss:List Sgn)(r:List Int)(len:Int)(k:zci)(act:Int)(signals:Bool):AV :=
 if zm6 m r len k act=0 then .t [.a (zG (zpg m zs ss r len k (zaN m r k.ego act) signals)),.c (.rslice (zbf (zhp (zlg (zfV m zs ss r len k (zaN m r k.ego act) signals))))),W 0]
 else .t [.a (zG ⟨0,[],⟨0,0,0,0⟩⟩),.c (.rslice []),W (zm6 m r len k act)]
theorem zte{m:zD}{k:zci}(h:zdf m k=0):znd k.ego/\0<=k.tick/\k.tick<=1099511627776:=by
 unfold zdf at h;split at h
 ·cases h
 ·rename_i ho;unfold ziI zsa at ho;exact⟨⟨by omega,by omega⟩,by omega,by omega⟩
theorem zvN{m:zD}{zs:List Zon}{ss:List Sgn}(hf:zmq m zs ss)(r:List Int)(hl:r.length<=1000)(len:Int)(k:zci)(hk:k.blobs.length<=100000000000)(act:Int)(ha:zk0 act)(signals:Bool) :
  R L Cs zuc [.a (zf m),.c (.rslice (zu r)),W len,.a (zG k),W act,Bo signals] []=some (zsH m zs ss r len k act signals,[]):=by
 have h:=hf.good;have h2:=zuu h k (by omega);have h3:=zos m h.small h.chk r hl;have h4:=zCY len;unfold zsH;rw[z4 zuA rfl];by_cases c1:zdf m k=0
 ·by_cases c2:zdA m r=0
  ·obtain⟨he,ht⟩:=zte c1;have hA:=zB9 h c2 len;obtain⟨hon,hne,hl8⟩:=zg1 h c2;have hD:R L Cs zgW [.a (zh m r len),.a (zch k.ego),W act] []=some (.w (.a (zch (zaN m r k.ego act))),[]):=by
    cases r with
    |nil=>exact absurd rfl hne
    |cons x r'=>exact zvQ h x r' len (hon x (List.mem_cons_self ..)) k.ego he act ha
   have hS:=fun hn=>zux hf c2 len hn k (zvx h hf.shal c1) ⟨ht.1,by omega⟩ he (zxJ h c1) act ha signals
   rw[c1]at h2;rw[c2]at h3;simp only[zm6,c1,c2,if_true];generalize zpg m zs ss r len k (zaN m r k.ego act) signals=out at *;generalize zhp (zlg (zfV m zs ss r len k (zaN m r k.ego act) signals))=sw at *;generalize zaN m r k.ego act=e at *;simp only[zf,zG,zch,zh,zi]at h2 h3 hA hD hS;by_cases c3:300<=len
   ·by_cases c4:len<=20000
    ·by_cases c5:k.tick=1099511627776
     ·have c5t:(k.tick==1099511627776)=true:=by simp[c5]
      have c5e:(k.tick=1099511627776)=True:=eq_true c5;simp (maxSteps:=1000000) [zdi,zf,zG,zch,zh,zi,h2,h3,h4,hA,hD,c3,c4,c5t,c5e,zg,zX]
     ·have c5':(k.tick==1099511627776)=false:=by simp[c5]
      by_cases c6:e.shi<=1099511627776
      ·have hS':=hS ⟨by omega,c4⟩;have c6':¬1099511627776<e.shi:=by omega
       simp (maxSteps:=1000000) [zdi,zf,zG,zch,zh,zi,h2,h3,h4,hA,hD,hS',c3,c4,c5,c5',c6,c6',zg,zX]
      ·have c6':1099511627776<e.shi:=by omega
       simp (maxSteps:=1000000) [zdi,zf,zG,zch,zh,zi,h2,h3,h4,hA,hD,c3,c4,c5,c5',c6,c6',zg,zX]
    ·simp (maxSteps:=1000000) [zdi,zf,zG,zch,zh,zi,h2,h3,h4,hA,c3,c4,zg,zX]
   ·simp (maxSteps:=1000000) [zdi,zf,zG,zch,zh,zi,h2,h3,h4,hA,c3,zg,zX]
  ·have b2:(zdA m r==0)=false:=by simp[c2]
   rw[c1]at h2;simp only[zm6,c1,c2,if_true,if_false];simp only[zf,zG]at h2 h3;simp[zdi,zf,zG,h2,h3,c2,b2,zg,zX]
 ·have b1:(zdf m k==0)=false:=by simp[c1]
  simp only[zm6,c1,if_false];simp only[zf,zG]at h2;simp[zdi,zf,zG,h2,c1,b1,zg,zX]
abbrev zzK(k:zci)(e:Ego):List Cl:=[I (k.tick+1),.nilslice,I e.slo,I e.shi,I e.vlo,I e.vhi]
abbrev goM(m:zD)(r:List Int)(bar:Int)(e:Ego)(k:zci)(bs:List zk)(sw:List Swp):Mem:=[bx 5 (zf m),bx 6 (zG k),bx 6 zox,gb 4,bxv 1 6 (zzK k e),bxv 1 12 (zT m r bar e),some (own 6 (zI bs)),zdQ sw]
abbrev zwW(m:zD)(r:List Int)(bar:Int)(e:Ego)(k:zci)(bs:List zk)(sw:List Swp)(x:zk):Mem:=[bx 5 (zf m),bx 6 (zG k),bx 6 zox,gb 4,bxv 1 6 (zzK k e),bxv 1 12 (zT m r bar e),some (own 6 (zI bs)),zdQ sw,bxv 1 6 (ze x)]
abbrev g1E(r:List Int)(len:Int)(src:List Int)(ow bs:List zk)(sw:List Swp)(i:Nat)(signals gap behind:Bool)(ls:List LB)(j:Nat):Env:=[(19,.w (bsC 6 bs)),(29,.w (W j)),(23,.w (W i)),(1,.w (.c (.rslice (zu r)))),(14,.w (Pt 4)),(12,.w (Pt 2)),(5,.w (Bo signals)),(21,.w (.c (.rslice (zu src)))),(6,.w (Pt 0)),(22,.w (.c (.rslice (zI ow)))),(17,.w (Pt 5)),(2,.w (W len)),(9,.w (Pt 1)),(18,.w (Bo gap)),(20,.w (swW 7 sw)),(24,.w (Pt 8)),(27,.w (Bo behind)),(28,.w (.c (.rslice (zdz ls))))]
theorem zAq(m:zD)(r:List Int)(len bar:Int)(src:List Int)(e:Ego)(k:zci)(sw:List Swp)(x:zk)(ow:List zk)(i:Nat)(signals gap behind:Bool)(ls:List LB)(hls:ls.length<=100):∀(t:List LB) (j:Nat) (bs:List zk),ls.drop j=t->j<=ls.length->bs.length+t.length<=100000000000 ->
  Y L Cs zdp (some [19,29,23,1,14,12,5,21,6,22,17,2,9,18,20,24,27,28]) 9 (g1E r len src ow bs sw i signals gap behind ls j) (zwW m r bar e k bs sw x) =
    some (.exit 2,(153,.w (Bo false))::g1E r len src ow (bs++t.map Prod.fst) sw i signals gap behind ls ls.length,zwW m r bar e k (bs++t.map Prod.fst) sw x):=by
 intro t;induction t with
 |nil =>
  intro j bs hd hj hb;obtain rfl:=z5 hd hj;rw[zj zdp.eq_1];simp
 |cons z t ih =>
  intro j bs hd hj hb;obtain⟨hjl,hz,hd'⟩:=zL hd;have hw:=zB (i:=j) (by omega);simp only[List.length_cons]at hb;have hroom:(bs.length+1)*48<=140737488355328:=by omega
  have h:=ih (j+1) (bs++[z.1]) hd' (by omega) (by simp;omega);have e1:bs++List.map Prod.fst (z::t)=bs++[z.1]++List.map Prod.fst t:=by simp
  rw[e1,<-h,zj zdp.eq_1];simp[g1E,zwW,bsC,swW,zdQ,own,zf,zG,zT,ze,hjl,hz,hw,lbC,hroom,zg]
abbrev g2E(r:List Int)(len:Int)(src:List Int)(ow bs:List zk)(sw:List Swp)(i:Nat)(signals gap:Bool)(ls:List LB)(j:Nat):Env:=[(20,.w (swW 7 sw)),(30,.w (W j)),(18,.w (Bo gap)),(9,.w (Pt 1)),(2,.w (W len)),(19,.w (bsC 6 bs)),(17,.w (Pt 5)),(22,.w (.c (.rslice (zI ow)))),(6,.w (Pt 0)),(21,.w (.c (.rslice (zu src)))),(5,.w (Bo signals)),(12,.w (Pt 2)),(14,.w (Pt 4)),(1,.w (.c (.rslice (zu r)))),(23,.w (W i)),(28,.w (.c (.rslice (zdz ls))))]
theorem zAp(m:zD)(r:List Int)(len bar:Int)(src:List Int)(e:Ego)(k:zci)(bs:List zk)(x:zk)(ow:List zk)(i:Nat)(signals gap:Bool)(ls:List LB)(hls:ls.length<=100):∀(t:List LB) (j:Nat) (sw:List Swp),ls.drop j=t->j<=ls.length->sw.length+t.length<=100000000000 ->
  Y L Cs zdo (some [20,30,18,9,2,19,17,22,6,21,5,12,14,1,23,28]) 9 (g2E r len src ow bs sw i signals gap ls j) (zwW m r bar e k bs sw x) =
    some (.exit 4,(180,.w (Bo false))::g2E r len src ow bs (sw++t.map zlJ) i signals gap ls ls.length,zwW m r bar e k bs (sw++t.map zlJ) x):=by
 intro t;induction t with
 |nil =>
  intro j sw hd hj hb;obtain rfl:=z5 hd hj;rw[zj zdo.eq_1];simp
 |cons z t ih =>
  intro j sw hd hj hb;obtain⟨hjl,hz,hd'⟩:=zL hd;have hw:=zB (i:=j) (by omega);simp only[List.length_cons]at hb;have hroom:(sw.length+1)*32<=140737488355328:=by omega
  have h:=ih (j+1) (sw++[zlJ z]) hd' (by omega) (by simp;omega);have e1:sw++List.map zlJ (z::t)=sw++[zlJ z]++List.map zlJ t:=by simp
  rw[e1,<-h,zj zdo.eq_1];simp[g2E,zwW,bsC,swW,zdQ,own,zf,zG,zT,ze,hjl,hz,hw,lbC,swC,hroom,zg]
theorem zyS(l:List Int)(x:Int)(hl:l.length<=100000000000):∀(r:List Int) (i:Nat),l.drop i=r->i<=l.length ->
  (x∉r->Y L Cs zaS (some [0,1,5]) 0 [(0,.w (.c (.rslice (zu l)))),(1,.w (W x)),(5,.w (W i))] []=some (.exit 0,[(9,.w (Bo false)),(1,.w (W x)),(0,.w (.c (.rslice (zu l)))),(5,.w (W l.length))],[])) /\
  (x∈r->Y L Cs zaS (some [0,1,5]) 0 [(0,.w (.c (.rslice (zu l)))),(1,.w (W x)),(5,.w (W i))] []=some (.ret,[(4,.w (Bo true))],[])):=by
 intro r;induction r with
 |nil =>
  intro i hd hi;obtain rfl:=z5 hd hi;refine⟨fun _=>zhJ ?_ (by simp),fun h=>by simp at h⟩;simp[zaS]
 |cons y r ih =>
  intro i hd hi;obtain⟨hil,hy,hd'⟩:=zL hd;obtain⟨ih1,ih2⟩:=ih (i+1) hd' hil;have hw:=zB (i:=i) (by omega);by_cases hxy:y=x
  ·refine⟨fun h=>by simp[hxy]at h,fun _=>zhJ ?_ (by simp)⟩;have hb:(y==x)=true:=by simp[hxy]
   simp[zaS,hil,hy,hb]
  ·have hb:(y==x)=false:=by simp[hxy]
   have hstep:Y L Cs zaS (some [0,1,5]) 0 [(0,.w (.c (.rslice (zu l)))),(1,.w (W x)),(5,.w (W i))] []=Y L Cs zaS (some [0,1,5]) 0 [(0,.w (.c (.rslice (zu l)))),(1,.w (W x)),(5,.w (W (i+1:Nat)))] []:=by
    rw[zrL];simp[zaS,hil,hy,hb,hw]
   rw[hstep];refine⟨fun h=>ih1 (fun h'=>h (List.mem_cons_of_mem _ h')),fun h=>ih2 ?_⟩;rcases List.mem_cons.1 h with h|h
   ·exact absurd h.symm hxy
   ·exact h
theorem zCV(l:List Int)(x:Int)(hl:l.length<=100000000000):R L Cs zl9 [.c (.rslice (zu l)),W x] []=some (.w (Bo (decide (x∈l))),[]):=by
 obtain⟨h1,h2⟩:=zyS l x hl l 0 rfl (Nat.zero_le _);simp only[Int.natCast_zero]at h1 h2;rw[z4 zms rfl];by_cases h:x∈l
 ·simp[zdX,h2 h,h]
 ·simp[zdX,h1 h,h]abbrev g3E (r:List Int) (len:Int) (src:List Int) (ow bs:List zk) (sw:List Swp) (i:Nat) (signals gap:Bool):Env:=[(23,.w (W i)),(1,.w (.c (.rslice (zu r)))),(14,.w (Pt 4)),(12,.w (Pt 2)),(5,.w (Bo signals)),(21,.w (.c (.rslice (zu src)))),(6,.w (Pt 0)),(22,.w (.c (.rslice (zI ow)))),(17,.w (Pt 5)),(20,.w (swW 7 sw)),(19,.w (bsC 6 bs)),(2,.w (W len)),(9,.w (Pt 1)),(18,.w (Bo gap))]
theorem zBJ{m:zD}{zs:List Zon}{ss:List Sgn}(hf:zmq m zs ss){r:List Int}{bar:Int}(h:ziO m r bar)(len:Int)(hn:0<=len/\len<=20000)(e:Ego)(k:zci)(he:znd k.ego)(ow:List zk)(signals:Bool)(i:Nat)(hi:i<ow.length)(hi2:i<100000000000)(hb:VB m ow[i])(bs:List zk)(sw:List Swp)(hbs:bs.length<=99000000000)(hsw:sw.length<=99000000000) :
  Y L Cs zas (some [23,1,14,12,5,21,6,22,17,20,19,2,9,18]) 8 (g3E r len (zbK m 0 m.lanes) ow bs sw i signals (decide (k.ego.shi-len<=k.ego.slo))) (goM m r bar e k bs sw) =
    Y L Cs zas (some [23,1,14,12,5,21,6,22,17,20,19,2,9,18]) 8 (g3E r len (zbK m 0 m.lanes) ow (bs++(zm8 m zs ss r bar e.slo len k signals ow[i]).map Prod.fst) (sw++(zn0 m zs ss r bar e.slo len k signals ow[i]).map zlJ) (i+1) signals (decide (k.ego.shi-len<=k.ego.slo))) (goM m r bar e k (bs++(zm8 m zs ss r bar e.slo len k signals ow[i]).map Prod.fst) (sw++(zn0 m zs ss r bar e.slo len k signals ow[i]).map zlJ)):=by
 have hw:=zB (i:=i) (by omega);have hs:=hf.shal;have hmv:R L Cs zgA [.a (zf m),.a (ze ow[i]),W k.tick,Bo signals,Bo (decide (ow[i].lane∈zbK m 0 m.lanes))] []=some (.t [.a (ze (mvF m zs ss k signals ow[i])),Bo (decide ((mvF m zs ss k signals ow[i]).lo<=(mvF m zs ss k signals ow[i]).hi))],[]):=zAS hf ow[i] hb k.tick signals _;have hhas:=zCV (zbK m 0 m.lanes) ow[i].lane (by have:=zlK m m.lanes 0;have:=h.good.small.lanes;omega);have hbd:=zwE h.good zs ss k signals hb;have hix:=zCk m r bar e ow[i].lane (by have:=h.len;omega);have hbl:=hb.lane;have hpos:=(zqQ h.good hb).pos;have hlo:=hb.lo;have hhi:=hb.le;have hes:=he.s;generalize hbe:ow[i]=b at *;unfold zm8 zn0;generalize hmm:mvF m zs ss k signals b=mv at *;generalize decide (b.lane∈zbK m 0 m.lanes)=isS at *;generalize zbK m 0 m.lanes=src at *;have hml:0<=mv.lane/\mv.lane<m.lanes.length:=by rw[hbd.1];exact hbl
 have hla:=zAR h hs e mv hml mv.lo mv.hi (by omega) (by omega) (zfP m r len k b);have hlb:=zAR h hs e mv hml b.lo mv.hi (by omega) (by omega) (zfP m r len k b);have hA:=zjI hs r bar e.slo mv mv.lo mv.hi (zfP m r len k b);have hB:=zjI hs r bar e.slo mv b.lo mv.hi (zfP m r len k b);generalize zlZ m r bar e.slo mv mv.lo mv.hi (zfP m r len k b)=la at *;generalize zlZ m r bar e.slo mv b.lo mv.hi (zfP m r len k b)=lb at *;have h1:=zAq m r len bar src e k sw mv ow i signals (decide (k.ego.shi-len<=k.ego.slo)) (zfP m r len k b) la (by omega) la 0 bs rfl (Nat.zero_le _) (by omega);have h2:=zAp m r len bar src e k (bs++la.map Prod.fst) mv ow i signals (decide (k.ego.shi-len<=k.ego.slo)) lb (by omega) lb 0 sw rfl (Nat.zero_le _) (by omega);have w1:IntKind.i64.wrap (k.ego.shi-len)=k.ego.shi-len:=zl _ (by omega) (by omega);simp only[zf,zT,ze,zG,List.cons_append,List.nil_append]at hmv hix hla hlb;simp only[g1E,g2E,zwW,bsC,swW,zdQ,own,zf,zT,ze,zG,List.cons_append,List.nil_append,Int.natCast_zero,znQ,List.length_append,List.length_map,zgg,zmB,zsU]at h1 h2;by_cases c:mv.lo<=mv.hi
 ·rw[if_pos c,if_pos c];have c':decide (mv.lo<=mv.hi)=true:=by simpa using c
  rw[c']at hmv;cases hL:zgo r b.lane with
  |none =>
   have hbeh:zfP m r len k b=false:=by simp[zfP,hL]
   rw[hL]at hix;simp only[zbe]at hix;rw[hbeh]at hla hlb h1;rw[zj zas.eq_1];by_cases g:k.ego.shi-len<=k.ego.slo
   ·simp only[g,decide_true]at h1 h2 ⊢;simp[g3E,goM,bsC,swW,zdQ,own,zf,zT,ze,zG,hi,hbe,hw,hmv,hhas,hix,hla,hlb,h1,h2,zg]
   ·simp only[g,decide_false]at h1 h2 ⊢;simp[g3E,goM,bsC,swW,zdQ,own,zf,zT,ze,zG,hi,hbe,hw,hmv,hhas,hix,hla,hlb,h1,h2,zg]
  |some j =>
   obtain⟨hjl,_⟩:=zfT hL;have hsl:j<(zW m 0 r).length:=by rw[zcO];exact hjl
   have hsi:(zW m 0 r)[j]=zb4 m r j:=by simp[zb4,hsl]
   have hsb:=zmA h hjl;have w2:IntKind.i64.wrap (zb4 m r j+b.hi)=zb4 m r j+b.hi:=zl _ (by omega) (by omega);have hj0:(0:Int)<=(j:Int):=by omega
   rw[hL]at hix;simp only[zbe]at hix;by_cases g:k.ego.shi-len<=k.ego.slo
   ·by_cases d:zb4 m r j+b.hi<k.ego.shi-len
    ·have hbeh:zfP m r len k b=true:=by simp[zfP,hL,g,d]
     rw[hbeh]at hla hlb h1;rw[zj zas.eq_1];simp only[g,decide_true]at h1 h2 ⊢;simp[g3E,goM,bsC,swW,zdQ,own,zf,zT,ze,zG,hi,hbe,hw,hmv,hhas,hix,hla,hlb,h1,h2,zg,hsl,hsi,w1,w2,d,hj0]
    ·have hbeh:zfP m r len k b=false:=by simp[zfP,hL,d]
     rw[hbeh]at hla hlb h1;rw[zj zas.eq_1];simp only[g,decide_true]at h1 h2 ⊢;simp[g3E,goM,bsC,swW,zdQ,own,zf,zT,ze,zG,hi,hbe,hw,hmv,hhas,hix,hla,hlb,h1,h2,zg,hsl,hsi,w1,w2,d,hj0]
   ·have hbeh:zfP m r len k b=false:=by simp[zfP,hL,g]
    rw[hbeh]at hla hlb h1;rw[zj zas.eq_1];simp only[g,decide_false]at h1 h2 ⊢;simp[g3E,goM,bsC,swW,zdQ,own,zf,zT,ze,zG,hi,hbe,hw,hmv,hhas,hix,hla,hlb,h1,h2,zg,hsl,hsi,w1,w2,hj0]
 ·rw[if_neg c,if_neg c];have c':decide (mv.lo<=mv.hi)=false:=by simpa using c
  rw[c']at hmv;rw[zj zas.eq_1];simp[g3E,goM,bsC,swW,zdQ,own,zf,zT,ze,zG,hi,hbe,hw,hmv,hhas,zg]
theorem zt7{m:zD}{zs:List Zon}{ss:List Sgn}(hf:zmq m zs ss){r:List Int}{bar:Int}(h:ziO m r bar)(len:Int)(hn:0<=len/\len<=20000)(e:Ego)(k:zci)(he:znd k.ego)(ow:List zk)(hvb:∀b∈ow,VB m b)(how:ow.length<=800000000)(signals:Bool):∀(t:List zk) (i:Nat) (bs:List zk) (sw:List Swp),ow.drop i=t->i<=ow.length->bs.length<=3*i->sw.length<=3*i ->
  Y L Cs zas (some [23,1,14,12,5,21,6,22,17,20,19,2,9,18]) 8 (g3E r len (zbK m 0 m.lanes) ow bs sw i signals (decide (k.ego.shi-len<=k.ego.slo))) (goM m r bar e k bs sw) =
    some (.exit 0,(85,.w (Bo false))::g3E r len (zbK m 0 m.lanes) ow (bs++zgt m zs ss r bar e.slo len k signals t) (sw++zhM m zs ss r bar e.slo len k signals t) ow.length signals (decide (k.ego.shi-len<=k.ego.slo)),goM m r bar e k (bs++zgt m zs ss r bar e.slo len k signals t) (sw++zhM m zs ss r bar e.slo len k signals t)):=by
 intro t;induction t with
 |nil =>
  intro i bs sw hd hi h1 h2;obtain rfl:=z5 hd hi;rw[zj zas.eq_1];simp[zgt,zhM]
 |cons b t ih =>
  intro i bs sw hd hi h1 h2;obtain⟨hil,hb,hd'⟩:=zL hd;have l1:=zoO hf.shal zs ss r bar e.slo len k signals b;have l2:=zoN hf.shal zs ss r bar e.slo len k signals b;rw[zBJ hf h len hn e k he ow signals i hil (by omega) (hvb _ (List.getElem_mem hil)) bs sw (by omega) (by omega),hb,ih (i+1) _ _ hd' (by omega) (by simp;omega) (by simp;omega)];simp[zgt,zhM]
abbrev g4E(r:List Int)(len:Int)(src:List Int)(bs:List zk)(sw:List Swp)(i:Nat):Env:=[(19,.w (bsC 6 bs)),(31,.w (W i)),(12,.w (Pt 2)),(14,.w (Pt 4)),(20,.w (swW 7 sw)),(2,.w (W len)),(6,.w (Pt 0)),(1,.w (.c (.rslice (zu r)))),(17,.w (Pt 5)),(21,.w (.c (.rslice (zu src))))]
theorem zt6{m:zD}(h:zcp m)(x0:Int)(r:List Int)(len bar:Int)(e:Ego)(k:zci)(sw:List Swp)(src:List Int)(hsrc:∀x∈src,0<=x/\x<m.lanes.length)(hsl:src.length<=1000):∀(t:List Int) (i:Nat) (bs:List zk),src.drop i=t->i<=src.length->bs.length+t.length<=100000000000 ->
  Y L Cs zbR (some [19,31,12,14,20,2,6,1,17,21]) 8 (g4E (x0::r) len src bs sw i) (goM m (x0::r) bar e k bs sw) =
    some (.exit 6,(213,.w (Bo false))::g4E (x0::r) len src (bs++t.flatMap (zfb m x0 bar)) sw src.length,goM m (x0::r) bar e k (bs++t.flatMap (zfb m x0 bar)) sw):=by
 intro t;induction t with
 |nil =>
  intro i bs hd hi hb;obtain rfl:=z5 hd hi;rw[zj zbR.eq_1];simp
 |cons x t ih =>
  intro i bs hd hi hb;obtain⟨hil,hx,hd'⟩:=zL hd;simp only[List.length_cons]at hb;have hw:=zB (i:=i) (by omega);have hxm:=hsrc x (by rw[<-hx];exact List.getElem_mem _);obtain⟨n,rfl⟩:=Int.eq_ofNat_of_zero_le hxm.1;have hn:n<m.lanes.length:=by omega
  have hB:=zhv (h.kind _ (List.getElem_mem hn));have ek:zaK m n=m.lanes[n].kind:=by simp[zaK,hn]
  have hroom:(bs.length+1)*48<=140737488355328:=by omega
  rw[List.flatMap_cons];by_cases c1:(n:Int)=x0
  ·subst c1;by_cases c2:0<=bar
   ·have hs:zfb m n bar n=[⟨n,0,0,0,zeR m.lanes[n].kind,0⟩]:=by simp[zfb,zqn,c2,ek]
    have:=ih (i+1) (bs++[⟨n,0,0,0,zeR m.lanes[n].kind,0⟩]) hd' (by omega) (by simp;omega);rw[hs,<-List.append_assoc,<-this,zj zbR.eq_1];simp[g4E,goM,bsC,swW,zdQ,own,zf,zT,zG,zo,ze,hil,hx,hn,hB,hw,c2,hroom,zg]
   ·have hs:zfb m n bar n=[]:=by simp[zfb,zqn,c2]
    have:=ih (i+1) bs hd' (by omega) (by omega);rw[hs,List.nil_append,<-this,zj zbR.eq_1];simp[g4E,goM,bsC,swW,zdQ,own,zf,zT,zG,zo,ze,hil,hx,hn,hB,hw,c2,hroom,zg]
  ·have hs:zfb m x0 bar n=[⟨n,0,0,0,zeR m.lanes[n].kind,0⟩]:=by simp[zfb,zqn,c1,ek]
   have c1':((n:Int)==x0)=false:=by simp[c1]
   have c1'':((n:Int) !=x0)=true:=by simp[c1]
   have:=ih (i+1) (bs++[⟨n,0,0,0,zeR m.lanes[n].kind,0⟩]) hd' (by omega) (by simp;omega);rw[hs,<-List.append_assoc,<-this,zj zbR.eq_1];simp[g4E,goM,bsC,swW,zdQ,own,zf,zT,zG,zo,ze,hil,hx,hn,hB,hw,c1',c1'',hroom,zg]
theorem zDw{m:zD}{zs:List Zon}{ss:List Sgn}(hf:zmq m zs ss){r:List Int}(hr:zdA m r=0)(len:Int)(hn:0<=len/\len<=20000)(k:zci)(hk:k.blobs.length<=200000000)(ht:0<=k.tick/\k.tick<=1099511628776)(he:znd k.ego)(hvb:∀b∈k.blobs,VB m b)(act:Int)(ha:zk0 act)(signals:Bool) :
  R L Cs zmS [.a (zf m),.c (.rslice (zu r)),W len,.a (zG k),W act,Bo signals] []=some (.t [.a (zG (zpg m zs ss r len k (zaN m r k.ego act) signals)),.c (.rslice (zbf (zhp (zlg (zfV m zs ss r len k (zaN m r k.ego act) signals)))))],[]):=by
 have h:=hf.good;obtain⟨hon,hne,hl8⟩:=zg1 h hr;have hr2:=zlP hf.shal hr;obtain⟨x0,r',rfl⟩:∃x r',r=x::r':=by cases r with|nil=>exact absurd rfl hne|cons x r'=>exact⟨x,r',rfl⟩
 have hx0:=hon x0 (List.mem_cons_self ..);have hD:=zvP h x0 r' hx0 k.ego he act ha;have hBg:=zvX h (by omega) hon;have hOr:=zzc h;have s1:=zge h r' hx0 act k.ego.vlo;have s2:=zge h r' hx0 act k.ego.vhi;have hes:=he.s;have hbl:=zne hf.shal zs ss hr2 len k (zaN m (x0::r') k.ego act) signals hk;have hok:=zsI h zs ss (x0::r') len k (zaN m (x0::r') k.ego act) signals hvb;have hb1:0<=(zaN m (x0::r') k.ego act).slo/\(zaN m (x0::r') k.ego act).slo<=1099511630000/\0<=(zaN m (x0::r') k.ego act).shi/\(zaN m (x0::r') k.ego act).shi<=1099511630000:=by
  simp only[zaN];omega
 have hsw:(zfV m zs ss (x0::r') len k (zaN m (x0::r') k.ego act) signals).length<=2400000100:=by
  have h1:=zoA hf.shal zs ss (x0::r') (zfx len (zaN m (x0::r') k.ego act)) (zaN m (x0::r') k.ego act).slo len k signals (zkr m k.ego len (x0::r') k.blobs);have h2:=zij m k.ego len hr2 k.blobs;unfold zfV;omega
 rw[zxX];unfold zpg;generalize zaN m (x0::r') k.ego act=e at *;have hp:2 ^ (x0::r').length<=4:=Nat.pow_le_pow_right (by decide) hr2;have hO1:=zxN h (x0::r') hl8 hon len k.ego (by omega) hn k.blobs (by
  refine Nat.le_trans (Nat.mul_le_mul hk hp) (by decide))
 have hJl:=zkq (zex m zs ss (x0::r') len k e signals);have hO2:=zxN h (x0::r') hl8 hon len e (by omega) hn (zcz (zex m zs ss (x0::r') len k e signals)) (by
  refine Nat.le_trans (Nat.mul_le_mul (Nat.le_trans hJl hbl) hp) (by decide))
 have hJ:=zy7 (zex m zs ss (x0::r') len k e signals) (by omega) hok;have hSo:=zAO (zfV m zs ss (x0::r') len k e signals) (by omega);have hbar:-4000000000000<=zfx len e/\zfx len e<=4000000000000:=by unfold zfx;omega
 have hly:ziO m (x0::r') (zfx len e):=⟨h,hl8,hon,hbar⟩;have how:=zij m k.ego len hr2 k.blobs;have hvo:=ztK k.ego len (x0::r') k.blobs hvb;generalize zkr m e len (x0::r') (zcz (zex m zs ss (x0::r') len k e signals))=out at *;generalize zcz (zex m zs ss (x0::r') len k e signals)=jn at *;unfold zex at hJ hbl;unfold zfV at hsw hSo ⊢;generalize zkr m k.ego len (x0::r') k.blobs=ow at *;have h3:=zt7 hf hly len hn e k he ow hvo (by omega) signals ow 0 [] [] rfl (Nat.zero_le _) (by simp) (by simp);have hsl:=zlK m m.lanes 0;have hfew:=hf.shal.few;have h4:=zt6 h x0 r' len (zfx len e) e k (zhM m zs ss (x0::r') (zfx len e) e.slo len k signals ow) (zbK m 0 m.lanes) (zp8 m m.lanes 0 (by omega)) (by omega) (zbK m 0 m.lanes) 0 (zgt m zs ss (x0::r') (zfx len e) e.slo len k signals ow) rfl (Nat.zero_le _) (by rw[List.length_append]at hbl;omega);have e0:(x0::r').getD 0 0=x0:=rfl;rw[e0]at hJ hbl;generalize zgt m zs ss (x0::r') (zfx len e) e.slo len k signals ow++(zbK m 0 m.lanes).flatMap (zfb m x0 (zfx len e))=bl at *;generalize hSA:zgt m zs ss (x0::r') (zfx len e) e.slo len k signals ow=sa at *;generalize zhM m zs ss (x0::r') (zfx len e) e.slo len k signals ow=sw at *;generalize sw.foldl zdM []=q at *;generalize zbK m 0 m.lanes=src at *;have w1:IntKind.i64.wrap (e.shi-len)=e.shi-len:=zl _ (by omega) (by omega);have w2:IntKind.i64.wrap (e.shi-len-1)=e.shi-len-1:=zl _ (by omega) (by omega);have w3:IntKind.i64.wrap (k.tick+1)=k.tick+1:=zl _ (by omega) (by omega);have w4:IntKind.i64.wrap (k.ego.shi-len)=k.ego.shi-len:=zl _ (by omega) (by omega);simp only[zf,zch,zG,List.cons_append,List.nil_append,zaP]at hD hO1 hO2 hBg hOr;simp only[g3E,g4E,goM,bsC,swW,zdQ,own,zfx,zaP,zox,zzK,zT,zf,zG,List.cons_append,List.nil_append,Int.natCast_zero,zmB,zgg,List.length_nil,zic,zoB]at h3 h4;rw[z4 zm3 rfl];simp (maxSteps:=3000000) [zfH,zf,zch,zG,hD,hO1,hO2,hBg,hOr,h3,h4,hJ,hSo,w1,w2,w3,w4,zg,zX]
theorem zy6{m:zD}{zs:List Zon}{ss:List Sgn}(hf:zmq m zs ss)(r:List Int)(hl:r.length<=1000)(len:Int)(k:zci)(hk:k.blobs.length<=100000000000)(hok:∀b∈k.blobs,OKB b)(act:Int)(ha:zk0 act)(signals:Bool) :
  R L Cs zlk [.a (zf m),.c (.rslice (zu r)),W len,.a (zG k),W act,Bo signals] []=some (zsH m zs ss r len k act signals,[]):=by
 have h:=hf.good;have h2:=zxh h k (by omega) hok;have h3:=zp0 m h.small h.rchk r hl;unfold zsH;rw[z4 zlA rfl];by_cases c1:zdf m k=0
 ·by_cases c2:zdA m r=0
  ·obtain⟨he,ht⟩:=zte c1;obtain⟨hon,hne,hl8⟩:=zg1 h c2;have hD:R L Cs zgB [.a (zf m),.c (.rslice (zu r)),.a (zch k.ego),W act] []=some (.w (.a (zch (zaN m r k.ego act))),[]):=by
    cases r with
    |nil=>exact absurd rfl hne
    |cons x r'=>exact zvP h x r' (hon x (List.mem_cons_self ..)) k.ego he act ha
   have hS:=fun hn=>zDw hf c2 len hn k (zvx h hf.shal c1) ⟨ht.1,by omega⟩ he (zxJ h c1) act ha signals
   rw[c1]at h2;rw[c2]at h3;simp only[zm6,c1,c2,if_true];generalize zpg m zs ss r len k (zaN m r k.ego act) signals=out at *;generalize zhp (zlg (zfV m zs ss r len k (zaN m r k.ego act) signals))=sw at *;generalize zaN m r k.ego act=e at *;simp only[zf,zG,zch]at h2 h3 hD hS;by_cases c3:300<=len
   ·have c3':¬len<300:=by omega
    by_cases c4:len<=20000
    ·have c4':¬20000<len:=by omega
     by_cases c5:k.tick=1099511627776
     ·have c5t:(k.tick==1099511627776)=true:=by simp[c5]
      have c5e:(k.tick=1099511627776)=True:=eq_true c5;simp (maxSteps:=1000000) [zaR,zf,zG,zch,h2,h3,hD,c3,c4,c3',c4',c5t,c5e,zg,zX]
     ·have c5':(k.tick==1099511627776)=false:=by simp[c5]
      by_cases c6:e.shi<=1099511627776
      ·have hS':=hS ⟨by omega,c4⟩;have c6':¬1099511627776<e.shi:=by omega
       simp (maxSteps:=1000000) [zaR,zf,zG,zch,h2,h3,hD,hS',c3,c4,c3',c4',c5,c5',c6,c6',zg,zX]
      ·have c6':1099511627776<e.shi:=by omega
       simp (maxSteps:=1000000) [zaR,zf,zG,zch,h2,h3,hD,c3,c4,c3',c4',c5,c5',c6,c6',zg,zX]
    ·have c4':20000<len:=by omega
     simp (maxSteps:=1000000) [zaR,zf,zG,zch,h2,h3,c3,c4,c3',c4',zg,zX]
   ·have c3':len<300:=by omega
    simp (maxSteps:=1000000) [zaR,zf,zG,zch,h2,h3,c3,c3',zg,zX]
  ·have b2:(zdA m r==0)=false:=by simp[c2]
   rw[c1]at h2;simp only[zm6,c1,c2,if_true,if_false];simp only[zf,zG]at h2 h3;simp[zaR,zf,zG,h2,h3,c2,b2,zg,zX]
 ·have b1:(zdf m k==0)=false:=by simp[c1]
  simp only[zm6,c1,if_false];simp only[zf,zG]at h2;simp[zaR,zf,zG,h2,c1,b1,zg,zX]
def Apt(p b:zk):Prop:=p.lane<b.lane\/(p.lane=b.lane/\p.hi+1<b.lo)
theorem zFx{m:zD}{b:zk}(h:VB m b):¬out2 m b:=by
 have h1:=h.lo;have h2:=h.le;have h3:=h.hi;have h4:=h.vlo;have h5:=h.vle;have h6:=h.vhi;have h7:=h.hold;unfold out2;omega
theorem zFo{m:zD}(hg:zcp m){b:zk}(h:VB m b):OKB b:=by
 have h0:=zcX hg h.lane;have h1:=h.lo;have h2:=h.le;have h3:=h.hi;exact⟨by omega,by omega,by omega,by omega⟩
theorem zED{m:zD}:∀(l:List zk) (p:zk),(∀b∈l,VB m b)->l.Pairwise Apt->(∀b∈l,¬zmM p b)->zls m p l=0
 |[],_,_,_,_=>rfl
 |x::l,p,hv,ha,hp=>by
  rw[List.pairwise_cons]at ha;have hx:=hv x (List.mem_cons_self ..);have hl:=hx.lane;have h0:zer m p x=0:=by
   unfold zer;rw[if_neg (by omega),if_neg (zFx hx),if_neg (hp x (List.mem_cons_self ..))]
  unfold zls;rw[if_neg (by simp[h0])];refine zED l x (fun b hb=>hv b (List.mem_cons_of_mem _ hb)) ha.2 fun b hb=>?_
  have:=ha.1 b hb;unfold Apt at this;unfold zmM;omega
theorem zFt{m:zD}{a b:zk}(ha:VB m a)(hb:VB m b)(hl:a.lane=b.lane):VB m (glue a b):=by
 have a1:=ha.lo;have a2:=ha.le;have a3:=ha.hi;have a4:=ha.vlo;have a5:=ha.vle;have a6:=ha.vhi;have a7:=ha.hold;rw[hl]at a3 a6 a7;have b3:=hb.hi;have b4:=hb.vlo;have b5:=hb.vle;have b6:=hb.vhi;have b7:=hb.hold;refine⟨hb.lane,a1,?_,?_,?_,?_,?_,?_⟩
 ·show a.lo<=max a.hi b.hi;omega
 ·show max a.hi b.hi<=z8 m b.lane;omega
 ·show 0<=min a.vlo b.vlo;omega
 ·show min a.vlo b.vlo<=max a.vhi b.vhi;omega
 ·show max a.vhi b.vhi<=zeR (zaK m b.lane);omega
 ·show 0<=(if a.hold=0\/b.hold=0 then 0 else max a.hold b.hold)/\(if a.hold=0\/b.hold=0 then 0 else max a.hold b.hold)<=z8 m b.lane;split<;>omega
theorem zEw(init:List zk)(a b:zk):zcP (init++[a]) b=if far a b=false then init++[glue a b] else init++[a]++[b]:=by
 have e:(init++[a]).getD ((init++[a]).length-1) z9=a:=by simp[List.getD_eq_getElem?_getD]
 unfold zcP;rw[e];by_cases c:far a b=false
 ·rw[if_pos ⟨by simp,c⟩,if_pos c];simp
 ·rw[if_neg (fun h=>c h.2),if_neg c]
theorem zEu{m:zD}:∀(l init:List zk) (a:zk),(a::l).Pairwise leB->(∀b∈l,VB m b)->(∀o∈init++[a],VB m o)->(init++[a]).Pairwise Apt ->
  (∀o∈l.foldl zcP (init++[a]),VB m o)/\(l.foldl zcP (init++[a])).Pairwise Apt
 |[],init,a,_,_,h1,h2=>⟨h1,h2⟩
 |b::l,init,a,hs,hv,h1,h2=>by
  rw[List.pairwise_cons]at hs;have hbl:=hs.2;rw[List.pairwise_cons]at hbl;have hab:=hs.1 b (List.mem_cons_self ..);have hb:=hv b (List.mem_cons_self ..);have ha:=h1 a (by simp);rw[List.foldl_cons,zEw];have hfar:far a b=false<->(a.lane=b.lane/\b.lo<=a.hi+1):=by
   unfold far;by_cases c:a.lane=b.lane
   ·simp[c];omega
   ·simp[c]
  by_cases c:far a b=false
  ·rw[if_pos c];have hc:=hfar.1 c;refine zEu l init (glue a b) ?_ (fun x hx=>hv x (List.mem_cons_of_mem _ hx)) ?_ ?_
   ·rw[List.pairwise_cons];refine⟨fun x hx=>?_,hbl.2⟩;have hbx:=hbl.1 x hx;unfold leB at hab hbx ⊢;simp only[glue];omega
   ·intro o ho;rcases List.mem_append.1 ho with ho|ho
    ·exact h1 o (List.mem_append_left _ ho)
    ·rw[List.mem_singleton.1 ho];exact zFt ha hb hc.1
   ·rw[List.pairwise_append]at h2 ⊢;refine⟨h2.1,List.pairwise_singleton _ _,fun x hx y hy=>?_⟩;rw[List.mem_singleton.1 hy];have:=h2.2.2 x hx a (by simp);unfold Apt at this ⊢;simp only[glue];omega
  ·rw[if_neg c];have hc:¬(a.lane=b.lane/\b.lo<=a.hi+1):=fun h=>c (hfar.2 h)
   refine zEu l (init++[a]) b hs.2 (fun x hx=>hv x (List.mem_cons_of_mem _ hx)) ?_ ?_
   ·intro o ho;rcases List.mem_append.1 ho with ho|ho
    ·exact h1 o ho
    ·rw[List.mem_singleton.1 ho];exact hb
   ·rw[List.pairwise_append];refine⟨h2,List.pairwise_singleton _ _,fun x hx y hy=>?_⟩;rw[List.mem_singleton.1 hy];have hA:Apt a b:=by
     unfold Apt;unfold leB at hab;omega
    rcases List.mem_append.1 hx with hx|hx
    ·have:=(List.pairwise_append.1 h2).2.2 x hx a (by simp);have a2:=ha.le;unfold Apt at this hA ⊢;omega
    ·rw[List.mem_singleton.1 hx];exact hA
theorem zEl{m:zD}(l:List zk)(h:∀b∈l,VB m b):(∀o∈zcz l,VB m o)/\(zcz l).Pairwise Apt:=by
 have hm:∀x∈l.foldl zb5 [],x∈l:=fun x hx=>(zuL l [] x hx).resolve_right (by simp)
 have hs:(l.foldl zb5 []).Pairwise leB:=by
  rw[zpi];exact ziR _ [] List.Pairwise.nil
 unfold zcz;generalize l.foldl zb5 []=S at *;cases S with
 |nil=>exact⟨by simp,List.Pairwise.nil⟩
 |cons a t =>
  have e:zcP [] a=[]++[a]:=by simp[zcP]
  rw[List.foldl_cons,e];refine zEu t [] a hs (fun b hb=>h b (hm b (List.mem_cons_of_mem _ hb))) ?_ ?_
  ·intro o ho;simp at ho;subst ho;exact h _ (hm _ (List.mem_cons_self ..))
  ·simp
theorem zE1{x fr to:Int}{b:zk}:∀z∈zoX x fr to b,z.lane=b.lane/\b.lo<=z.lo/\z.hi<=b.hi:=by
 intro z hz;unfold zoX at hz;split at hz
 ·simp only[List.mem_singleton]at hz;subst hz;exact⟨rfl,Int.le_refl _,Int.le_refl _⟩
 ·rename_i hc;rcases List.mem_append.1 hz with hz|hz
  ·split at hz
   ·simp only[List.mem_singleton]at hz;subst hz;exact⟨rfl,Int.le_refl _,by show fr-1<=b.hi;omega⟩
   ·cases hz
  ·split at hz
   ·simp only[List.mem_singleton]at hz;subst hz;exact⟨rfl,by show b.lo<=to+1;omega,Int.le_refl _⟩
   ·cases hz
theorem zFm(x fr to:Int)(b:zk):(zoX x fr to b).Pairwise Apt:=by
 unfold zoX;split
 ·exact List.pairwise_singleton _ _
 ·rename_i hc;split
  ·split
   ·simp only[List.singleton_append,List.pairwise_cons,List.mem_singleton,forall_eq,List.not_mem_nil,false_imp_iff,implies_true,List.Pairwise.nil,and_true];exact .inr ⟨rfl,by show fr-1+1<to+1;omega⟩
   ·simp
  ·split<;>simp
theorem zE0{x fr to:Int}:∀(l:List zk),∀z∈zhn x fr to l,∃b∈l,z.lane=b.lane/\b.lo<=z.lo/\z.hi<=b.hi
 |[],z,hz=>by cases hz
 |b::l,z,hz=>by
  unfold zhn at hz;rcases List.mem_append.1 hz with hz|hz
  ·exact⟨b,List.mem_cons_self ..,zE1 z hz⟩
  ·obtain⟨c,hc,h⟩:=zE0 l z hz;exact⟨c,List.mem_cons_of_mem _ hc,h⟩
theorem zEN(x fr to:Int):∀(l:List zk),l.Pairwise Apt->(zhn x fr to l).Pairwise Apt
 |[],_=>List.Pairwise.nil
 |b::l,h=>by
  rw[List.pairwise_cons]at h;unfold zhn;rw[List.pairwise_append];refine⟨zFm x fr to b,zEN x fr to l h.2,fun y hy z hz=>?_⟩;obtain⟨h1,h2,h3⟩:=zE1 y hy;obtain⟨c,hc,g1,g2,g3⟩:=zE0 l z hz;have:=h.1 c hc;unfold Apt at this ⊢;omega
theorem zEK(m:zD)(e:Ego)(len:Int):∀(r:List Int) (a:Int) (l:List zk),l.Pairwise Apt->(zpO m e len a r l).Pairwise Apt
 |[],_,l,h=>h
 |x::r,a,l,h=>zEK m e len r _ _ (zEN _ _ _ l h)
theorem zFg(m:zD)(e:Ego)(len:Int)(r:List Int)(l:List zk)(h:l.Pairwise Apt):(zkr m e len r l).Pairwise Apt:=by
 unfold zkr;split
 ·exact zEK m e len r 0 l h
 ·exact h
theorem zEs{m:zD}{r:List Int}{bar:Int}{b:zk}{lo hi:Int}{cap:Bool}:∀z∈zbA m r bar b lo hi cap,z.1.lane=b.lane:=by
 intro z hz;unfold zbA at hz;split at hz
 ·simp only[List.mem_singleton]at hz;subst hz;rfl
 ·cases hz
theorem zE8{m:zD}{r:List Int}{bar slo:Int}{b:zk}{lo hi:Int}{cap:Bool}:∀z∈zlZ m r bar slo b lo hi cap,z.1.lane=b.lane\/z.1.lane∈zS m b.lane:=by
 intro z hz;unfold zlZ at hz;rcases List.mem_append.1 hz with hz|hz
 ·exact .inl (zEs z hz)
 ·split at hz
  ·cases hz
  ·obtain⟨x,hx,hz⟩:=List.mem_flatMap.1 hz;exact .inr (by rw[zEs z hz];exact hx)
theorem zFE{m:zD}{zs:List Zon}{ss:List Sgn}(hf:zmq m zs ss){lane tick l:Int}(h:l∈zeA zs ss lane tick):0<=l/\l<=z8 m lane:=by
 unfold zeA at h;obtain⟨z,hz,hl⟩:=List.mem_flatMap.1 h;rcases zlX ss lane tick z with e |⟨p,hp,e⟩
 ·rw[e]at hl;cases hl
 ·rw[e]at hl;simp only[List.mem_singleton]at hl;subst hl;have h1:=List.find?_some hp;have h2:=List.mem_of_find?_eq_some hp;simp only[decide_eq_true_eq]at h1;obtain⟨_,a1,a2,a3,_⟩:=hf.pv z hz p h2;rw[h1]at a3;omega
theorem zFi{m:zD}{zs:List Zon}{ss:List Sgn}(hf:zmq m zs ss)(k:zci)(signals:Bool){b:zk}(hb:VB m b):0<=(mvF m zs ss k signals b).hold/\(mvF m zs ss k signals b).hold<=z8 m b.lane:=by
 have a1:=hb.lo;have a2:=hb.le;have a3:=hb.hi;show 0<=((if signals then(zeA zs ss b.lane k.tick).find? (zcY m b) else none)).getD 0/\((if signals then(zeA zs ss b.lane k.tick).find? (zcY m b) else none)).getD 0<=z8 m b.lane;split
 ·cases h:(zeA zs ss b.lane k.tick).find? (zcY m b)with
  |none=>simp;omega
  |some l=>simpa using zFE hf (List.mem_of_find?_eq_some h)
 ·simp;omega
theorem zE4{m:zD}{zs:List Zon}{ss:List Sgn}(hf:zmq m zs ss)(r:List Int)(len:Int)(k:zci)(e:Ego)(signals:Bool)(hvb:∀b∈k.blobs,VB m b):∀x∈zex m zs ss r len k e signals,VB m x:=by
 have h:=hf.good;intro x hx;unfold zex at hx;rcases List.mem_append.1 hx with hx|hx
 ·unfold zgt at hx;obtain⟨b,hb,hx⟩:=List.mem_flatMap.1 hx;obtain⟨z,hz,rfl⟩:=List.mem_map.1 hx;have hv:=ztK k.ego len r k.blobs hvb b hb;have hbd:=zwE h zs ss k signals hv;have hmo:=zqQ h hv;have hho:=zFi hf k signals hv;have hvl:(mvF m zs ss k signals b).vlo=zcW m b:=rfl;have hvh:(mvF m zs ss k signals b).vhi=zde m b:=rfl;unfold zm8 at hz;split at hz
  ·have ho:=zBF h r (zfx len e) e.slo (mvF m zs ss k signals b) (by rw[hbd.1];exact hv.lane) _ _ _ z hz;have hl:=zE8 z hz;rw[hbd.1]at hl;have hk:zaK m z.1.lane=zaK m b.lane:=by
    rcases hl with hl|hl
    ·rw[hl]
    ·exact hf.shal.kn _ _ hl
   have hf2:zde m b<=zeR (zaK m b.lane):=by unfold zde;omega
   refine⟨ho.on,ho.lo,ho.le,ho.hi,?_,?_,?_,?_⟩
   ·rw[ho.vlo,hvl];exact hmo.s.1
   ·rw[ho.vlo,ho.vhi,hvl,hvh];exact hmo.sf
   ·rw[ho.vhi,hvh,hk];exact hf2
   ·rcases ho.hold with⟨h1,h2⟩|h2
    ·rw[h2,h1,hbd.1];exact hho
    ·rw[h2];have h3:=ho.lo;have h4:=ho.le;have h5:=ho.hi;omega
  ·cases hz
 ·obtain⟨b,hb,hx⟩:=List.mem_flatMap.1 hx;obtain⟨j,hj,hbj,_⟩:=(zqS m b m.lanes 0).1 hb;unfold zfb at hx;split at hx
  ·simp only[List.mem_singleton]at hx;subst hx;have hl:0<=b/\b<m.lanes.length:=by rw[hbj];omega
   have h1:=zcX h hl;have ht:=tops (zu9 h hl);exact⟨hl,Int.le_refl _,Int.le_refl _,by show 0<=z8 m b;omega,Int.le_refl _,by show 0<=zeR (zaK m b);omega,Int.le_refl _,by show(0:Int)<=0/\0<=z8 m b;omega⟩
  ·cases hx
theorem zEJ(m:zD)(r:List Int)(act:Int){v w:Int}(h:v<=w):zcD m r act v<=zcD m r act w:=by
 unfold zcD;omega
theorem zEH{m:zD}{zs:List Zon}{ss:List Sgn}(hf:zmq m zs ss){r:List Int}(hr:zdA m r=0)(len:Int)(k:zci)(act:Int)(signals:Bool)(hc:zdf m k=0)(ht:k.tick≠1099511627776)(hd:(zaN m r k.ego act).shi<=1099511627776) :
  zdf m (zpg m zs ss r len k (zaN m r k.ego act) signals)=0:=by
 have h:=hf.good;obtain⟨he,ht2⟩:=zte hc;obtain⟨hon,hne,hl8⟩:=zg1 h hr;have hvb:=zxJ h hc;obtain⟨j1,j2⟩:=zEl _ (zE4 hf r len k (zaN m r k.ego act) signals hvb);have o1:=ztK (m:=m) (zaN m r k.ego act) len r _ j1;have o2:=zFg m (zaN m r k.ego act) len r _ j2;have hes:=he.s;have hev:=he.v;unfold zdf;rw[if_neg]
 ·refine zED _ _ o1 o2 fun b hb=>?_
  have:=(o1 b hb).lane;simp only[zmM,zqY];omega
 ·obtain⟨x0,r',rfl⟩:∃x r',r=x::r':=by cases r with|nil=>exact absurd rfl hne|cons x r'=>exact⟨x,r',rfl⟩
  have hx0:=hon x0 (List.mem_cons_self ..);have s1:=zge h r' hx0 act k.ego.vlo;have s2:=zge h r' hx0 act k.ego.vhi;have s3:=zEJ m (x0::r') act hev.2.1;simp only[ziI,zpg,zaN,zsa]at hd ⊢;omega
theorem zEI{m:zD}{r:List Int}{len:Int}{k:zci}{act:Int}(h:zm6 m r len k act=0):zdf m k=0/\zdA m r=0/\(300<=len/\len<=20000)/\k.tick≠1099511627776/\(zaN m r k.ego act).shi<=1099511627776:=by
 unfold zm6 at h;split at h
 ·rename_i h1;split at h
  ·rename_i h2;split at h
   ·rename_i h3;exact⟨h1,h2,h3⟩
   ·cases h
  ·cases h
 ·rename_i h1;exact absurd h h1
structure KOk(k:zci):Prop where
 len:k.blobs.length<=100000000000
 ok:∀b∈k.blobs,OKB b
theorem zFp{m:zD}(h:zcp m)(hs:zmX m){k:zci}(hc:zdf m k=0):KOk k :=
 ⟨Nat.le_trans (zvx h hs hc) (by decide),fun b hb=>zFo h (zxJ h hc b hb)⟩
abbrev zEt(m:zD)(zs:List Zon)(ss:List Sgn)(r:List Int)(len:Int)(signals:Bool)(k:zci)(a:Int):zci:=zpg m zs ss r len k (zaN m r k.ego a) signals
theorem zFh{m:zD}{zs:List Zon}{ss:List Sgn}(hf:zmq m zs ss){r:List Int}{len:Int}{k:zci}{act:Int}(h:zm6 m r len k act=0)(signals:Bool):zdf m (zEt m zs ss r len signals k act)=0:=by
 obtain⟨h1,h2,_,h4,h5⟩:=zEI h;exact zEH hf h2 len k act signals h1 h4 h5
end Go.TrRun
/- Plain laws of cars, ramps, stops and profiles: no program in sight. -/
namespace Go.PlanLaw
structure Car where
 len:Int
 accel:Int
 brake:Int
 rate:Int
 delay:Int
def Car.ok(c:Car):Prop:=300<=c.len/\c.len<=20000/\1<=c.accel/\c.accel<=30/\20<=c.brake/\c.brake<=90/\5<=c.rate/\c.rate<=120/\0<=c.delay/\c.delay<=5
instance(c:Car):Decidable c.ok:=by unfold Car.ok;infer_instance
def zgH(c:Car)(x:Int):Int:=max (-c.brake) (min x c.accel)
def zFX(c:Car)(last w:Int):Int:=max (zgH c last-c.rate) (min (zgH c w) (zgH c last+c.rate))
def doV(v x:Int):Int:=min (max (v+max (-2000) (min x 2000)) 0) 2000
theorem zG1(v x:Int):0<=doV v x/\doV v x<=2000:=by unfold doV;omega
theorem zG2{c:Car}(h:c.ok)(x:Int):-c.brake<=zgH c x/\zgH c x<=c.accel:=by
 obtain⟨h1,h2,h3,h4,h5,h6,h7,h8,h9,h10⟩:=h;unfold zgH;omega
theorem zG3{c:Car}(h:c.ok){x:Int}(h1:-c.brake<=x)(h2:x<=c.accel):zgH c x=x:=by unfold zgH;omega
def zGI(c:Car):Nat->Bool->Int->Int->Option (List Int)
 |0,_,_,_=>none
 |m+1,f,last,v=>if f=true\/0<v\/0<last then(zGI c m false (zFX c last (-c.brake)) (doV v (zFX c last (-c.brake)))).map (zFX c last (-c.brake) :: ·) else some []
theorem zF7(c:Car)(m:Nat)(f:Bool)(last v:Int):zGI c (m+1) f last v=if(f=true\/0<v\/0<last) then(zGI c m false (zFX c last (-c.brake)) (doV v (zFX c last (-c.brake)))).map (zFX c last (-c.brake) :: ·) else some []:=rfl
theorem zG8(v x:Int)(hv:0<=v/\v<=2000)(hx:-100<=x/\x<=100):doV v x=max 0 (min 2000 (v+x)):=by unfold doV;omega
theorem zGx{c:Car}(h:c.ok)(last:Int):zFX c last (-c.brake)=max (zgH c last-c.rate) (-c.brake):=by
 obtain⟨h1,h2,h3,h4,h5,h6,h7,h8,h9,h10⟩:=h;unfold zFX zgH;omega
theorem zGM{c:Car}{last:Int}(h:c.ok)(h1:-c.brake<=last)(h2:last<=c.accel):zFX c last (-c.brake)=max (last-c.rate) (-c.brake):=by
 rw[zGx h last,zG3 h h1 h2]
theorem ends2{c:Car}(h:c.ok):∀(m:Nat) (last v:Int),-c.brake<=last->last<=-20->0<=v->v<=2000->v<=20*m->∃l,zGI c (m+1) false last v=some l/\l.length<=m
 |0,last,v,h1,h2,h3,h4,h5=>⟨[],by
   rw[zF7,if_neg (by simp;omega)],by simp⟩
 |m+1,last,v,h1,h2,h3,h4,h5=>by
  have hcar:=h;obtain⟨q1,q2,q3,q4,q5,q6,q7,q8,q9,q10⟩:=hcar;rw[zF7];split
  ·have hr:=zGM h h1 (by omega:last<=c.accel);have hd:=zG8 v (zFX c last (-c.brake)) ⟨h3,h4⟩ (by omega);obtain⟨l,hl,hn⟩:=ends2 h m (zFX c last (-c.brake)) (doV v (zFX c last (-c.brake))) (by omega) (by omega) (by omega) (by omega) (by omega);exact⟨_::l,by rw[hl];rfl,by simp;omega⟩
  ·exact⟨[],rfl,by simp⟩
theorem ends1{c:Car}(h:c.ok):∀(t:Nat) (last v:Int),-c.brake<=last->last<=c.accel->last<=5*t-20->0<=v->v<=2000->∃l,zGI c (101+t) false last v=some l/\l.length<=100+t
 |0,last,v,h1,h2,h3,h4,h5=>ends2 h 100 last v h1 (by omega) h4 h5 (by omega)
 |t+1,last,v,h1,h2,h3,h4,h5=>by
  have hcar:=h;obtain⟨q1,q2,q3,q4,q5,q6,q7,q8,q9,q10⟩:=hcar;rw[show 101+(t+1)=(101+t)+1 by omega,zF7];split
  ·have hr:=zGM h h1 h2;have hd:=zG1 v (zFX c last (-c.brake));obtain⟨l,hl,hn⟩:=ends1 h t (zFX c last (-c.brake)) (doV v (zFX c last (-c.brake))) (by omega) (by omega) (by omega) hd.1 hd.2;exact⟨_::l,by rw[hl];rfl,by simp;omega⟩
  ·exact⟨[],rfl,by simp⟩
theorem ends{c:Car}(h:c.ok)(last v:Int)(h4:0<=v)(h5:v<=2000):∃l,zGI c 111 true last v=some l/\0<l.length/\l.length<=110:=by
 have hcar:=h;obtain⟨q1,q2,q3,q4,q5,q6,q7,q8,q9,q10⟩:=hcar;have hr:=zGx h last;have hcl:=zG2 h last;have hd:=zG1 v (zFX c last (-c.brake));obtain⟨l,hl,hn⟩:=ends1 h 9 (zFX c last (-c.brake)) (doV v (zFX c last (-c.brake))) (by omega) (by omega) (by omega) hd.1 hd.2;refine⟨_::l,by rw[show 111=(101+9)+1 from rfl,zF7,if_pos (.inl rfl),hl];rfl,by simp,by simp;omega⟩
def chain(c:Car):Int->List Int->Prop
 |_,[]=>True
 |a,x::xs=>(-c.brake<=x/\x<=c.accel)/\(-c.rate<=x-a/\x-a<=c.rate)/\chain c x xs
def zG0:Int->List Int->Int
 |a,[]=>a
 |_,x::xs=>zG0 x xs
def zHd:Int->List Int->Int
 |v,[]=>v
 |v,x::xs=>zHd (doV v x) xs
structure Drv where
 last:Int
 v:Int
 l:List Int
def Drv.from(c:Car)(a:Int)(s:Drv):Prop:=chain c a s.l/\s.last=zG0 a s.l/\0<=s.v/\s.v<=2000
end Go.PlanLaw
namespace Go.TrRun.Pl
open Go Go.Eng Go.PlanLaw
def carC(c:Car):List Cl:=[I c.len,I c.accel,I c.brake,I c.rate,I c.delay]
theorem zF6(x a b:Int):R L Cs zGF [W x,W a,W b] []=some (.w (Bo (decide (a<=x)&&decide (x<=b))),[]):=by
 rw[z4 zGH rfl];by_cases h:a<=x<;>simp[zF3,h]
theorem zGS{c:Car}(h:c.ok):R L Cs zGe [.a (carC c)] []=some (.w (W 0),[]):=by
 obtain⟨h1,h2,h3,h4,h5,h6,h7,h8,h9,h10⟩:=h;rw[z4 zGf rfl];simp[zFN,carC,zF6,h1,h2,h3,h4,h5,h6,h7,h8,h9,h10]
theorem zGG{c:Car}(h:c.ok):R L Cs zFU [.a (carC c)] []=some (.w (W 0),[]):=by
 obtain⟨h1,h2,h3,h4,h5,h6,h7,h8,h9,h10⟩:=h;rw[z4 zFV rfl];simp[zFH,carC,Int.not_lt.2 h1,Int.not_lt.2 h2,Int.not_lt.2 h3,Int.not_lt.2 h4,Int.not_lt.2 h5,Int.not_lt.2 h6,Int.not_lt.2 h7,Int.not_lt.2 h8,Int.not_lt.2 h9,Int.not_lt.2 h10]
def Drv.run(s:Drv)(l:List Int):Drv:=⟨zG0 s.last l,zHd s.v l,s.l++l⟩
theorem R_awake:R L Cs zF9 [] []=some (.w (Bo true),[]):=zah.2 ⟨200,by kernel_rfl⟩
def carF(c:Car):Int:=if c.ok then 0 else 2
theorem R_CheckCar_any(c:Car):R L Cs zGe [.a (carC c)] []=some (.w (W (carF c)),[]):=by
 by_cases h:c.ok
 ·rw[carF,if_pos h];exact zGS h
 rw[carF,if_neg h,z4 zGf rfl];have e:¬(((decide (300<=c.len)&&decide (c.len<=20000))=true)/\((decide (1<=c.accel)&&decide (c.accel<=30))=true)/\((decide (20<=c.brake)&&decide (c.brake<=90))=true)/\((decide (5<=c.rate)&&decide (c.rate<=120))=true)/\((decide (0<=c.delay)&&decide (c.delay<=5))=true)):=by
  intro e;simp only[Bool.and_eq_true,decide_eq_true_eq]at e;exact h (by simp only[Car.ok];omega)
 have w1:=zF6 c.len 300 20000;have w2:=zF6 c.accel 1 30;have w3:=zF6 c.brake 20 90;have w4:=zF6 c.rate 5 120;have w5:=zF6 c.delay 0 5;generalize (decide (300<=c.len)&&decide (c.len<=20000))=b1 at *;generalize (decide (1<=c.accel)&&decide (c.accel<=30))=b2 at *;generalize (decide (20<=c.brake)&&decide (c.brake<=90))=b3 at *;generalize (decide (5<=c.rate)&&decide (c.rate<=120))=b4 at *;generalize (decide (0<=c.delay)&&decide (c.delay<=5))=b5 at *;cases b1 with
 |false=>simp[zFN,carC,w1]
 |true=>cases b2 with
  |false=>simp[zFN,carC,w1,w2]
  |true=>cases b3 with
   |false=>simp[zFN,carC,w1,w2,w3]
   |true=>cases b4 with
    |false=>simp[zFN,carC,w1,w2,w3,w4]
    |true=>cases b5 with
     |false=>simp[zFN,carC,w1,w2,w3,w4,w5]
     |true=>simp at e
theorem R_refCheckCar_any(c:Car):R L Cs zFU [.a (carC c)] []=some (.w (W (carF c)),[]):=by
 by_cases h:c.ok
 ·rw[carF,if_pos h];exact zGG h
 rw[carF,if_neg h,z4 zFV rfl];by_cases h1:c.len<300
 ·simp[zFH,carC,h1]
 by_cases h2:20000<c.len
 ·simp[zFH,carC,h1,h2]
 by_cases h3:c.accel<1
 ·simp[zFH,carC,h1,h2,h3]
 by_cases h4:30<c.accel
 ·simp[zFH,carC,h1,h2,h3,h4]
 by_cases h5:c.brake<20
 ·simp[zFH,carC,h1,h2,h3,h4,h5]
 by_cases h6:90<c.brake
 ·simp[zFH,carC,h1,h2,h3,h4,h5,h6]
 by_cases h7:c.rate<5
 ·simp[zFH,carC,h1,h2,h3,h4,h5,h6,h7]
 by_cases h8:120<c.rate
 ·simp[zFH,carC,h1,h2,h3,h4,h5,h6,h7,h8]
 by_cases h9:c.delay<0
 ·simp[zFH,carC,h1,h2,h3,h4,h5,h6,h7,h8,h9]
 by_cases h10:5<c.delay
 ·simp[zFH,carC,h1,h2,h3,h4,h5,h6,h7,h8,h9,h10]
 exact absurd (by simp only[Car.ok];omega) h
def actF(l:List Int)(i:Int):Int:=if l.length=0 then 0 else(l[(max 0 (min i (l.length-1))).toNat]?).getD 0
theorem R_Act(l:List Int)(hl:l.length<=1000)(i:Int):R L Cs zGR [.a [.rslice (zu l)],W i] []=some (.w (W (actF l i)),[]):=by
 rw[z4 zGT rfl];by_cases h:l.length=0
 ·have hn:l=[]:=List.eq_nil_of_length_eq_zero h;subst hn;simp[zGa,actF]
 ·have h1:¬(l.length:Int)=0:=by omega
  have hb:((l.length:Int)==0)=false:=by simpa using h1
  have hw:IntKind.i64.wrap ((l.length:Int)-1)=(l.length:Int)-1:=zl _ (by omega) (by omega);have hm:min (max i 0) ((l.length:Int)-1)=max 0 (min i ((l.length:Int)-1)):=by omega
  have hk:(max 0 (min i ((l.length:Int)-1))).toNat<l.length:=by omega
  have hk0:0<=max 0 (min i ((l.length:Int)-1))/\max 0 (min i ((l.length:Int)-1))<l.length:=by omega
  rw[actF,if_neg h];generalize max 0 (min i ((l.length:Int)-1))=m at *;simp[zGa,hb,hw,hm,hk,hk0]
theorem R_refAct(l:List Int)(hl:l.length<=1000)(i:Int):R L Cs zGj [.a [.rslice (zu l)],W i] []=some (.w (W (actF l i)),[]):=by
 rw[z4 zGl rfl];by_cases h:l.length=0
 ·have hn:l=[]:=List.eq_nil_of_length_eq_zero h;subst hn;simp[zFQ,actF]
 ·have h1:¬(l.length:Int)=0:=by omega
  have hb:((l.length:Int)==0)=false:=by simpa using h1
  have hw:IntKind.i64.wrap ((l.length:Int)-1)=(l.length:Int)-1:=zl _ (by omega) (by omega);have hk:(max 0 (min i ((l.length:Int)-1))).toNat<l.length:=by omega
  have hk0:0<=max 0 (min i ((l.length:Int)-1))/\max 0 (min i ((l.length:Int)-1))<l.length:=by omega
  rw[actF,if_neg h];generalize hm:max 0 (min i ((l.length:Int)-1))=m at *;simp[zFQ,hb,hw,hm,hk,hk0]
end Go.TrRun.Pl
namespace Go.TrRun
open Go Go.Eng
abbrev zGv:=Go.PlanLaw.Car
abbrev carC(c:zGv):List Cl:=Pl.carC c
abbrev actF(l:List Int)(i:Int):Int:=Pl.actF l i
def zFR(l:List zci):List (List Cl):=l.map zG
@[simp] theorem zGn(l:List zci):(zFR l).length=l.length:=by simp[zFR]
@[simp] theorem zGm:zFR []=[]:=rfl
@[simp] theorem zG7(x:zci)(l:List zci):zFR (x::l)=zG x::zFR l:=rfl
@[simp] theorem zHb(l k:List zci):zFR (l++k)=zFR l++zFR k:=by simp[zFR]
@[simp] theorem zG4{l:List zci}{i:Nat}(h:i<(zFR l).length):(zFR l)[i]=zG (l[i]'(by simpa using h)):=by simp[zFR]
@[simp] theorem zG6(l:List zci):(zFR l).take l.length=zFR l:=List.take_of_length_le (by simp)
@[simp] theorem zHc(k:zci):(zG k).length=6:=rfl
@[simp] theorem zHa(l:List zci):(∀x,x∈zFR l->x.length=6)<->True:=by simp[zFR]
def zFT(m:zD)(zs:List Zon)(ss:List Sgn)(r:List Int)(len:Int)(acts:List Int)(signals:Bool):Nat->Nat->zci->List zci->Option (List zci×zci)
 |0,i,k,o=>some (o,k)
 |f+1,i,k,o=>if zm6 m r len k (actF acts i)=0 then zFT m zs ss r len acts signals f (i+1) (zEt m zs ss r len signals k (actF acts i)) (o++[zEt m zs ss r len signals k (actF acts i)]) else none
def zFW(m:zD)(zs:List Zon)(ss:List Sgn)(r:List Int)(len:Int)(acts:List Int)(signals:Bool):Nat->Nat->zci->Int
 |0,i,k=>0
 |f+1,i,k=>if zm6 m r len k (actF acts i)=0 then zFW m zs ss r len acts signals f (i+1) (zEt m zs ss r len signals k (actF acts i)) else zm6 m r len k (actF acts i)
theorem zGU{acts:List Int}(h:∀a∈acts,zk0 a)(i:Int):zk0 (actF acts i):=by
 unfold actF Pl.actF;split
 ·simp[zk0]
 ·cases hq:acts[(max 0 (min i (acts.length-1))).toNat]? with
  |none=>simp[zk0]
  |some a=>exact h a (List.mem_of_getElem? hq)
abbrev ppM(m:zD)(c:zGv)(acts:List Int)(v:Nat)(k:zci)(o:List zci):Mem:=[bx 5 (zf m),bx 5 (carC c),bxv v 6 (zG k),bx 1 [.rslice (zu acts)],gb 6,some (own 6 (zFR o))]
abbrev ppE(n:Nat)(r:List Int)(signals:Bool)(i:Nat)(o:List zci):Env:=[(33,.w (W n)),(1,.w (.c (.rslice (zu r)))),(9,.w (Pt 1)),(6,.w (Bo signals)),(7,.w (Pt 0)),(11,.w (Pt 3)),(10,.w (Pt 2)),(34,.w (W i)),(17,.w (.c (.slice 5 o.length 6 0 o.length none)))]
abbrev ppX(n:Nat)(r:List Int)(signals:Bool)(o:List zci):Env:=[(35,.w (Bo false)),(10,.w (Pt 2)),(11,.w (Pt 3)),(7,.w (Pt 0)),(6,.w (Bo signals)),(9,.w (Pt 1)),(1,.w (.c (.rslice (zu r)))),(33,.w (W n)),(34,.w (W n)),(17,.w (.c (.slice 5 o.length 6 0 o.length none)))]
abbrev zGY:zci:=⟨0,[],⟨0,0,0,0⟩⟩
theorem zGV{m:zD}{zs:List Zon}{ss:List Sgn}(hf:zmq m zs ss)(r:List Int)(hl:r.length<=1000)(c:zGv)(acts:List Int)(ha:acts.length<=1000)(hin:∀a∈acts,zk0 a)(signals:Bool)(n:Nat)(hn:n<=1000):∀(f i:Nat) (k:zci) (o:List zci),i+f=n->KOk k->o.length=i ->
  (∃o' k',zFT m zs ss r c.len acts signals f i k o=some (o',k')/\Y L Cs zFM (some [33,1,9,6,7,11,10,34,17]) 6 (ppE n r signals i o) (ppM m c acts i k o)=some (.exit 0,ppX n r signals o',ppM m c acts n k' o')/\o'.length=n/\zFW m zs ss r c.len acts signals f i k=0) \/
  (∃k' o' i' v M,zFT m zs ss r c.len acts signals f i k o=none/\zFW m zs ss r c.len acts signals f i k≠0/\Y L Cs zFM (some [33,1,9,6,7,11,10,34,17]) 6 (ppE n r signals i o) (ppM m c acts i k o)=some (.ret,[(14,.w (.c (.slice 7 0 6 0 0 none))),(15,.w (W (zFW m zs ss r c.len acts signals f i k)))],ppM m c acts i' k' o'++[bxv v 6 M,gb 6])):=by
 intro f;induction f with
 |zero =>
  intro i k o hi hk ho;left;have:i=n:=by omega
  subst this;refine⟨o,k,rfl,?_,ho,rfl⟩;rw[zj zFM.eq_1];simp
 |succ f ih =>
  intro i k o hi hk ho;have hS:=zvN hf r hl c.len k hk.len (actF acts i) (zGU hin i) signals;have hA:=Pl.R_Act acts ha i;have hw:=zB (i:=i) (by omega);have hil:(i:Int)<n:=by omega
  have hil':i<n:=by omega
  have hroom:(i+1)*64<=140737488355328:=by omega
  have htk:List.take i (zFR o)=zFR o:=List.take_of_length_le (by simp;omega);by_cases hE:zm6 m r c.len k (actF acts i)=0
  ·have hv:=zFh hf (zs:=zs) (ss:=ss) hE signals;have hK:=zFp hf.good hf.shal hv;have e1:zFT m zs ss r c.len acts signals (f+1) i k o=zFT m zs ss r c.len acts signals f (i+1) (zEt m zs ss r c.len signals k (actF acts i)) (o++[zEt m zs ss r c.len signals k (actF acts i)]):=by
    rw[zFT,if_pos hE]
   have e2:zFW m zs ss r c.len acts signals (f+1) i k=zFW m zs ss r c.len acts signals f (i+1) (zEt m zs ss r c.len signals k (actF acts i)):=by
    rw[zFW,if_pos hE]
   rw[e1,e2];unfold zsH at hS;rw[if_pos hE]at hS;have ih':=ih (i+1) (zEt m zs ss r c.len signals k (actF acts i)) (o++[zEt m zs ss r c.len signals k (actF acts i)]) (by omega) hK (by simp[ho]);clear ih e1 e2;generalize hkk:zEt m zs ss r c.len signals k (actF acts i)=K at *;unfold zEt at hkk;rw[hkk]at hS;generalize zhp (zlg (zfV m zs ss r c.len k (zaN m r k.ego (actF acts i)) signals))=sw at hS;have step:Y L Cs zFM (some [33,1,9,6,7,11,10,34,17]) 6 (ppE n r signals i o) (ppM m c acts i k o)=Y L Cs zFM (some [33,1,9,6,7,11,10,34,17]) 6 (ppE n r signals (i+1) (o++[K])) (ppM m c acts (i+1) K (o++[K])):=by
    simp only[zf,zG,Pl.carC,actF]at hS hA;rw[zj zFM.eq_1];simp[ppE,ppM,carC,Pl.carC,zf,zG,own,hil,hil',hS,hA,hw,hroom,htk,zg,ho]
   rw[step];exact ih'
  ·right;have e1:zFT m zs ss r c.len acts signals (f+1) i k o=none:=by rw[zFT,if_neg hE]
   have e2:zFW m zs ss r c.len acts signals (f+1) i k=zm6 m r c.len k (actF acts i):=by rw[zFW,if_neg hE]
   rw[e1,e2];unfold zsH at hS;rw[if_neg hE]at hS;refine⟨k,o,i,1,zG zGY,rfl,hE,?_⟩;generalize zm6 m r c.len k (actF acts i)=e at *;have hb:(e==0)=false:=by simp[hE]
   have hb':(e !=0)=true:=by simp[hE]
   simp only[zf,zG,Pl.carC,actF]at hS hA;rw[zj zFM.eq_1];simp[ppE,ppM,carC,Pl.carC,zf,zG,own,hil,hil',hS,hA,hw,hroom,htk,zg,ho,hb,hb',hE]
abbrev rpE(n:Nat)(r:List Int)(signals:Bool)(i:Nat)(o:List zci):Env:=[(5,.w (W n)),(1,.w (.c (.rslice (zu r)))),(9,.w (Pt 1)),(6,.w (Bo signals)),(7,.w (Pt 0)),(11,.w (Pt 3)),(10,.w (Pt 2)),(18,.w (W i)),(17,.w (.c (.slice 5 o.length 6 0 o.length none)))]
abbrev rpX(n:Nat)(r:List Int)(signals:Bool)(o:List zci):Env:=[(32,.w (Bo false)),(10,.w (Pt 2)),(11,.w (Pt 3)),(7,.w (Pt 0)),(6,.w (Bo signals)),(9,.w (Pt 1)),(1,.w (.c (.rslice (zu r)))),(5,.w (W n)),(18,.w (W n)),(17,.w (.c (.slice 5 o.length 6 0 o.length none)))]
theorem zGP{m:zD}{zs:List Zon}{ss:List Sgn}(hf:zmq m zs ss)(r:List Int)(hl:r.length<=1000)(c:zGv)(acts:List Int)(ha:acts.length<=1000)(hin:∀a∈acts,zk0 a)(signals:Bool)(n:Nat)(hn:n<=1000):∀(f i:Nat) (k:zci) (o:List zci),i+f=n->KOk k->o.length=i ->
  (∃o' k',zFT m zs ss r c.len acts signals f i k o=some (o',k')/\Y L Cs zFI (some [5,1,9,6,7,11,10,18,17]) 6 (rpE n r signals i o) (ppM m c acts i k o)=some (.exit 0,rpX n r signals o',ppM m c acts n k' o')/\o'.length=n/\zFW m zs ss r c.len acts signals f i k=0) \/
  (∃k' o' i',zFT m zs ss r c.len acts signals f i k o=none/\zFW m zs ss r c.len acts signals f i k≠0/\Y L Cs zFI (some [5,1,9,6,7,11,10,18,17]) 6 (rpE n r signals i o) (ppM m c acts i k o)=some (.ret,[(14,.w (.c (.slice 6 0 6 0 0 none))),(15,.w (W (zFW m zs ss r c.len acts signals f i k)))],ppM m c acts i' k' o'++[gb 6])):=by
 intro f;induction f with
 |zero =>
  intro i k o hi hk ho;left;have:i=n:=by omega
  subst this;refine⟨o,k,rfl,?_,ho,rfl⟩;rw[zj zFI.eq_1];simp
 |succ f ih =>
  intro i k o hi hk ho;have hS:=zy6 hf r hl c.len k hk.len hk.ok (actF acts i) (zGU hin i) signals;have hA:=Pl.R_refAct acts ha i;have hw:=zB (i:=i) (by omega);have hil:(i:Int)<n:=by omega
  have hil':i<n:=by omega
  have hroom:(i+1)*64<=140737488355328:=by omega
  have htk:List.take i (zFR o)=zFR o:=List.take_of_length_le (by simp;omega);by_cases hE:zm6 m r c.len k (actF acts i)=0
  ·have hv:=zFh hf (zs:=zs) (ss:=ss) hE signals;have hK:=zFp hf.good hf.shal hv;have e1:zFT m zs ss r c.len acts signals (f+1) i k o=zFT m zs ss r c.len acts signals f (i+1) (zEt m zs ss r c.len signals k (actF acts i)) (o++[zEt m zs ss r c.len signals k (actF acts i)]):=by
    rw[zFT,if_pos hE]
   have e2:zFW m zs ss r c.len acts signals (f+1) i k=zFW m zs ss r c.len acts signals f (i+1) (zEt m zs ss r c.len signals k (actF acts i)):=by
    rw[zFW,if_pos hE]
   rw[e1,e2];unfold zsH at hS;rw[if_pos hE]at hS;have ih':=ih (i+1) (zEt m zs ss r c.len signals k (actF acts i)) (o++[zEt m zs ss r c.len signals k (actF acts i)]) (by omega) hK (by simp[ho]);clear ih e1 e2;generalize hkk:zEt m zs ss r c.len signals k (actF acts i)=K at *;unfold zEt at hkk;rw[hkk]at hS;generalize zhp (zlg (zfV m zs ss r c.len k (zaN m r k.ego (actF acts i)) signals))=sw at hS;have step:Y L Cs zFI (some [5,1,9,6,7,11,10,18,17]) 6 (rpE n r signals i o) (ppM m c acts i k o)=Y L Cs zFI (some [5,1,9,6,7,11,10,18,17]) 6 (rpE n r signals (i+1) (o++[K])) (ppM m c acts (i+1) K (o++[K])):=by
    simp only[zf,zG,Pl.carC,actF]at hS hA;rw[zj zFI.eq_1];simp[rpE,ppM,carC,Pl.carC,zf,zG,own,hil,hil',hS,hA,hw,hroom,htk,zg,ho]
   rw[step];exact ih'
  ·right;have e1:zFT m zs ss r c.len acts signals (f+1) i k o=none:=by rw[zFT,if_neg hE]
   have e2:zFW m zs ss r c.len acts signals (f+1) i k=zm6 m r c.len k (actF acts i):=by rw[zFW,if_neg hE]
   rw[e1,e2];unfold zsH at hS;rw[if_neg hE]at hS;refine⟨zGY,o,i+1,rfl,hE,?_⟩;generalize zm6 m r c.len k (actF acts i)=e at *;have hb:(e==0)=false:=by simp[hE]
   have hb':(e !=0)=true:=by simp[hE]
   simp only[zf,zG,Pl.carC,actF]at hS hA;rw[zj zFI.eq_1];simp[rpE,ppM,carC,Pl.carC,zf,zG,own,hil,hil',hS,hA,hw,hroom,htk,zg,ho,hb,hb',hE]
def zGd(m:zD)(zs:List Zon)(ss:List Sgn)(r:List Int)(c:zGv)(k:zci)(acts:List Int)(n:Int)(signals:Bool):List zci×Int :=
 if ¬c.ok then([],2) else if n<0\/200<n then([],2) else match zFT m zs ss r c.len acts signals n.toNat 0 k []with
  |some (o,_)=>(o,0)
  |none=>([],zFW m zs ss r c.len acts signals n.toNat 0 k)
theorem zGX{m:zD}{zs:List Zon}{ss:List Sgn}(hf:zmq m zs ss)(r:List Int)(hl:r.length<=1000)(c:zGv)(k:zci)(hk:KOk k)(acts:List Int)(ha:acts.length<=1000)(hin:∀a∈acts,zk0 a)(n:Int)(signals:Bool) :
  R L Cs zGy [.a (zf m),.c (.rslice (zu r)),.a (carC c),.a (zG k),.a [.rslice (zu acts)],W n,Bo signals] []=some (.t [.c (.rslice (zFR (zGd m zs ss r c k acts n signals).1)),W (zGd m zs ss r c k acts n signals).2],[]):=by
 have hC:=Pl.R_CheckCar_any c;rw[z4 zGD rfl];unfold zGd;by_cases h0:c.ok
 ·rw[Pl.carF,if_pos h0]at hC;rw[if_neg (show ¬¬c.ok from fun h=>h h0)];by_cases h1:n<0
  ·rw[if_pos (show n<0\/200<n from Or.inl h1)];simp only[Pl.carC]at hC;simp[zFP,carC,Pl.carC,zf,zG,hC,h1,zg,zX]
  ·by_cases h2:200<n
   ·rw[if_pos (show n<0\/200<n from Or.inr h2)];simp only[Pl.carC]at hC;simp[zFP,carC,Pl.carC,zf,zG,hC,h1,h2,zg,zX]
   ·rw[if_neg (show ¬(n<0\/200<n) by omega)];obtain⟨N,rfl⟩:=Int.eq_ofNat_of_zero_le (show 0<=n by omega);rw[Int.toNat_natCast];rcases zGV hf r hl c acts ha hin signals N (by omega) N 0 k [] (by omega) hk rfl with⟨o',k',e1,e2,e3,_⟩ |⟨k',o',i',v,M,e1,_,e2⟩
    ·rw[e1];simp only[ppE,ppX,ppM,own,Pl.carC,zf,zG,zGn,zGm,List.length_nil,Int.natCast_zero]at hC e2;simp[zFP,carC,Pl.carC,zf,zG,hC,h1,h2,e2,zg,zX]
    ·rw[e1];generalize zFW m zs ss r c.len acts signals N 0 k=ee at *;simp only[ppE,ppX,ppM,own,Pl.carC,zf,zG,zGn,zGm,List.length_nil,Int.natCast_zero,List.cons_append,List.nil_append]at hC e2;simp[zFP,carC,Pl.carC,zf,zG,hC,h1,h2,e2,zg,zX]
 ·rw[Pl.carF,if_neg h0]at hC;rw[if_pos h0];simp only[Pl.carC]at hC;simp[zFP,carC,Pl.carC,zf,zG,hC,zg,zX]
theorem zGL{m:zD}{zs:List Zon}{ss:List Sgn}(hf:zmq m zs ss)(r:List Int)(hl:r.length<=1000)(c:zGv)(k:zci)(hk:KOk k)(acts:List Int)(ha:acts.length<=1000)(hin:∀a∈acts,zk0 a)(n:Int)(signals:Bool) :
  R L Cs zF1 [.a (zf m),.c (.rslice (zu r)),.a (carC c),.a (zG k),.a [.rslice (zu acts)],W n,Bo signals] []=some (.t [.c (.rslice (zFR (zGd m zs ss r c k acts n signals).1)),W (zGd m zs ss r c k acts n signals).2],[]):=by
 have hC:=Pl.R_refCheckCar_any c;rw[z4 zF5 rfl];unfold zGd;by_cases h0:c.ok
 ·rw[Pl.carF,if_pos h0]at hC;rw[if_neg (show ¬¬c.ok from fun h=>h h0)];by_cases h1:n<0
  ·rw[if_pos (show n<0\/200<n from Or.inl h1)];simp only[Pl.carC]at hC;simp[zFK,carC,Pl.carC,zf,zG,hC,h1,zg,zX]
  ·by_cases h2:200<n
   ·rw[if_pos (show n<0\/200<n from Or.inr h2)];simp only[Pl.carC]at hC;simp[zFK,carC,Pl.carC,zf,zG,hC,h1,h2,zg,zX]
   ·rw[if_neg (show ¬(n<0\/200<n) by omega)];obtain⟨N,rfl⟩:=Int.eq_ofNat_of_zero_le (show 0<=n by omega);rw[Int.toNat_natCast];rcases zGP hf r hl c acts ha hin signals N (by omega) N 0 k [] (by omega) hk rfl with⟨o',k',e1,e2,e3,_⟩ |⟨k',o',i',e1,_,e2⟩
    ·rw[e1];simp only[rpE,rpX,ppM,own,Pl.carC,zf,zG,zGn,zGm,List.length_nil,Int.natCast_zero]at hC e2;simp[zFK,carC,Pl.carC,zf,zG,hC,h1,h2,e2,zg,zX]
    ·rw[e1];generalize zFW m zs ss r c.len acts signals N 0 k=ee at *;simp only[rpE,rpX,ppM,own,Pl.carC,zf,zG,zGn,zGm,List.length_nil,Int.natCast_zero,List.cons_append,List.nil_append]at hC e2;simp[zFK,carC,Pl.carC,zf,zG,hC,h1,h2,e2,zg,zX]
 ·rw[Pl.carF,if_neg h0]at hC;rw[if_pos h0];simp only[Pl.carC]at hC;simp[zFK,carC,Pl.carC,zf,zG,hC,zg,zX]
theorem zGN{m:zD}{zs:List Zon}{ss:List Sgn}(hf:zmq m zs ss)(r:List Int)(len:Int)(acts:List Int)(signals:Bool):∀(f i:Nat) (k:zci) (o o':List zci) (k':zci),(∀x∈o,KOk x)->zFT m zs ss r len acts signals f i k o=some (o',k')->∀x∈o',KOk x
 |0,i,k,o,o',k',h,e=>by cases e;exact h
 |f+1,i,k,o,o',k',h,e=>by
  unfold zFT at e;split at e
  ·rename_i hE;refine zGN hf r len acts signals f _ _ _ o' k' (fun x hx=>?_) e;rcases List.mem_append.1 hx with hx|hx
   ·exact h x hx
   ·rw[List.mem_singleton.1 hx];exact zFp hf.good hf.shal (zFh hf hE signals)
  ·cases e
theorem zGZ{m:zD}{zs:List Zon}{ss:List Sgn}(hf:zmq m zs ss)(r:List Int)(c:zGv)(k:zci)(acts:List Int)(n:Int)(signals:Bool):∀x∈(zGd m zs ss r c k acts n signals).1,KOk x:=by
 unfold zGd;split
 ·intro x hx;cases hx
 ·split
  ·intro x hx;cases hx
  ·cases h:zFT m zs ss r c.len acts signals n.toNat 0 k []with
   |none=>intro x hx;cases hx
   |some p =>
    obtain⟨o,k'⟩:=p;exact zGN hf r c.len acts signals _ _ _ [] o k' (by simp) h
theorem zGJ{m:zD}{zs:List Zon}{ss:List Sgn}(r:List Int)(len:Int)(acts:List Int)(signals:Bool):∀(f i:Nat) (k:zci) (o o':List zci) (k':zci),zFT m zs ss r len acts signals f i k o=some (o',k')->o'.length=o.length+f
 |0,i,k,o,o',k',e=>by cases e;rfl
 |f+1,i,k,o,o',k',e=>by
  unfold zFT at e;split at e
  ·have:=zGJ r len acts signals f _ _ _ o' k' e;simp at this;omega
  ·cases e
theorem zGW{m:zD}{zs:List Zon}{ss:List Sgn}(r:List Int)(c:zGv)(k:zci)(acts:List Int)(n:Int)(signals:Bool):(zGd m zs ss r c k acts n signals).1.length<=200:=by
 unfold zGd;split
 ·simp
 ·split
  ·simp
  ·cases h:zFT m zs ss r c.len acts signals n.toNat 0 k []with
   |none=>simp
   |some p =>
    obtain⟨o,k'⟩:=p;have:=zGJ r c.len acts signals _ _ _ [] o k' h;simp at this;simp only;omega
theorem zG5(r:List Int)(k:zci)(acts:List Int):R L Cs zF8 [.c (.rslice (zu r)),.a (zG k),.a [.rslice (zu acts)]] []=some (.w (Bo (decide (r.length<=10)&&decide (k.blobs.length<=12)&&decide (acts.length<=40))),[]):=by
 have e1:((r.length:Int)<=10)<->r.length<=10:=by omega
 have e2:((k.blobs.length:Int)<=12)<->k.blobs.length<=12:=by omega
 have e3:((acts.length:Int)<=40)<->acts.length<=40:=by omega
 rw[z4 zGc rfl];by_cases c1:r.length<=10<;>by_cases c2:k.blobs.length<=12<;>by_cases c3:acts.length<=40<;>simp[zFS,zG,e1,e2,e3,c1,c2,c3]
abbrev ppL(m:zD)(c:zGv)(acts:List Int)(k:zci):Mem:=[bx 5 (carC c),bx 6 (zG k),bx 1 [.rslice (zu acts)],bxv 1 5 (zf m),bxv 1 6 (zG k)]
theorem zGQ(m:zD)(c:zGv)(acts:List Int)(k:zci)(l:List zci)(hl:l.length<=200)(hk:∀x∈l,KOk x)   : ∀(t:List zci) (i:Nat),l.drop i=t->i<=l.length->Y L Cs zFL (some [17,19,21]) 5 [(17,.w (.c (.rslice (zFR l)))),(19,.w (.c (.rslice (zFR l)))),(21,.w (W i))] (ppL m c acts k) =
  some (.exit 0,[(81,.w (Bo false)),(19,.w (.c (.rslice (zFR l)))),(17,.w (.c (.rslice (zFR l)))),(21,.w (W l.length))],ppL m c acts k):=by
 intro t;induction t with
 |nil =>
  intro i hd hi;obtain rfl:=z5 hd hi;rw[zj zFL.eq_1];simp
 |cons x t ih =>
  intro i hd hi;obtain⟨hil,hx,hd'⟩:=zL hd;have hw:=zB (i:=i) (by omega);have hx':=hk l[i] (List.getElem_mem hil);have hS:=ztl l[i] l[i] hx'.len;rw[zwl]at hS;rw[<-ih (i+1) hd' hil,zj zFL.eq_1];simp only[zG]at hS;simp[hil,hw,hS,zG]
theorem zGC(n:Int)(r:List Int)(c:zGv)(k:zci)(hok:∀b∈k.blobs,OKB b)(acts:List Int)(hin:∀a∈acts,zk0 a)(ticks:Int)(signals:Bool) :
  R L Cs zFO [W n,.c (.rslice (zu r)),.a (carC c),.a (zG k),.a [.rslice (zu acts)],W ticks,Bo signals] []=some (.w (Bo true),[]):=by
 have haw:=Pl.R_awake;have hsh:=zG5 r k acts;obtain⟨m,zs,ss,hf,hM⟩:=zze n;rw[z4 zFY rfl];by_cases c1:r.length<=10/\k.blobs.length<=12/\acts.length<=40
 ·obtain⟨c1,c2,c3⟩:=c1;have e:(decide (r.length<=10)&&decide (k.blobs.length<=12)&&decide (acts.length<=40))=true:=by simp[c1,c2,c3]
  rw[e]at hsh;have hk:KOk k:=⟨by omega,hok⟩;have h1:=zy8 k (by omega);have h2:=zGX hf r (by omega) c k hk acts (by omega) hin ticks signals;have h3:=zGL hf r (by omega) c k hk acts (by omega) hin ticks signals;have h4:=ztl k k (by omega);rw[zwl]at h4;have hlen:=zGW (zs:=zs) (ss:=ss) (m:=m) r c k acts ticks signals;have h5:=zGQ m c acts k _ hlen (zGZ hf r c k acts ticks signals) _ 0 rfl (Nat.zero_le _);generalize (zGd m zs ss r c k acts ticks signals).1=o at *;generalize (zGd m zs ss r c k acts ticks signals).2=e at *;simp only[zf,zG,carC,Pl.carC]at hM hsh h1 h2 h3 h4;simp only[ppL,zf,zG,carC,Pl.carC,Int.natCast_zero]at h5;by_cases d1:12<ticks
  ·by_cases d2:ticks<=200
   ·simp (maxSteps:=1000000) [zFJ,zG,carC,Pl.carC,hsh,haw,d1,d2,zg]
   ·simp (maxSteps:=1000000) [zFJ,zG,carC,Pl.carC,hsh,haw,d1,d2,hM,h1,h2,h3,h4,h5,zg]
  ·simp (maxSteps:=1000000) [zFJ,zG,carC,Pl.carC,hsh,haw,d1,hM,h1,h2,h3,h4,h5,zg]
 ·have e:(decide (r.length<=10)&&decide (k.blobs.length<=12)&&decide (acts.length<=40))=false:=by
   by_cases a1:r.length<=10
   ·by_cases a2:k.blobs.length<=12
    ·by_cases a3:acts.length<=40
     ·exact absurd ⟨a1,a2,a3⟩ c1
     ·simp only[decide_eq_false a3,Bool.and_false]
    ·simp only[decide_eq_false a2,Bool.and_false,Bool.false_and]
   ·simp only[decide_eq_false a1,Bool.false_and]
  rw[e]at hsh;simp only[zG]at hsh;simp (maxSteps:=1000000) [zFJ,zG,carC,Pl.carC,hsh,haw,zg]
abbrev zHe:Sh:=.st [zmN,zmN,zmN,zmN,zmN]
theorem zG9{cs:List Cl}(h:zfo zHe cs):∃c:zGv,cs=carC c:=by
 simp only[zfo,znD]at h;obtain⟨_,_,rfl,⟨a1,rfl,_⟩,_,_,rfl,⟨a2,rfl,_⟩,_,_,rfl,⟨a3,rfl,_⟩,_,_,rfl,⟨a4,rfl,_⟩,_,_,rfl,⟨a5,rfl,_⟩,rfl⟩:=h;exact⟨⟨a1,a2,a3,a4,a5⟩,rfl⟩
theorem zGE:∀xs,zot [zmN,.slice zmN,zHe,zCg,.st [.slice zmN],zmN,.bool] xs->∃M',R L Cs zFO xs []=some (.w (.c (.bool true)),M'):=by
 intro xs h;simp only[zot]at h;obtain⟨c1,_,rfl,h1,c2,_,rfl,h2,c3,_,rfl,h3,c4,_,rfl,h4,c5,_,rfl,h5,c6,_,rfl,h6,c7,_,rfl,h7,rfl⟩:=h;obtain⟨c,rfl⟩:=zG9 h3;simp only[zfo,znD]at h1 h2 h5 h6 h7;obtain⟨n,rfl,_⟩:=h1;obtain⟨rows,rfl,_,hrows⟩:=h2;obtain⟨l,rfl,_⟩:=zxB (rows:=rows) (fun r hr=>by simp only[zfo];exact hrows r hr);obtain⟨k,rfl,hk⟩:=zBG h4;obtain⟨_,_,rfl,⟨rows',rfl,_,hrows'⟩,rfl⟩:=h5;obtain⟨acts,rfl,hacts⟩:=zxB (rows:=rows') (fun r hr=>by simp only[zfo];exact hrows' r hr);obtain⟨ticks,rfl,_⟩:=h6;obtain⟨b,rfl⟩:=h7;exact⟨[],zGC n l c k (fun b hb=>(hk.blobs b hb).ok) acts hacts ticks b⟩
theorem zq2(a:Int):R L [] zlc [W a] []=some (.w (Bo false),[]):=by
 rw[z4 zle rfl];simp[zfU]
theorem zn3(a:Int):R L [] zi5 [W a] []=some (.w (Bo false),[]):=by
 rw[z4 zi9 rfl];simp[ze6]
theorem zuB(a b:Int):R L [] zi6 [W a,W b] []=some (.w (W (zgQ a b)),[]):=by
 have h1:=zq2 a;have h2:=zq2 b;rw[z4 zja rfl];unfold zgQ;by_cases h:a<b
 ·simp[zb3,h1,h2,h]
 ·by_cases h':b<a
  ·simp[zb3,h1,h2,h,h']
  ·simp[zb3,h1,h2,h,h']
theorem zmv(a b:Int):R L [] zhQ [W a,W b] []=some (.w (W (zgQ a b)),[]):=by
 have h1:=zn3 a;have h2:=zn3 b;rw[z4 zhS rfl];unfold zgQ;by_cases h:a<b
 ·simp[zbq,h1,h2,h]
 ·by_cases h':b<a
  ·simp[zbq,h1,h2,h,h']
  ·simp[zbq,h1,h2,h,h']
theorem zxz(b:Bool):R L [] zhB [Bo b] []=some (.w (W (if b then 1 else 0)),[]):=by
 rw[z4 zp4 rfl];cases b<;>simp[zhF]
def orI(a b c d:Int):Int:=if a=0 then(if b=0 then(if c=0 then d else c) else b) else a
abbrev orE(a b c d:Int)(i:Int):Env:=[(7,.w (W 4)),(6,.w (.c (.rslice [[I a],[I b],[I c],[I d]]))),(3,.w (W 0)),(8,.w (W i))]
theorem or0(a b c d:Int):R L [] zob [.c (.rslice [[I a],[I b],[I c],[I d]])] []=some (.w (W (orI a b c d)),[]):=by
 have w1:IntKind.i64.wrap 1=1:=rfl;have w2:IntKind.i64.wrap 2=2:=rfl;have w3:IntKind.i64.wrap 3=3:=rfl;have w4:IntKind.i64.wrap 4=4:=rfl;have h4:Y L [] zab (some [7,6,3,8]) 0 (orE a b c d 4) []=some (.exit 0,[(9,.w (Bo false)),(3,.w (W 0)),(6,.w (.c (.rslice [[I a],[I b],[I c],[I d]]))),(7,.w (W 4)),(8,.w (W 4))],[]):=by
  rw[zj zab.eq_1];simp
 have h3:Y L [] zab (some [7,6,3,8]) 0 (orE a b c d 3) []=if d=0 then Y L [] zab (some [7,6,3,8]) 0 (orE a b c d 4) [] else some (.ret,[(2,.w (W d))],[]):=by
  rw[zj zab.eq_1];by_cases h:d=0
  ·simp[h,w4]
  ·have h':(d !=0)=true:=by simp[h]
   simp[h,h']
 have h2:Y L [] zab (some [7,6,3,8]) 0 (orE a b c d 2) []=if c=0 then Y L [] zab (some [7,6,3,8]) 0 (orE a b c d 3) [] else some (.ret,[(2,.w (W c))],[]):=by
  rw[zj zab.eq_1];by_cases h:c=0
  ·simp[h,w3]
  ·have h':(c !=0)=true:=by simp[h]
   simp[h,h']
 have h1:Y L [] zab (some [7,6,3,8]) 0 (orE a b c d 1) []=if b=0 then Y L [] zab (some [7,6,3,8]) 0 (orE a b c d 2) [] else some (.ret,[(2,.w (W b))],[]):=by
  rw[zj zab.eq_1];by_cases h:b=0
  ·simp[h,w2]
  ·have h':(b !=0)=true:=by simp[h]
   simp[h,h']
 have h0:Y L [] zab (some [7,6,3,8]) 0 (orE a b c d 0) []=if a=0 then Y L [] zab (some [7,6,3,8]) 0 (orE a b c d 1) [] else some (.ret,[(2,.w (W a))],[]):=by
  rw[zj zab.eq_1];by_cases h:a=0
  ·simp[h,w1]
  ·have h':(a !=0)=true:=by simp[h]
   simp[h,h']
 rw[h4]at h3;rw[h3]at h2;rw[h2]at h1;rw[h1]at h0;rw[z4 zow rfl];unfold orI;by_cases c1:a=0<;>by_cases c2:b=0<;>by_cases c3:c=0<;>by_cases c4:d=0<;>simp only[c1,c2,c3,c4,if_true,if_false]at h0 ⊢<;>simp[zfw,h0]
def zoG(b:Bool):Int:=if b then 1 else 0
def zu6(a b:Swp):Int:=orI (zgQ a.lane b.lane) (zgQ a.lo b.lo) (zgQ a.hi b.hi) (zoG a.cap-zoG b.cap)
theorem less0(a b:Swp):R L [] zar [.a (swC a),.a (swC b)] []=some (.w (W (zu6 a b)),[]):=by
 have h1:=zuB a.lane b.lane;have h2:=zmv a.lo b.lo;have h3:=zmv a.hi b.hi;have h4:R L [] zhB [Bo a.cap] []=some (.w (W (zoG a.cap)),[]):=zxz a.cap;have h5:R L [] zhB [Bo b.cap] []=some (.w (W (zoG b.cap)),[]):=zxz b.cap;have h6:=or0 (zgQ a.lane b.lane) (zgQ a.lo b.lo) (zgQ a.hi b.hi) (zoG a.cap-zoG b.cap);have w:IntKind.i64.wrap (zoG a.cap-zoG b.cap)=zoG a.cap-zoG b.cap:=by
  cases a.cap<;>cases b.cap<;>rfl
 unfold zu6;generalize zgQ a.lane b.lane=x1 at *;generalize zgQ a.lo b.lo=x2 at *;generalize zgQ a.hi b.hi=x3 at *;generalize zoG a.cap=o1 at *;generalize zoG b.cap=o2 at *;rw[z4 zsv rfl];simp[zjq,swC,h1,h2,h3,h4,h5,h6,w,zg,zX]
theorem zz5(a b:Swp):(zu6 a b<0)<->ltS a b=true:=by
 rw[zz2];unfold zu6 orI zgQ zoG;by_cases h1:a.lane<b.lane
 ·simp[h1]
 ·by_cases h2:b.lane<a.lane
  ·have:¬a.lane=b.lane:=by omega
   simp[h1,h2,this]
  ·have e1:a.lane=b.lane:=by omega
   by_cases h3:a.lo<b.lo
   ·simp[e1,h3]
   ·by_cases h4:b.lo<a.lo
    ·have:¬a.lo=b.lo:=by omega
     simp[e1,h3,h4,this]
    ·have e2:a.lo=b.lo:=by omega
     by_cases h5:a.hi<b.hi
     ·simp[e1,e2,h5]
     ·by_cases h6:b.hi<a.hi
      ·have:¬a.hi=b.hi:=by omega
       simp[e1,e2,h5,h6,this]
      ·have e3:a.hi=b.hi:=by omega
       cases a.cap<;>cases b.cap<;>simp[e1,e2,e3]
end Go.TrRun
namespace Go.Eng
open Go
theorem zsf [zb0]{P:Program}{cf:za4}(hcf:FnS P cf){f:FuncId}(hf:f<zb0.base){args:List WV}{vs:Array Value}{w:World}{σ:zP}{j:Inj}{M':Mem}{c:Int}(h:cf f args []=some (.w (.c (.int .i64 c)),M'))
  (hag:zM σ w) (hvs:zac σ j args vs.toList) (hm:MR (fun b=>w.heap.size<=b) σ j [] w) :
  Calls P f vs w fun e w'=>e=.returned (.int .i64 c)/\∃q os',w'=Go.Sort.grow (w.drewN q) os':=by
 obtain⟨_,_,_,_,hc⟩:=(hcf f args [] _ _ h (fun id hid=>by simp at hid)).1 hf;refine Calls.mono' (hc (fun b=>w.heap.size<=b) σ j w vs (fun _ h=>h) hag hm hvs) ?_;rintro e w' ⟨v,σ',j',rfl,hr,_,_,hst⟩;have hr:VC σ' j' (.int .i64 c) v:=hr;cases hr;refine⟨rfl,w'.drawn-w.drawn,w'.heap.extract w.heap.size w'.heap.size,?_⟩;have h1:=hst.side.os;have h2:=hst.side.output;have h3:=hst.side.tape;have h4:=hst.side.drawn;have h5:=hst.frame;have h6:=hst.size;cases w' with |mk heap tape drawn os output =>
 simp only at h1 h2 h3 h4 h5 h6;subst h1;subst h2;subst h3;unfold Go.Sort.grow World.drewN;simp only[World.mk.injEq,and_true,true_and];refine⟨?_,by omega⟩;apply Array.ext_getElem?;intro i;by_cases hi:i<w.heap.size
 ·rw[Array.getElem?_append_left hi];exact h5 i hi (by omega)
 ·rw[Array.getElem?_append_right (by omega),Array.getElem?_extract];by_cases hi2:i<heap.size
  ·rw[if_pos (by omega)]
   congr 1;omega
  ·rw[if_neg (by omega)];exact Array.getElem?_eq_none (by omega)
end Go.Eng
namespace Go.TrRun
open Go Go.Eng
theorem zxp(σ:zP)(j:Inj)(x:List Int):WVR σ j (.a (swC (zik x))) (.agg (ziq 4 7 x).toArray):=by
 refine⟨_,rfl,?_⟩;have e:(ziq 4 7 x).toArray.toList=[.int .i64 (x.getD 0 0),.int .i64 (x.getD 1 0),.int .i64 (x.getD 2 0),.bool (x.getD 3 0 !=0)]:=rfl;rw[e];refine⟨rfl,fun n c v hc hv=>?_⟩
 match n with
 |0=>cases hc;cases hv;exact .int _ _ _
 |1=>cases hc;cases hv;exact .int _ _ _
 |2=>cases hc;cases hv;exact .int _ _ _
 |3=>cases hc;cases hv;exact .bool _ _
 |n+4=>cases hc
def zAw(x y:List Int):Int:=zu6 (zik x) (zik y)
theorem zBC:(fun x y=>decide (zAw x y<0))=ltZ 4 7:=by
 funext x y;have h:=zz5 (zik x) (zik y);have e:ltS (zik x) (zik y)=ltZ 4 7 x y:=by
  have k1:∀z:List Int,zji (zik z)=zsY 4 7 z:=fun z=>by
   simp[zji,zik,zsY,List.range,List.range.loop,zgk]
  simp only[ltS,ltZ,k1,if_true]
 rw[e]at h;unfold zAw;cases hz:ltZ 4 7 x y with
 |true=>exact decide_eq_true (h.2 hz)
 |false =>
  refine decide_eq_false fun h'=>?_
  rw[h.1 h']at hz;cases hz
theorem zwK{P:Program}(hmix:P.follows .mixedOrders=true)(hL:(L.map fun p=>zcF P an true p.1)=L.map fun p=>some p.2)(hV:zql P L=true)(hf:zar<P.funcs.size)(x y:List Int)(W:World) :
  Calls P zar #[.agg (ziq 4 7 x).toArray,.agg (ziq 4 7 y).toArray] W fun e w'=>e=.returned (.int .i64 (zAw x y))/\∃q os',w'=Go.Sort.grow (W.drewN q) os':=by
 letI:=zww P fun f=>L.lookup f
 obtain⟨n,hn⟩:=zah.1 (less0 (zik x) (zik y));exact zsf (zsT hmix hL hV (Cs:=[]) rfl (fun c hc=>by cases hc) n) (f:=zar) hf hn (zml (W:=W) fun g row hr=>by cases hr) (.cons (zxp _ _ x) (.cons (zxp _ _ y) .nil)) MR.nil
end Go.TrRun
