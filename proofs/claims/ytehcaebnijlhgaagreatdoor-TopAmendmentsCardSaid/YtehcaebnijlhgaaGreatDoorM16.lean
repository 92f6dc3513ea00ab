import Derived.Test.YtehcaebnijlhgaaGreatDoorRows
import Derived.ProofKit
import Derived.LaidLaws
import Derived.Test.YtehcaebnijlhgaaGreatDoorM14
set_option linter.all false
set_option maxRecDepth 100000
set_option maxHeartbeats 9000000
namespace Go.Eng
open Go.Proofs Tryz
variable{RR:List UInt8→List ba→List ba→Prop}{a:bJ}{act:List bJ}{c:fo}{d date:Int}{i n:Nat}{k rn:List UInt8}{l l':bZ}{rs:List ba}{s:aL}{x:List (List UInt8×eO)}{α:Type}
def Dr{bad:dA→Bool}{l:List dA}:∀d,d≤l.length→(wU bad l d).2=0→∀j,(hj:j<l.length)→l.length-d≤j→bad l[j]=false
 | 0,_,_=>fun j hj h=>by omega
 | d+1,hd,h=>by obtain⟨j,hj⟩:∃j,l.length-(d+1)=j:=⟨_,rfl⟩;have e:d+1=l.length-j:=So;have hjl:j<l.length:=So;rw[e,rO hjl]at h;by_cases c1:bad l[j]=true;rw[Cg c1]at h;simp at h;rw[zE c1]at h;by_cases c2:(dF (fun x=>wP x l[j]) (l.take j) 0).2=true;rw[Cg c2]at h;simp at h;rw[zE c2,show l.length-(j+1)=d by omega]at h;have a2:=Dr d zo h;intro i hi hl;by_cases q:i=j;subst q;simpa using c1;exact a2 i hi zo
def GX(h:(eU l).1=0):∀t∈l.2.1,t.2.2.2.length≤64∧∀x∈t.2.2.2,jt x.1=true:=by
 have h1:(lq l).1=0:=by unfold eU at h;split at h;rename_i c;rw[h]at c;cases c;split at h;rename_i c;rw[h]at c;cases c;rename_i c;simpa using c
 intro t ht;obtain⟨i,hi,rfl⟩:=LW ht;unfold lq at h1;split at h1;exact absurd h1 cy;split at h1;rename_i j hj;exact absurd h1 (mD (f:=fun i=>(mG l i (l.2.1[i]?.getD Pr)).1) hj);rename_i hn;have h2:=oH hn i hi;rw[RY hi]at h2;have h2:(mG l i l.2.1[i]).1=0:=J3;unfold mG at h2;split at h2;exact absurd h2 cy;split at h2;exact absurd h2 cy;split at h2;rename_i c;simp at c;exact absurd h2 c;rename_i c;have c:(o5 l.2.1[i] l.1).2=0:=Ff;unfold o5 at c;split at c;exact absurd c cy;rename_i c64;split at c;exact absurd c cy;refine⟨So,fun x hx=>?_⟩;obtain⟨j,hj,rfl⟩:=LW hx;have hb:=Dr _ (Kl _) c j hj zo;unfold wh Ox at hb;simp at hb;cases q:jt (l.2.1[i].2.2.2[j]).1 with
 | true=>rfl
 | false=>rw[q]at hb;simp at hb
def kO(h:(eU l).1=0)(hs:s∈l.2.2):VSc l s:=by obtain⟨i,hi,rfl⟩:=LW hs;have:=Ae (BX h i hi);exact⟨this.2.2.2.1,this.2.2.2.2⟩
def xD{p:α→Bool}{l:List α}(h:0≤dL p l):∃i,∃hi:i<l.length,dL p l=(i:Int)∧p l[i]=true:=by
 unfold dL at h⊢;cases q:l.findIdx? p with
 | none=>rw[q]at h;simp at h
 | some i=>obtain⟨h1,h2,_⟩:=afx.1 q;exact⟨i,h1,Z,h2⟩
def wTo(r:ba)(d:Int):ba:=(r.1,r.2.1,r.2.2.1,r.2.2.2.1,(r.2.2.2.2.1.1,d),r.2.2.2.2.2)
inductive RRa(a:bJ)(sn:List UInt8):List ba→List ba→Prop
 | same (rs:List ba):RRa a sn rs rs
 | ins (rs:List ba) (d p:Int) (h1:a.1=1) (hn:sn=a.2.2.1):RRa a sn rs (rs++[(a.2.2.2.1,d,p,a.2.2.2.2.2.2.1,(a.2.1,109573),a.2.2.2.2.2.2.2.1,a.2.2.2.2.2.2.2.2.1,a.2.2.2.2.2.2.2.2.2.1)])
 | rep (rs:List ba) (q:Nat) (hq:q<rs.length) (h1:a.1=2) (hn:sn=a.2.2.1) (hr:rs[q].1=a.2.2.2.1) (hd:rs[q].2.2.2.2.1.1<a.2.1∧a.2.1<rs[q].2.2.2.2.1.2):RRa a sn rs (rs.set q (wTo rs[q] a.2.1))
inductive TTa(a:bJ):List dA→List dA→Prop
 | same (rs:List dA):TTa a rs rs
 | ins (rs:List dA):TTa a rs (rs++[((a.2.1,109573),(rwN a).2)])
 | rep (rs:List dA) (q:Nat) (hq:q<rs.length) (hd:rs[q].1.1<a.2.1∧a.2.1<rs[q].1.2):TTa a rs (rs.set q ((rs[q].1.1,a.2.1),rs[q].2))
structure LRel(RR:List UInt8→List ba→List ba→Prop)(TT:List dA→List dA→Prop)(l l':bZ):Prop where
 en:l'.1=l.1
 tn:l'.2.1.length=l.2.1.length
 tb:∀i,(h:i<l.2.1.length)→(h':i<l'.2.1.length)→(l'.2.1[i].1=l.2.1[i].1∧l'.2.1[i].2.1=l.2.1[i].2.1∧l'.2.1[i].2.2.1=l.2.1[i].2.2.1)∧TT l.2.1[i].2.2.2 l'.2.1[i].2.2.2
 sn:l'.2.2.length=l.2.2.length
 sc:∀i,(h:i<l.2.2.length)→(h':i<l'.2.2.length)→(l'.2.2[i].1=l.2.2[i].1∧l'.2.2[i].2.1=l.2.2[i].2.1∧l'.2.2[i].2.2.1=l.2.2[i].2.2.1∧l'.2.2[i].2.2.2.1=l.2.2[i].2.2.2.1)∧RR l.2.2[i].1 l.2.2[i].2.2.2.2 l'.2.2[i].2.2.2.2
def P6{k:Nat}(h:i<l.2.2.length)(h':i<(j4 l k rs).2.2.length):(j4 l k rs).2.2[i]=if i=k then(l.2.2[i].1,l.2.2[i].2.1,l.2.2[i].2.2.1,l.2.2[i].2.2.2.1,rs)else l.2.2[i]:=by have:=jQ h;simp only[j4,Qo,Oa,this]
def tbR_at{l:List bS}{k:Nat}{rs:List dA}(h:i<l.length)(h':i<(Jr l k rs).length):(Jr l k rs)[i]=if i=k then(l[i].1,l[i].2.1,l[i].2.2.1,rs)else l[i]:=by have:=rQ h;simp only[Jr,Qo,Oa,this]
def Ms{TT:List dA→List dA→Prop}{k:Nat}(hr:∀s rs,RR s rs rs)(ht:∀rs,TT rs rs)(hk:k<l.2.2.length)(h:RR l.2.2[k].1 l.2.2[k].2.2.2.2 rs):LRel RR TT l (j4 l k rs):=
 ⟨rfl,rfl,fun i h h'=>⟨⟨rfl,rfl,rfl⟩,ht _⟩,mu l k rs,fun i hi h'=>by rw[P6 hi h'];split;rename_i e;subst e;exact⟨⟨rfl,rfl,rfl,rfl⟩,h⟩;exact⟨⟨Z,Z,Z,Z⟩,hr _ _⟩⟩
def Mr{TT:List dA→List dA→Prop}{k:Nat}{rs:List dA}(hr:∀s rs,RR s rs rs)(ht:∀rs,TT rs rs)(hk:k<l.2.1.length)(h:TT l.2.1[k].2.2.2 rs):LRel RR TT l (ow l k rs):=
 ⟨rfl,m6 _ _ _,fun i hi h'=>by have e:(ow l k rs).2.1[i]=_:=tbR_at hi h';rw[e];split;rename_i e;subst e;exact⟨⟨rfl,rfl,rfl⟩,h⟩;exact⟨⟨Z,Z,Z⟩,ht _⟩,Z,fun i h h'=>⟨⟨Z,Z,Z,Z⟩,hr _ _⟩⟩
def DG(l:bZ)(a:bJ):LRel (RRa a) (TTa a) l (jh l a).2:=by
 have hr:∀s rs,RRa a s rs rs:=fun s rs=>.same rs;have ht:∀rs,TTa a rs rs:=fun rs=>.same rs;have hsc:∀{p:aL→Bool},0≤dL p l.2.2→∃i,∃hi:i<l.2.2.length,(dL p l.2.2).toNat=i∧p l.2.2[i]=true:=fun hp=>by obtain⟨i,h1,h2,h3⟩:=xD hp;exact⟨i,h1,So,h3⟩
 have hz:LRel (RRa a) (TTa a) l l:=⟨rfl,rfl,fun i h h'=>⟨⟨rfl,rfl,rfl⟩,ht _⟩,rfl,fun i h h'=>⟨⟨rfl,rfl,rfl,rfl⟩,hr _ _⟩⟩;have hzR:LRel (RRa a) (TTa a) l (j4 l (kA l a) (ci l (aU l a.2.2.1) l.2.2.length)):=by rw[pj];exact hz
 have hzT:LRel (RRa a) (TTa a) l (ow l (kB l a) (eH l.2.1 (kT l (tbN a)) l.2.1.length)):=by unfold ow;rw[qS];exact hz
 unfold jh;by_cases c1:a.1=1;rw[Cg c1];dsimp only;unfold lL;split;exact hzR;rename_i c;have hf:0≤dL (fun y:aL=>decide (y.1=a.2.2.1)) l.2.2:=by apply Int.not_lt.1;intro q;exact c (.inl q)
 obtain⟨i,h1,h2,h3⟩:=hsc hf;have e:kA l a=i:=by unfold kA aU;rw[Cg hf];exact h2
 rw[e];have e2:ci l (aU l a.2.2.1) l.2.2.length=l.2.2[i].2.2.2.2:=by rw[show aU l a.2.2.1=i from e,NB h1,jQ h1]
 rw[e2];exact Ms hr ht h1 (.ins _ _ _ c1 Av);rw[zE c1];by_cases c2:a.1=2;rw[Cg c2];dsimp only;unfold mK;split;exact hzR;rename_i g1;split;exact hzR;rename_i g2;split;exact hzR;rename_i g3;have hf:0≤dL (fun y:aL=>decide (y.1=a.2.2.1)) l.2.2:=So;obtain⟨i,h1,h2,h3⟩:=hsc hf;have e:kA l a=i:=by unfold kA aU;rw[Cg hf];exact h2
 have e2:ci l (aU l a.2.2.1) l.2.2.length=l.2.2[i].2.2.2.2:=by rw[show aU l a.2.2.1=i from e,NB h1,jQ h1]
 rw[e2]at g2 g3⊢;rw[e];obtain⟨q,q1,q2,q3⟩:=xD (show 0≤dL (fun y:ba=>decide (y.1=a.2.2.2.1)) l.2.2[i].2.2.2.2 by omega);rw[q2]at g3⊢;rw[K4]at g3⊢;rw[RY q1,YM]at g3;have g3:l.2.2[i].2.2.2.2[q].2.2.2.2.1.1<a.2.1∧a.2.1<l.2.2[i].2.2.2.2[q].2.2.2.2.1.2:=Classical.byContradiction fun z=>g3 z;have ec:Gv l.2.2[i].2.2.2.2 q a.2.1=l.2.2[i].2.2.2.2.set q (wTo l.2.2[i].2.2.2.2[q] a.2.1):=by unfold Gv wTo;rw[RY q1];rfl
 dsimp only;rw[ec];exact Ms hr ht h1 (.rep _ q q1 c2 Av (by simpa using q3) g3);rw[zE c2];have hst:∀{p:bS→Bool},0≤dL p l.2.1→∃i,∃hi:i<l.2.1.length,(dL p l.2.1).toNat=i:=fun hp=>by obtain⟨i,h1,h2,h3⟩:=xD hp;exact⟨i,h1,So⟩
 by_cases c3:a.1=3;rw[Cg c3];dsimp only;unfold NC;split;exact hzT;rename_i g1;have hf:0≤dL (fun y:bS=>decide (y.1=tbN a)) l.2.1:=So;obtain⟨i,h1,h2⟩:=hst hf;have e:kB l a=i:=by unfold kB kT;rw[Cg hf];exact h2
 have e2:eH l.2.1 (kT l (tbN a)) l.2.1.length=l.2.1[i].2.2.2:=by rw[show kT l (tbN a)=i from e,NA h1,rQ h1]
 rw[e2,e];exact Mr hr ht h1 (.ins _);rw[zE c3];dsimp only;unfold Iv;split;exact hzT;rename_i g1;split;exact hzT;rename_i g2;have hf:0≤dL (fun y:bS=>decide (y.1=tbN a)) l.2.1:=So;obtain⟨i,h1,h2⟩:=hst hf;have e:kB l a=i:=by unfold kB kT;rw[Cg hf];exact h2
 have e2:eH l.2.1 (kT l (tbN a)) l.2.1.length=l.2.1[i].2.2.2:=by rw[show kT l (tbN a)=i from e,NA h1,rQ h1]
 rw[e2]at g2⊢;rw[e];obtain⟨q,q1,q2,q3⟩:=xD (show 0≤dL (tj a) l.2.1[i].2.2.2 by omega);rw[q2];rw[K4];have ec:Gu l.2.1[i].2.2.2 q a.2.1=l.2.1[i].2.2.2.set q ((l.2.1[i].2.2.2[q].1.1,a.2.1),l.2.1[i].2.2.2[q].2):=by unfold Gu;rw[RY q1];rfl
 dsimp only;rw[ec];unfold tj at q3;simp only[YC,Ek]at q3;exact Mr hr ht h1 (.rep _ q q1 q3.2)
def Q2(h:(apR l a).2=0):(eU l).1=0∧¬(a.1<1∨4<a.1)∧(jh l a).1=0∧(apR l a).1=(jh l a).2∧(eU (jh l a).2).1=0:=by unfold apR at h⊢;split at h;exact MD;rename_i c;have c:eU l=(0,0,0,0):=Ff;unfold avR at h⊢;split at h;exact MD;rename_i c1;split at h;exact MD;rename_i c2;split at h;rename_i c3;exact absurd h c3;rename_i c3;split at h;rename_i c4;exact absurd h c4;rename_i c4;refine⟨by rw[c],c1,by simpa using c3,?_,by simpa using c4⟩;rw[zE (by rw[c];decide),zE c1,zE c2,zE c3,zE c4]
def LRel.imp{RR':List UInt8→List ba→List ba→Prop}{TT TT':List dA→List dA→Prop}(h:LRel RR TT l l')(hr:∀i,(hi:i<l.2.2.length)→∀qs,RR l.2.2[i].1 l.2.2[i].2.2.2.2 qs→RR' l.2.2[i].1 l.2.2[i].2.2.2.2 qs)(ht:∀t∈l.2.1,∀qs,TT t.2.2.2 qs→TT' t.2.2.2 qs):LRel RR' TT' l l':=
 ⟨h.en,h.tn,fun i h1 h2=>⟨(h.tb i h1 h2).1,ht _ (aA h1) _ (h.tb i h1 h2).2⟩,h.sn,fun i h1 h2=>⟨(h.sc i h1 h2).1,hr i h1 _ (h.sc i h1 h2).2⟩⟩
def LRel.comp{R1 R2 R3:List UInt8→List ba→List ba→Prop}{T1 T2 T3:List dA→List dA→Prop}{l'':bZ}(h:LRel R1 T1 l l')(g:LRel R2 T2 l' l'')(hr:∀n a b c,R1 n a b→R2 n b c→R3 n a c)(ht:∀a b c,T1 a b→T2 b c→T3 a c):LRel R3 T3 l l'':=
 ⟨g.en.trans h.en,g.tn.trans h.tn,fun i h1 h2=>by
 have h3:i<l'.2.1.length:=by rw[h.tn];exact h1
 obtain⟨⟨a1,a2,a3⟩,a4⟩:=h.tb i h1 h3;obtain⟨⟨b1,b2,b3⟩,b4⟩:=g.tb i h3 h2;exact⟨⟨b1.trans a1,b2.trans a2,b3.trans a3⟩,ht _ _ _ a4 b4⟩,g.sn.trans h.sn,fun i h1 h2=>by
 have h3:i<l'.2.2.length:=by rw[h.sn];exact h1
 obtain⟨⟨a1,a2,a3,a4⟩,a5⟩:=h.sc i h1 h3;obtain⟨⟨b1,b2,b3,b4⟩,b5⟩:=g.sc i h3 h2;rw[a1]at b5;exact⟨⟨b1.trans a1,b2.trans a2,b3.trans a3,b4.trans a4⟩,hr _ _ _ _ a5 b5⟩⟩
def LRel.refl{TT:List dA→List dA→Prop}(l:bZ)(hr:∀s rs,RR s rs rs)(ht:∀rs,TT rs rs):LRel RR TT l l:=⟨rfl,rfl,fun i h h'=>⟨⟨rfl,rfl,rfl⟩,ht _⟩,rfl,fun i h h'=>⟨⟨rfl,rfl,rfl,rfl⟩,hr _ _⟩⟩
def RlA.trans{r q s:ba}(h:RlA date r q)(g:RlA date q s):RlA date r s:=⟨h.df.trans g.df,h.pa.trans g.pa,h.pr.trans g.pr,h.va.trans g.va,h.gd.trans g.gd,h.vl.trans g.vl⟩
def RuA.trans{qs ts:List ba}(h:RuA date rs qs)(g:RuA date qs ts):RuA date rs ts:=
 ⟨wb h.len g.len,fun i hi=>(h.at_ i hi).trans (g.at_ i (F2 hi h.len)),fun i h1 h2=>by by_cases c:i<qs.length;rw[←(g.at_ i c).va];exact h.new i h1 c;exact g.new i zo h2⟩
def DRel(d:Int)(l l':bZ):Prop:=LRel (fun _ rs qs=>RuA d rs qs) (fun rs qs=>Kd d rs=Kd d qs) l l'
def Kq(hv:(eU l).1=0)(hd:d<a.2.1)(h:LRel (RRa a) (TTa a) l l'):DRel d l l':=by
 refine h.imp (fun i hi qs hq=>?_) (fun t ht qs hq=>?_);have hV:=kO hv (aA hi);generalize l.2.2[i]=s at *
 cases hq with
 | same=>exact RuA.refl _ _
 | ins d' p h1 hn=>exact RuA.app (Ac hd)
 | rep q hq h1 hn hr hdd=>
  refine RuA.set (fun _=>?_);have hc:=(vo (hV.rul q hq)).2.2.2;have e:ruK s q=s.2.2.2.2[q]:=by unfold ruK;rw[RY hq];rfl
  rw[e]at hc;exact⟨Z,Z,Z,BL hdd hd ⟨hc.1,hc.2.2⟩,Z,Z⟩
 have hT:=(GX hv t ht).2;generalize t.2.2.2=rs at *
 cases hq with
 | same=>rfl
 | ins=>exact(Pj (Ac hd)).symm
 | rep q hq hdd=>refine(Hk (fun _=>?_)).symm;have hv:jt (rs[q].1.1,rs[q].1.2)=true:=hT _ (aA hq);simp[jt]at hv;exact⟨BL (a:=rs[q].1.1) (b:=rs[q].1.2) (c:=a.2.1) hdd hd ⟨hv.1.1,hv.2⟩,Z⟩
def DRel.sc(h:DRel d l l')(h1:i<l.2.2.length)(h2:i<l'.2.2.length):ScA d l.2.2[i] l'.2.2[i]:=(LRel.sc h i h1 h2).2.sc (LRel.sc h i h1 h2).1.2.2.2.symm
def DRel.tab(h:DRel d l l'):l.2.1.length=l'.2.1.length∧∀k:Nat,TbA d (l.2.1[k]?.getD Fm) (l'.2.1[k]?.getD Fm):=⟨h.tn.symm,fun k=>by
 by_cases c:k<l.2.1.length;have c':k<l'.2.1.length:=by rw[h.tn];exact c
 obtain⟨⟨a1,a2,a3⟩,a4⟩:=h.tb k c c';rw[RY c,RY c'];exact⟨a2.symm,a3.symm,a4⟩;rw[jp zo,jp (by rw[h.tn];omega)];exact TbA.refl _ _⟩
def K1(act:List bJ)(sn rn:List UInt8):Prop:=∃a∈act,(a.1=1∨a.1=2)∧a.2.2.1=sn∧a.2.2.2.1=rn
structure RnE(act:List bJ)(sn:List UInt8)(r q:ba):Prop where
 nm:q.1=r.1
 df:q.2.1=r.2.1
 pa:q.2.2.1=r.2.2.1
 pr:q.2.2.2.1=r.2.2.2.1
 va:q.2.2.2.2.1=r.2.2.2.2.1∨K1 act sn r.1
 gv:q.2.2.2.2.2=r.2.2.2.2.2
structure RRn(act:List bJ)(sn:List UInt8)(rs qs:List ba):Prop where
 len:rs.length≤qs.length
 at_:∀i,(h:i<rs.length)→RnE act sn rs[i] (qs[i]'(F2 h len))
 new:∀i,rs.length≤i→(h:i<qs.length)→K1 act sn qs[i].1
def RnE.refl(act:List bJ)(sn:List UInt8)(r:ba):RnE act sn r r:=⟨rfl,rfl,rfl,rfl,.inl rfl,rfl⟩
def RRn.refl(act:List bJ)(sn:List UInt8)(rs:List ba):RRn act sn rs rs:=⟨Kl _,fun i h=>RnE.refl _ _ _,fun i h h2=>So⟩
def RRn.trans{act:List bJ}{sn:List UInt8}{rs qs ts:List ba}(h:RRn act sn rs qs)(g:RRn act sn qs ts):RRn act sn rs ts:=
 ⟨wb h.len g.len,fun i hi=>by
 have a:=h.at_ i hi;have b:=g.at_ i (F2 hi h.len);refine⟨b.nm.trans a.nm,b.df.trans a.df,b.pa.trans a.pa,b.pr.trans a.pr,?_,b.gv.trans a.gv⟩;rcases b.va with q|q;rcases a.va with z|z;exact .inl (q.trans z);exact .inr z;rw[a.nm]at q;exact .inr q,fun i h1 h2=>by
 by_cases c:i<qs.length;rw[(g.at_ i c).nm];exact h.new i h1 c;exact g.new i zo h2⟩
def Lz(ha:a∈act){sn:List UInt8}{qs:List ba}(h:RRa a sn rs qs):RRn act sn rs qs:=by
 cases h with
 | same=>exact RRn.refl _ _ _
 | ins d p h1 hn=>
  refine⟨Sp,fun i hi=>by rw[afz hi];exact RnE.refl _ _ _,fun i g1 g2=>?_⟩;have:i=rs.length:=by simp at g2;omega
  subst this;rw[afA (Kl _)];exact⟨a,ha,.inl h1,hn.symm,Sp⟩
 | rep q hq h1 hn hr hd=>refine⟨Sp,fun i hi=>?_,fun i g1 g2=>by rw[QC]at g2;omega⟩;rw[List.getElem_set];split;rename_i e;subst e;exact⟨Z,Z,Z,Z,.inr ⟨a,ha,.inr h1,hn.symm,hr.symm⟩,Z⟩;exact RnE.refl _ _ _
def NRel(act:List bJ)(l l':bZ):Prop:=LRel (RRn act) (fun _ _=>True) l l'
def RowB(x:dA):Prop:=OI x∧-9223372036854775808≤x.2.2.2∧x.2.2.2≤9223372036854775807
def RulB(r:ba):Prop:=WfR r∧fl r.2.2.2.2.2.1∧fl r.2.2.2.2.2.2.1
structure PL(n:Nat)(l:bZ):Prop where
 e1:l.1.length≤9∧∀e∈l.1,SmE e
 t1:l.2.1.length≤9
 t2:∀t∈l.2.1,t.1.length≤80∧t.2.2.2.length≤150+n∧∀x∈t.2.2.2,RowB x
 s1:l.2.2.length≤5
 s2:∀s∈l.2.2,(s.1.length≤80∧s.2.2.1.length≤14∧s.2.2.2.1.length≤14∧s.2.2.2.2.length≤60+n)∧(∀f∈s.2.2.1,IJ f)∧(∀f∈s.2.2.2.1,IJ f)∧∀r∈s.2.2.2.2,RulB r
structure WAm(a:bJ):Prop where
 nm:a.2.2.2.1.length≤9223372036854775807∧a.2.2.2.2.2.2.2.2.2.1.length≤9223372036854775807
 ln:a.2.2.2.2.2.2.2.1.length*16≤140737488355328∧a.2.2.2.2.2.2.2.2.1.length*16≤140737488355328
 nn:fl a.2.2.2.2.2.2.2.1∧fl a.2.2.2.2.2.2.2.2.1
 rw:RowB (rwN a)
def HG(h:PL n l)(hw:WAm a)(hs:LRel (RRa a) (TTa a) l l'):PL (n+1) l':=by
 refine⟨by rw[hs.en];exact h.e1,by rw[hs.tn];exact h.t1,fun t ht=>?_,by rw[hs.sn];exact h.s1,fun s hsm=>?_⟩;obtain⟨i,hi,rfl⟩:=LW ht;have h3:i<l.2.1.length:=by rw[←hs.tn];exact hi
 obtain⟨⟨a1,a2,a3⟩,a4⟩:=hs.tb i h3 hi;obtain⟨b1,b2,b3⟩:=h.t2 _ (aA h3);rw[a1];refine⟨b1,?_⟩;generalize l'.2.1[i].2.2.2=qs at *
 generalize l.2.1[i].2.2.2=rs at *
 cases a4 with
 | same=>exact⟨So,b3⟩
 | ins=>refine⟨QE,fun x hx=>?_⟩;rcases Nx.1 hx with hx|hx;exact b3 x hx;rw[J0.1 hx];exact hw.rw
 | rep q hq hd=>refine⟨QE,fun x hx=>?_⟩;rcases List.mem_or_eq_of_mem_set hx with hx|hx;exact b3 x hx;have hb:=b3 rs[q] (aA hq);rw[hx];exact hb
 obtain⟨i,hi,rfl⟩:=LW hsm;have h3:i<l.2.2.length:=by rw[←hs.sn];exact hi
 obtain⟨⟨a1,a2,a3,a4⟩,a5⟩:=hs.sc i h3 hi;obtain⟨⟨b1,b2,b3,b4⟩,b5,b6,b7⟩:=h.s2 _ (aA h3);rw[a1,a3,a4];have key:l'.2.2[i].2.2.2.2.length≤60+(n+1)∧∀r∈l'.2.2[i].2.2.2.2,RulB r:=by
  generalize l'.2.2[i].2.2.2.2=qs at *
  generalize l.2.2[i].2.2.2.2=rs at *
  cases a5 with
  | same=>exact⟨So,b7⟩
  | ins d p h1 hn=>refine⟨QE,fun x hx=>?_⟩;rcases Nx.1 hx with hx|hx;exact b7 x hx;rw[J0.1 hx];exact⟨hw.nm,hw.nn⟩
  | rep q hq h1 hn hr hd=>refine⟨QE,fun x hx=>?_⟩;rcases List.mem_or_eq_of_mem_set hx with hx|hx;exact b7 x hx;have hb:=b7 rs[q] (aA hq);rw[hx];exact hb
 exact⟨⟨b1,b2,b3,key.1⟩,b5,b6,key.2⟩
def PL.wf(h:PL n l)(hn:n≤40):FX l:=by refine⟨⟨by have:=h.e1.1;omega,by have:=h.t1;omega,by have:=h.s1;omega⟩,fun e he=>?_,fun t ht=>?_,fun s hs=>?_⟩;have:=h.e1.2 e he;exact⟨abu,abi,fun m hm=>by have:=this.2.2 m hm;omega⟩;obtain⟨b1,b2,b3⟩:=h.t2 t ht;exact⟨by show t.1.length≤_;omega,So⟩;obtain⟨⟨b1,b2,b3,b4⟩,b5,b6,b7⟩:=h.s2 s hs;refine⟨⟨So,b2,b3,So⟩,fun f hf=>?_,fun f hf=>?_,fun r hr=>(b7 r hr).1⟩;have:f.1.length≤80:=b5 f hf;show f.1.length≤_;omega;have:f.1.length≤80:=b6 f hf;show f.1.length≤_;omega
def PL.num(h:PL n l):vy l:=⟨fun t ht x hx=>((h.t2 t ht).2.2 x hx).1,fun s hs r hr=>((h.s2 s hs).2.2.2 r hr).2⟩
def PL.num2(h:PL n l):∀s∈l.2.2,∀r∈s.2.2.2.2,fl r.2.2.2.2.2.1∧fl r.2.2.2.2.2.2.1:=fun s hs r hr=>((h.s2 s hs).2.2.2 r hr).2
def Hp(h:VSc l s):∀r∈s.2.2.2.2,r.2.2.2.2.2.1.length≤48∧r.2.2.2.2.2.2.1.length≤48:=fun r hr=>by obtain⟨i,hi,rfl⟩:=LW hr;have h1:=GC (h.rul i hi);have h2:=vn (xK (h.rul i hi));rw[RY hi,YM]at h1 h2;refine⟨?_,h2⟩;rcases afr s.2.2.2.2[i].2.2.2.2.2.1.length with q|q;omega;exact vn (h1 q)
def PL.cln(h:PL n l)(hn:n≤40)(hv:(eU l).1=0):GO l:=by exact Uv
def PL.lim(h:PL n l)(hn:n≤40)(hv:(eU l).1=0):∀s∈l.2.2,tf s:=fun s hs=>ME ((h.wf hn).2.2.2 s hs) (kO hv hs).rul
def LT(hL:SmL l)(hN:vy l)(hT:∀t∈l.2.1,∀x∈t.2.2.2,-9223372036854775808≤x.2.2.2∧x.2.2.2≤9223372036854775807):PL 0 l:=by obtain⟨⟨h1,h2,h3⟩,hE,⟨hTb,hT2⟩,hS,_⟩:=hL;refine⟨⟨h1,hE⟩,h2,fun t ht=>⟨hTb t ht,?_,fun x hx=>⟨hN.1 t ht x hx,hT t ht x hx⟩⟩,h3,fun s hs=>?_⟩;have:=DF ht;omega;obtain⟨⟨q1,q2,q3,q4⟩,k1,k2,k3⟩:=hS s hs;refine⟨⟨q1,q2,q3,So⟩,k1,k2,fun r hr=>⟨?_,hN.2 s hs r hr⟩⟩;have:=k3 r hr;exact⟨abu,abi⟩
def C8{l:bZ}{act:List bJ}(hv:(eU l).1=0)(hp:PL 0 l)(hA:∀a∈act,WAm a):∀k,k≤act.length→(∀j,j<k→(apR (cur l act j) (act[j]?.getD aD)).2=0)→(eU (cur l act k)).1=0∧PL k (cur l act k)∧NRel act l (cur l act k)∧∀d,(∀a∈act,d<a.2.1)→DRel d l (cur l act k)
 | 0,_,_=>⟨hv,hp,LRel.refl l (fun s rs=>RRn.refl _ _ _) (fun _=>trivial),fun d _=>LRel.refl l (fun s rs=>RuA.refl _ _) (fun _=>rfl)⟩
 | k+1,hk,hok=>by
  obtain⟨i1,i2,i3,i4⟩:=C8 hv hp hA k zo (fun j hj=>hok j zo);have hkl:k<act.length:=So;have ha:act[k]?.getD aD∈act:=by rw[RY hkl];exact aA hkl
  obtain⟨s1,s2,s3,s4,s5⟩:=Q2 (hok k zo);have hs:=DG (cur l act k) (act[k]?.getD aD);have e:cur l act (k+1)=(jh (cur l act k) (act[k]?.getD aD)).2:=by rw[cur,s4]
  rw[e];refine⟨s5,HG i2 (hA _ ha) hs,i3.comp hs (fun n a b c h g=>h.trans (Lz ha g)) (fun _ _ _ _ _=>trivial),fun d hd=>?_⟩;exact(i4 d hd).comp (Kq i1 (hd _ ha) hs) (fun n a b c h g=>h.trans g) (fun _ _ _ h g=>h.trans g)
def act_q(hl:act.length≤8)(hv:(eU l).1=0)(hp:PL 0 l)(hA:∀a∈act,WAm a):∀k,k<act.length→(∀j,j<k→(apR (cur l act j) (act[j]?.getD aD)).2=0)→ApQ (cur l act k) (act[k]?.getD aD):=fun k hk hok=>by
 obtain⟨i1,i2,_⟩:=C8 hv hp hA k zo hok;have ha:act[k]?.getD aD∈act:=by rw[RY hk];exact aA hk
 have h3:=HG i2 (hA _ ha) (DG (cur l act k) (act[k]?.getD aD));exact⟨⟨i2.wf zo,i2.num⟩,fun _=>⟨i2.cln zo i1,(hA _ ha).ln,h3.wf zo,h3.num⟩⟩
def Q5:((wl l act).2.2≠0→0≤(wl l act).2.1∧(wl l act).2.1<(act.length:Int))∧((wl l act).2.2=0→(wl l act).1=cur l act act.length∧∀j,j<act.length→(apR (cur l act j) (act[j]?.getD aD)).2=0):=by
 unfold wl;cases q:qu act.length (fun k=>(apR (cur l act k) (act[k]?.getD aD)).2 != 0)with
 | some k=>have h1:=List.mem_of_find?_eq_some q;have h2:=mD (f:=fun k=>(apR (cur l act k) (act[k]?.getD aD)).2) q;have h1:k<act.length:=LF;exact⟨fun _=>⟨ads,ads⟩,fun h=>absurd h h2⟩
 | none=>exact⟨fun h=>absurd rfl h,fun _=>⟨rfl,fun j hj=>by have:=oH q j hj;simpa using this⟩⟩
def HA{s:aL}:∀{k:Nat},k≤s.2.2.2.2.length→∀x∈kp s k,∃j,∃h:j<s.2.2.2.2.length,j<k∧x=(s.2.2.2.2[j].1,(j:Int))
 | 0,_,x,hx=>by cases hx
 | k+1,h,x,hx=>by
  rw[kp]at hx;have ih:∀x∈kp s k,∃j,∃h:j<s.2.2.2.2.length,j<k+1∧x=(s.2.2.2.2[j].1,(j:Int)):=fun x hx=>by obtain⟨j,h1,h2,h3⟩:=HA (k:=k) zo x hx;exact⟨j,h1,So,h3⟩
  split at hx;exact ih x hx;rcases Nx.1 hx with hx|hx;exact ih x hx;have hx:=J0.1 hx;rw[RY (show k<s.2.2.2.2.length by omega)]at hx;exact⟨k,So,So,hx⟩
def B9{l:bZ}:∀{k:Nat},k≤l.2.2.length→∀x∈Nh l k,∃j,∃h:j<l.2.2.length,j<k∧x=(l.2.2[j].1,(l.2.2[j],kp l.2.2[j] l.2.2[j].2.2.2.2.length))
 | 0,_,x,hx=>by cases hx
 | k+1,h,x,hx=>by
  rw[Nh]at hx;have ih:∀x∈Nh l k,∃j,∃h:j<l.2.2.length,j<k+1∧x=(l.2.2[j].1,(l.2.2[j],kp l.2.2[j] l.2.2[j].2.2.2.2.length)):=fun x hx=>by obtain⟨j,h1,h2,h3⟩:=B9 (k:=k) zo x hx;exact⟨j,h1,So,h3⟩
  split at hx;exact ih x hx;rcases Nx.1 hx with hx|hx;exact ih x hx;have hx:=J0.1 hx;rw[jQ (show k<l.2.2.length by omega)]at hx;exact⟨k,So,So,hx⟩
def xM{l:List (List UInt8×α)}{x:α}(h:L7 l k=some x):(k,x)∈l:=by unfold L7 at h;rw[Option.map_eq_some_iff]at h;obtain⟨p,h1,h2⟩:=h;have h3:=List.find?_some h1;have h4:=List.mem_of_find?_eq_some h1;have h3:p.1=k:=Av;rw[←h2,←h3];exact h4
def N6{sn:List UInt8}(h:(jn (Nh l l.2.2.length) sn rn).2.2=true):∃k,∃hk:k<l.2.2.length,∃j,∃hj:j<l.2.2[k].2.2.2.2.length,jn (Nh l l.2.2.length) sn rn=(l.2.2[k],(j:Int),true)∧l.2.2[k].1=sn∧l.2.2[k].2.2.2.2[j].1=rn:=by
 cases q:L7 (Nh l l.2.2.length) sn with
 | none=>unfold jn at h;rw[q]at h;cases h
 | some p=>
  obtain⟨k,hk,_,e⟩:=B9 (Kl _) _ (xM q);injection e with e1 e2;cases q2:L7 p.2 rn with
  | none=>unfold jn at h;rw[q]at h;simp only at h;rw[q2]at h;cases h
  | some i=>have hm:=xM q2;rw[e2]at hm;obtain⟨j,hj,_,e3⟩:=HA (Kl _) _ hm;injection e3 with e4 e5;refine⟨k,hk,j,hj,?_,e1.symm,e4.symm⟩;unfold jn;rw[q];simp only;rw[q2,e5,e2]
def QD(s:aL)(x:List (List UInt8×eO))(q:Nat):List il:=
 if(jn x s.1 (s.2.2.2.2[q]?.getD YB).1).2.2=false then[(s.1,(s.2.2.2.2[q]?.getD YB).1,1)]else
 if FP s q (jn x s.1 (s.2.2.2.2[q]?.getD YB).1).1 (jn x s.1 (s.2.2.2.2[q]?.getD YB).1).2.1.toNat=false then[(s.1,(s.2.2.2.2[q]?.getD YB).1,3)]else[]
def qB(s:aL)(x:List (List UInt8×eO))(q:Nat):List il:=
 if(jn x s.1 (s.2.2.2.2[q]?.getD YB).1).2.2=false then[(s.1,(s.2.2.2.2[q]?.getD YB).1,2)]else[]
def eE(f:Nat→List il)(k:Nat):List il:=(List.range k).flatMap f
def xV(f:Nat→List il)(k:Nat):eE f (k+1)=eE f k++f k:=by unfold eE;rw[Jp,List.flatMap_append];simp
def mb{f:Nat→List il}{B:Nat}:∀{k:Nat},(∀i,i<k→(f i).length≤B)→(eE f k).length≤k*B
 | 0,_=>by simp[eE]
 | k+1,h=>by have:=mb (f:=f) (B:=B) (k:=k) (fun i hi=>h i zo);have h2:=h k zo;rw[xV,Yl,Qd];omega
def IU(s:aL)(x:List (List UInt8×eO))(q:Nat):(QD s x q).length≤1:=by unfold QD;split;simp;split<;>simp
def Fu(s:aL)(x:List (List UInt8×eO))(q:Nat):(qB s x q).length≤1:=by unfold qB;split<;>simp
def xC(l:bZ)(x:List (List UInt8×eO))(k:Nat):List il:=eE (QD (dz l k) x) (dz l k).2.2.2.2.length
def pG(l:bZ)(x:List (List UInt8×eO))(k:Nat):List il:=eE (qB (dz l k) x) (dz l k).2.2.2.2.length
def Kg(l nx:bZ):List il:=eE (xC l (Nh nx nx.2.2.length)) l.2.2.length
def PD(l nx:bZ):List il:=Kg l nx++eE (pG nx (Nh l l.2.2.length)) nx.2.2.length
def Hj(h:∀s∈l.2.2,s.2.2.2.2.length≤1000)(k:Nat):(dz l k).2.2.2.2.length≤1000:=by
 unfold dz;cases q:l.2.2[k]? with
 | none=>simp
 | some s=>exact h s (nL q)
def IT(h:∀s∈l.2.2,s.2.2.2.2.length≤1000)(k:Nat):(xC l x k).length≤1000:=by have h1:=mb (f:=QD (dz l k) x) (B:=1) (k:=(dz l k).2.2.2.2.length) (fun i _=>IU _ _ _);have h2:=Hj h k;unfold xC;omega
def On(h:∀s∈l.2.2,s.2.2.2.2.length≤1000)(k:Nat):(pG l x k).length≤1000:=by have h1:=mb (f:=qB (dz l k) x) (B:=1) (k:=(dz l k).2.2.2.2.length) (fun i _=>Fu _ _ _);have h2:=Hj h k;unfold pG;omega
def chg_ok(l nx:bZ)(hls:l.2.2.length≤1000)(hnl:nx.2.2.length≤1000)(hlr:∀s∈l.2.2,s.2.2.2.2.length≤1000)(hnr:∀s∈nx.2.2,s.2.2.2.2.length≤1000):Ct prog 14 [.tv bl l,.tv bl nx] (.tv (ag cw) (PD l nx)):=by
 refine Yk func14 ntmps14 fun w0 ok0=>?_;have hca:(Kg l nx).length≤1000000:=by have h1:=mb (f:=xC l (Nh nx nx.2.2.length)) (B:=1000) (k:=l.2.2.length) (fun i _=>IT hlr i);have h2:l.2.2.length*1000≤1000*1000:=bn _ hls;unfold Kg;omega
 refine Qh ?_;refine GP (an (wF l zo (fun s hs=>by have:=hlr s hs;omega)) (.cons (.b rfl) .nil) rfl rfl) (Y1 ?_);refine GP (an (wF nx zo (fun s hs=>by have:=hnr s hs;omega)) (.cons (.b rfl) .nil) rfl rfl) (dy ?_);refine jF 70 7 cw Z Z Z ?_;refine Y8 ?_;refine bf (ι:=Nat) (fun k=>⟨[(3,Sy 3 bl),(5,.tv (mf eG) (Nh l l.2.2.length)),(6,.tv (mf eG) (Nh nx nx.2.2.length)),(7,.own 70 cw.n 0 (eE (xC l (Nh nx nx.2.2.length)) k).length),(27,.tv (ag bw) l.2.2),(28,Sx l.2.2.length),(29,Sx ((k:Nat)))],[(3,⟨bl,[nx]⟩),(70,⟨cw,(eE (xC l (Nh nx nx.2.2.length)) k)⟩)]⟩) (fun k=>k≤l.2.2.length) (fun k=>l.2.2.length-k) 0 (P8 _) (fun a w hi=>(Sub.inv ⟨XX,XZ⟩ hi)) ?_;rintro k hk;have hbl:=mb (f:=xC l (Nh nx nx.2.2.length)) (B:=1000) (k:=k) (fun i _=>IT hlr i);have hbk:k*1000≤1000*1000:=bn _ zo;refine Z6 ?_ ?_<;>intro h4;have h4:k<l.2.2.length:=Yo;have hat:=jQ h4;have hrl:=hlr _ (aA h4);have hsk:(eE (xC l (Nh nx nx.2.2.length)) (k+1))=(eE (xC l (Nh nx nx.2.2.length)) k++eE (QD l.2.2[k] (Nh nx nx.2.2.length)) l.2.2[k].2.2.2.2.length):=by rw[xV];unfold xC;rw[hat]
 refine KO ?_;refine bf (ι:=Nat) (fun q=>⟨[(3,Sy 3 bl),(5,.tv (mf eG) (Nh l l.2.2.length)),(6,.tv (mf eG) (Nh nx nx.2.2.length)),(9,Sy 9 bw),(7,.own 70 cw.n 0 (eE (xC l (Nh nx nx.2.2.length)) k++eE (QD l.2.2[k] (Nh nx nx.2.2.length)) q).length),(27,.tv (ag bw) l.2.2),(28,Sx l.2.2.length),(29,Sx ((k:Nat))),(34,.tv (ag ct) l.2.2[k].2.2.2.2),(35,Sx (l.2.2[k].2.2.2.2.length)),(36,Sx ((q:Nat)))],[(3,⟨bl,[nx]⟩),(9,⟨bw,[l.2.2[k]]⟩),(70,⟨cw,(eE (xC l (Nh nx nx.2.2.length)) k++eE (QD l.2.2[k] (Nh nx nx.2.2.length)) q)⟩)]⟩) (fun q=>q≤l.2.2[k].2.2.2.2.length) (fun q=>l.2.2[k].2.2.2.2.length-q) 0 (P8 _) (fun a w hi=>(Sub.inv ⟨X8,Yf⟩ hi)) ?_;rintro q hq;have hbq:=mb (f:=QD l.2.2[k] (Nh nx nx.2.2.length)) (B:=1) (k:=q) (fun i _=>IU _ _ _);have haql:(eE (xC l (Nh nx nx.2.2.length)) k++eE (QD l.2.2[k] (Nh nx nx.2.2.length)) q).length≤3000000:=by simp only[Yl];omega
 refine Z6 ?_ ?_<;>intro h7;have h7:q<l.2.2[k].2.2.2.2.length:=fQ;have hge:l.2.2[k].2.2.2.2[q]?.getD YB=l.2.2[k].2.2.2.2[q]:=by rw[RY h7];rfl
 have hqs:(eE (xC l (Nh nx nx.2.2.length)) k++eE (QD l.2.2[k] (Nh nx nx.2.2.length)) (q+1))=(eE (xC l (Nh nx nx.2.2.length)) k++eE (QD l.2.2[k] (Nh nx nx.2.2.length)) q)++QD l.2.2[k] (Nh nx nx.2.2.length) q:=by rw[xV,←F3]
 refine KO ?_;refine YK (N5 _ _ _) ?_;refine zM Z (zJ (eS (.b Z)) (zJ (eR (.b Z)) (zJ (eQ (.b Z)) (Jk ?_ ?_))))<;>intro h10;have h10:(jn (Nh nx nx.2.2.length) l.2.2[k].1 l.2.2[k].2.2.2.2[q].1).2.2=false:=Qk;have hq1:eE (xC l (Nh nx nx.2.2.length)) k++eE (QD l.2.2[k] (Nh nx nx.2.2.length)) (q+1)=eE (xC l (Nh nx nx.2.2.length)) k++eE (QD l.2.2[k] (Nh nx nx.2.2.length)) q++[(l.2.2[k].1,l.2.2[k].2.2.2.2[q].1,1)]:=by rw[hqs];congr 1;unfold QD;rw[hge,Cg h10]
 refine Y6 ?_;refine zJ (aC PO Z pl60 (.cons (rt':=du) Z CD (.raw (.b Z) Z) (.cons (rt':=du) Z CC (.raw (.b Z) Z) (.cons (rt':=(ay .i64)) Z Gb (.raw (.b Z) Z) .nil)))) (zJ (bP (rt:=cw) Dw DA PO Z (.cons (.tv (.b Z)) .nil) Z Z) (zV [3,5,6,9,27,28,29,34,35,36] Dw DA PO by60 Z Z (.tv (.b Z)) ?_));refine Y8 ?_;exact SF;have h10:(jn (Nh nx nx.2.2.length) l.2.2[k].1 l.2.2[k].2.2.2.2[q].1).2.2=true:=Qk;obtain⟨kk,hkk,j,hj,hc,hn1,hn2⟩:=N6 h10;rw[hc];refine Y6 ?_;refine YK (aaZ l.2.2[k] q nx.2.2[kk] j h7 hj) ?_;refine zJ (co (.b Z)) (zZ ?_);refine Z0 ?_ ?_<;>intro h12;have h12:FP l.2.2[k] q nx.2.2[kk] j=false:=P9;have hq3:eE (xC l (Nh nx nx.2.2.length)) k++eE (QD l.2.2[k] (Nh nx nx.2.2.length)) (q+1)=eE (xC l (Nh nx nx.2.2.length)) k++eE (QD l.2.2[k] (Nh nx nx.2.2.length)) q++[(l.2.2[k].1,l.2.2[k].2.2.2.2[q].1,3)]:=by rw[hqs];congr 1;unfold QD;rw[hge,hc];simp only[K4];rw[zE cy,Cg h12]
 refine Y6 ?_;refine zJ (aC PO Z pl60 (.cons (rt':=du) Z CD (.raw (.b Z) Z) (.cons (rt':=du) Z CC (.raw (.b Z) Z) (.cons (rt':=(ay .i64)) Z Gb (.raw (.b Z) Z) .nil)))) (zJ (bP (rt:=cw) Dw DA PO Z (.cons (.tv (.b Z)) .nil) Z Z) (zV [3,5,6,9,27,28,29,34,35,36] Dw DA PO by60 Z Z (.tv (.b Z)) ?_));refine Y7 ?_;refine zQ [3,5,6,7,9,27,28,29,34,35,36] [3,9,70] ?_;exact SF;have h12:FP l.2.2[k] q nx.2.2[kk] j=true:=P9;have hq0:eE (xC l (Nh nx nx.2.2.length)) k++eE (QD l.2.2[k] (Nh nx nx.2.2.length)) (q+1)=eE (xC l (Nh nx nx.2.2.length)) k++eE (QD l.2.2[k] (Nh nx nx.2.2.length)) q:=by rw[hqs];unfold QD;rw[hge,hc];simp only[K4];rw[zE cy,zE Oz,Nk]
 refine Y7 ?_;exact SF;have h7:q=l.2.2[k].2.2.2.2.length:=Od;subst h7;exact Uw;have h4:k=l.2.2.length:=Kb;subst h4;refine Y7 ?_;rw[show eE (xC l (Nh nx nx.2.2.length)) l.2.2.length=Kg l nx++eE (pG nx (Nh l l.2.2.length)) 0 from(Nk _).symm];refine Y8 ?_;refine bf (ι:=Nat) (fun k=>⟨[(5,.tv (mf eG) (Nh l l.2.2.length)),(7,.own 70 cw.n 0 (Kg l nx++eE (pG nx (Nh l l.2.2.length)) k).length),(78,.tv (ag bw) nx.2.2),(79,Sx nx.2.2.length),(80,Sx ((k:Nat)))],[(70,⟨cw,(Kg l nx++eE (pG nx (Nh l l.2.2.length)) k)⟩)]⟩) (fun k=>k≤nx.2.2.length) (fun k=>nx.2.2.length-k) 0 (P8 _) (fun a w hi=>(Sub.inv ⟨XX,XZ⟩ hi)) ?_;rintro k hk;have hbl:=mb (f:=pG nx (Nh l l.2.2.length)) (B:=1000) (k:=k) (fun i _=>On hnr i);have hbk:k*1000≤1000*1000:=bn _ zo;refine Z6 ?_ ?_<;>intro h17;have h17:k<nx.2.2.length:=Gt;have hat:=jQ h17;have hrl:=hnr _ (aA h17);have hsk:(Kg l nx++eE (pG nx (Nh l l.2.2.length)) (k+1))=(Kg l nx++eE (pG nx (Nh l l.2.2.length)) k++eE (qB nx.2.2[k] (Nh l l.2.2.length)) nx.2.2[k].2.2.2.2.length):=by rw[xV];unfold pG;rw[hat,F3]
 refine KO ?_;refine bf (ι:=Nat) (fun q=>⟨[(5,.tv (mf eG) (Nh l l.2.2.length)),(16,Sy 16 bw),(7,.own 70 cw.n 0 (Kg l nx++eE (pG nx (Nh l l.2.2.length)) k++eE (qB nx.2.2[k] (Nh l l.2.2.length)) q).length),(78,.tv (ag bw) nx.2.2),(79,Sx nx.2.2.length),(80,Sx ((k:Nat))),(85,.tv (ag ct) nx.2.2[k].2.2.2.2),(86,Sx (nx.2.2[k].2.2.2.2.length)),(87,Sx ((q:Nat)))],[(16,⟨bw,[nx.2.2[k]]⟩),(70,⟨cw,(Kg l nx++eE (pG nx (Nh l l.2.2.length)) k++eE (qB nx.2.2[k] (Nh l l.2.2.length)) q)⟩)]⟩) (fun q=>q≤nx.2.2[k].2.2.2.2.length) (fun q=>nx.2.2[k].2.2.2.2.length-q) 0 (P8 _) (fun a w hi=>(Sub.inv ⟨X8,Yf⟩ hi)) ?_;rintro q hq;have hbq:=mb (f:=qB nx.2.2[k] (Nh l l.2.2.length)) (B:=1) (k:=q) (fun i _=>Fu _ _ _);have haql:(Kg l nx++eE (pG nx (Nh l l.2.2.length)) k++eE (qB nx.2.2[k] (Nh l l.2.2.length)) q).length≤3000000:=by simp only[Yl];omega
 refine Z6 ?_ ?_<;>intro h20;have h20:q<nx.2.2[k].2.2.2.2.length:=LE;have hge:nx.2.2[k].2.2.2.2[q]?.getD YB=nx.2.2[k].2.2.2.2[q]:=by rw[RY h20];rfl
 have hqs:(Kg l nx++eE (pG nx (Nh l l.2.2.length)) k++eE (qB nx.2.2[k] (Nh l l.2.2.length)) (q+1))=(Kg l nx++eE (pG nx (Nh l l.2.2.length)) k++eE (qB nx.2.2[k] (Nh l l.2.2.length)) q)++qB nx.2.2[k] (Nh l l.2.2.length) q:=by rw[xV,←F3]
 refine E0 ?_;refine YK (N5 _ _ _) ?_;refine zM Z (zJ (eS (.b Z)) (zJ (eR (.b Z)) (zJ (eQ (.b Z)) (Jk ?_ ?_))))<;>intro h23;have h23:(jn (Nh l l.2.2.length) nx.2.2[k].1 nx.2.2[k].2.2.2.2[q].1).2.2=false:=JD;have hq1:Kg l nx++eE (pG nx (Nh l l.2.2.length)) k++eE (qB nx.2.2[k] (Nh l l.2.2.length)) (q+1)=Kg l nx++eE (pG nx (Nh l l.2.2.length)) k++eE (qB nx.2.2[k] (Nh l l.2.2.length)) q++[(nx.2.2[k].1,nx.2.2[k].2.2.2.2[q].1,2)]:=by rw[hqs];congr 1;unfold qB;rw[hge,Cg h23]
 refine Y6 ?_;refine zJ (aC PO Z pl60 (.cons (rt':=du) Z CD (.raw (.b Z) Z) (.cons (rt':=du) Z CC (.raw (.b Z) Z) (.cons (rt':=(ay .i64)) Z Gb (.raw (.b Z) Z) .nil)))) (zJ (bP (rt:=cw) Dw DA PO Z (.cons (.tv (.b Z)) .nil) Z Z) (zV [5,16,78,79,80,85,86,87] Dw DA PO by60 Z Z (.tv (.b Z)) ?_));refine Y8 ?_;exact SO;have h23:(jn (Nh l l.2.2.length) nx.2.2[k].1 nx.2.2[k].2.2.2.2[q].1).2.2=true:=JD;have hq0:Kg l nx++eE (pG nx (Nh l l.2.2.length)) k++eE (qB nx.2.2[k] (Nh l l.2.2.length)) (q+1)=Kg l nx++eE (pG nx (Nh l l.2.2.length)) k++eE (qB nx.2.2[k] (Nh l l.2.2.length)) q:=by rw[hqs];unfold qB;rw[hge,zE aci,Nk]
 refine Y7 ?_;exact SO;have h20:q=nx.2.2[k].2.2.2.2.length:=abD;subst h20;exact Uw;have h17:k=nx.2.2.length:=KN;subst h17;refine Y6 ?_;refine nZ (rt:=cw) 70 7 (bQ 70 _) Z Z zo (a6 70 _) (bm 70 _) ?_;rw[Pv,FR];refine Y6 ?_;exact z1 results14 Z Z
def Sr{l:List (List UInt8×α)}(h:∃p∈l,p.1=k):∃x,L7 l k=some x:=by unfold L7;obtain⟨p,hp,e⟩:=h;have:(l.find? (fun p=>decide (p.1=k))).isSome=true:=List.find?_isSome.2 ⟨p,hp,Lm⟩;obtain⟨y,hy⟩:=Option.isSome_iff_exists.1 this;rw[hy];exact⟨_,rfl⟩
def IZ{l:List (List UInt8×α)}(h:(L7 l k).isSome=true):∃p∈l,p.1=k:=by obtain⟨x,hx⟩:=Option.isSome_iff_exists.1 h;exact⟨_,xM hx,Z⟩
def Ci{s:aL}:∀{k:Nat},k≤s.2.2.2.2.length→∀j,(hj:j<s.2.2.2.2.length)→j<k→∃p∈kp s k,p.1=s.2.2.2.2[j].1
 | 0,_,j,hj,h=>by omega
 | k+1,hk,j,hj,h=>by have hkl:k<s.2.2.2.2.length:=So;rw[kp,RY hkl,YM];split;rename_i c;by_cases e:j=k;subst e;exact IZ c;exact Ci zo j hj zo;by_cases e:j=k;subst e;exact⟨_,Nx.2 (.inr (J0.2 rfl)),rfl⟩;obtain⟨p,h1,h2⟩:=Ci (s:=s) (k:=k) zo j hj zo;exact⟨p,Nx.2 (.inl h1),h2⟩
def Ca{l:bZ}:∀{k:Nat},k≤l.2.2.length→∀j,(hj:j<l.2.2.length)→j<k→∃p∈Nh l k,p.1=l.2.2[j].1
 | 0,_,j,hj,h=>by omega
 | k+1,hk,j,hj,h=>by have hkl:k<l.2.2.length:=So;rw[Nh,jQ hkl];split;rename_i c;by_cases e:j=k;subst e;exact IZ c;exact Ca zo j hj zo;by_cases e:j=k;subst e;exact⟨_,Nx.2 (.inr (J0.2 rfl)),rfl⟩;obtain⟨p,h1,h2⟩:=Ca (l:=l) (k:=k) zo j hj zo;exact⟨p,Nx.2 (.inl h1),h2⟩
def G0{l:List α}{f:α→List UInt8}(h:∀i,(hi:i<l.length)→∀x∈l.take i,¬f x=f l[i]):∀i j,(hi:i<l.length)→(hj:j<l.length)→f l[i]=f l[j]→i=j:=fun i j hi hj e=>by
 have key:∀i j,(hi:i<l.length)→(hj:j<l.length)→f l[i]=f l[j]→¬i<j:=fun i j hi hj e hij=>
  h j hj l[i] (List.mem_take_iff_getElem.2 ⟨i,So,rfl⟩) e
 have h1:=key i j hi hj e;have h2:=key j i hj hi e.symm;omega
def Hg(hv:(eU l).1=0):∀i j,(hi:i<l.2.2.length)→(hj:j<l.2.2.length)→l.2.2[i].1=l.2.2[j].1→i=j:=
 G0 (f:=fun s:aL=>s.1) fun i hi=>(Ae (BX hv i hi)).1
def Pm(hv:VSc l s):∀i j,(hi:i<s.2.2.2.2.length)→(hj:j<s.2.2.2.2.length)→s.2.2.2.2[i].1=s.2.2.2.2[j].1→i=j:=
 G0 (f:=fun r:ba=>r.1) fun i hi=>by have:=(vo (hv.rul i hi)).1;exact W1
def N7(hv:(eU l).1=0){k q:Nat}(hk:k<l.2.2.length)(hq:q<l.2.2[k].2.2.2.2.length){sn:List UInt8}(hs:l.2.2[k].1=sn)(hr:l.2.2[k].2.2.2.2[q].1=rn):jn (Nh l l.2.2.length) sn rn=(l.2.2[k],(q:Int),true):=by
 have hf:(jn (Nh l l.2.2.length) sn rn).2.2=true:=by obtain⟨p,h1⟩:=Sr (l:=Nh l l.2.2.length) (k:=sn) (by rw[←hs];exact Ca (Kl _) k hk hk);obtain⟨k',hk',_,e⟩:=B9 (Kl _) _ (xM h1);injection e with e1 e2;have ek:k'=k:=Hg hv k' k hk' hk (by rw[hs,←e1]);subst ek;obtain⟨i,h2⟩:=Sr (l:=p.2) (k:=rn) (by rw[e2,←hr];exact Ci (Kl _) q hq hq);unfold jn;rw[h1];simp only;rw[h2]
 obtain⟨k',hk',j,hj,e,n1,n2⟩:=N6 hf;have ek:k'=k:=Hg hv k' k hk' hk (by rw[n1,hs]);subst ek;have ej:j=q:=Pm (kO hv (aA hk)) j q hj hq (by rw[n2,hr]);subst ej;exact e
def uz{f:Nat→List il}{k:Nat}{x:il}(h:x∈eE f k):∃i,i<k∧x∈f i:=by unfold eE at h;obtain⟨i,h1,h2⟩:=List.mem_flatMap.1 h;exact⟨i,LF,h2⟩
def KA{nx:bZ}(hv:(eU l).1=0)(hn:(eU nx).1=0)(h:NRel act l nx):∀x∈PD l nx,K1 act x.1 x.2.1:=fun x hx=>by
 unfold PD at hx;rcases Nx.1 hx with hx|hx;unfold Kg at hx;obtain⟨k,hk,hx⟩:=uz hx;unfold xC at hx;obtain⟨q,hq,hx⟩:=uz hx;rw[jQ hk]at hq hx;have hk':k<nx.2.2.length:=by rw[LRel.sn h];exact hk
 obtain⟨⟨a1,a2,a3,a4⟩,a5⟩:=LRel.sc h k hk hk';have hq':=F2 hq a5.len;have ae:=a5.at_ q hq;have hc:=N7 hn hk' hq' a1 ae.nm;unfold QD at hx;rw[RY hq,YM,hc]at hx;simp only[K4]at hx;rw[zE cy]at hx;split at hx;rename_i hsam;have hx:=J0.1 hx;rw[hx];show K1 act l.2.2[k].1 l.2.2[k].2.2.2.2[q].1;rcases ae.va with z|z;exfalso;have:FP l.2.2[k] q nx.2.2[k] q=true:=by
  unfold FP;rw[RY hq,RY hq'];simp only[YM];rw[Ek];refine⟨?_,by rw[ae.gv],by rw[ae.gv]⟩;unfold prP;rw[a4,ae.df,ae.pa,ae.pr,z,ae.gv];have hp:=(vo ((kO hv (aA hk)).rul q hq)).2.2.1;unfold ruK at hp;rw[RY hq,YM]at hp;have e2:(if 0≤l.2.2[k].2.2.2.2[q].2.2.1∧l.2.2[k].2.2.2.2[q].2.2.1<(l.2.2[k].2.2.2.2.length:Int)then(l.2.2[k].2.2.2.2[l.2.2[k].2.2.2.2[q].2.2.1.toNat]?.getD YB).1 else[])=(if 0≤l.2.2[k].2.2.2.2[q].2.2.1∧l.2.2[k].2.2.2.2[q].2.2.1<(nx.2.2[k].2.2.2.2.length:Int)then(nx.2.2[k].2.2.2.2[l.2.2[k].2.2.2.2[q].2.2.1.toNat]?.getD YB).1 else[]):=by rcases hp with hp|hp;rw[zE zo,zE zo];have g1:l.2.2[k].2.2.2.2[q].2.2.1.toNat<l.2.2[k].2.2.2.2.length:=So;have g2:=F2 g1 a5.len;rw[Cg zo,Cg zo,RY g1,RY g2];exact(a5.at_ _ g1).nm.symm
  rw[e2]
 rw[this]at hsam;cases hsam;exact z;cases hx;obtain⟨k,hk,hx⟩:=uz hx;unfold pG at hx;obtain⟨q,hq,hx⟩:=uz hx;rw[jQ hk]at hq hx;have hk':k<l.2.2.length:=by rw[←LRel.sn h];exact hk
 obtain⟨⟨a1,a2,a3,a4⟩,a5⟩:=LRel.sc h k hk' hk;unfold qB at hx;rw[RY hq,YM]at hx;by_cases c:q<l.2.2[k].2.2.2.2.length;have ae:=a5.at_ q c;have hc:=N7 hv hk' c a1.symm ae.nm.symm;rw[hc,zE Sp]at hx;cases hx;split at hx;have hx:=J0.1 hx;rw[hx];show K1 act nx.2.2[k].1 nx.2.2[k].2.2.2.2[q].1;rw[a1];exact a5.new q zo hq;cases hx
def VSc.zero(l:bZ):VSc l Qc:=⟨fun j hj=>(by cases hj),fun j hj=>(by cases hj)⟩
def PR{t:aL}(hs:s.2.1=t.2.1)(hn:l.2.2.length=l'.2.2.length)(hin:∀i,(h:i<l.2.2.length)→(h':i<l'.2.2.length)→l'.2.2[i].2.2.1=l.2.2[i].2.2.1):lH l s=lH l' t:=by unfold lH wW;rw[←hs];by_cases z:0≤s.2.1;rw[Cg z,Cg z];by_cases c:s.2.1.toNat<l.2.2.length;rw[RY c,RY (show s.2.1.toNat<l'.2.2.length by omega)];simp only;rw[hin _ c zo];rw[jp zo,jp zo];rw[zE z,zE z]
def OZ{t:aL}(h1:l.1=l'.1)(h2:s.2.2.1=t.2.2.1)(h3:lH l s=lH l' t):j5 l s c=j5 l' t c:=by unfold j5;rw[h1,h2,h3]
def RM{ms:aL}{tb:List bS}(h:(DV s ms c tb).2.2.1≠0):(DV s ms c tb).1=Kt:=by unfold DV at h⊢;split at h;rfl;split at h;rename_i q;rw[Cg q];exact absurd Z h
def Lw{nx:bZ}{scope:Int}(hv:(eU l).1=0)(hn:(eU nx).1=0)(h:DRel c.1 l nx):(lC nx scope c).1=(lC l scope c).1∧((lC l scope c).2.1=0↔(lC nx scope c).2.1=0):=by
 have hln:l.2.2.length=nx.2.2.length:=(LRel.sn h).symm;by_cases hs:scope<0∨(l.2.2.length:Int)≤scope;have key:∀l:bZ,(eU l).1=0→(scope<0∨(l.2.2.length:Int)≤scope)→lC l scope c=(Kt,(6,-1,-1,-1)):=fun l hv hs=>by
  have e:ckA l scope c false 0=(6,-1,-1,-1):=by unfold ckA;rw[zE (by rw[hv];decide),Cg (by rcases hs with q|q;exact .inl q;exact .inr (.inl q))]
  unfold lC;rw[e,Cg cy]
 rw[key l hv hs,key nx hn (by rw[←hln];exact hs)];exact⟨Z,Iff.rfl⟩;obtain⟨i,rfl⟩:∃i:Nat,scope=i:=⟨scope.toNat,So⟩;have hi:i<l.2.2.length:=So;have hi':i<nx.2.2.length:=So;obtain⟨⟨a1,a2,a3,a4⟩,a5⟩:=LRel.sc h i hi hi';have hin:∀i,(h1:i<l.2.2.length)→(h2:i<nx.2.2.length)→nx.2.2[i].2.2.1=l.2.2[i].2.2.1:=fun i h1 h2=>(LRel.sc h i h1 h2).1.2.2.1;have hC:j5 l l.2.2[i] c=j5 nx nx.2.2[i] c:=OZ (LRel.en h).symm a3.symm (PR a2.symm hln hin);have key:∀l:bZ,(eU l).1=0→∀hi:i<l.2.2.length,ckA l (i:Int) c false 0=if((j5 l l.2.2[i] c).2.2 != 0)=true then((j5 l l.2.2[i] c).2.2,(j5 l l.2.2[i] c).1,-1,-1)else(0,0,0,0):=fun l hv hi=>by unfold ckA;rw[zE (by rw[hv];decide),wx hi,zE (by rintro(q|q|⟨q,_⟩);omega;omega;cases q)]
 have hck:ckA nx (i:Int) c false 0=ckA l (i:Int) c false 0:=by rw[key nx hn hi',key l hv hi,hC]
 by_cases q:((ckA l (i:Int) c false 0).1 != 0)=true;unfold lC;rw[hck,Cg q,Cg q];exact⟨Z,Iff.rfl⟩;have e1:lC l (i:Int) c=((DV l.2.2[i] (bW l l.2.2[i]) c l.2.1).1,(DV l.2.2[i] (bW l l.2.2[i]) c l.2.1).2.2):=by unfold lC;rw[zE q,wx hi]
 have e2:lC nx (i:Int) c=((DV nx.2.2[i] (bW nx nx.2.2[i]) c nx.2.1).1,(DV nx.2.2[i] (bW nx nx.2.2[i]) c nx.2.1).2.2):=by unfold lC;rw[hck,zE q,wx hi']
 have hS:=h.sc hi hi';have hms:=w7 hv i hi;have hM:ScA c.1 (bW l l.2.2[i]) (bW nx nx.2.2[i])∧VSc l (bW l l.2.2[i])∧VSc nx (bW nx nx.2.2[i]):=by
  by_cases z:0≤l.2.2[i].2.1;have hj:l.2.2[i].2.1.toNat<l.2.2.length:=So;have hj':nx.2.2[i].2.1.toNat<nx.2.2.length:=by rw[a2];omega
  rw[wG z hj,wG (by rw[a2];exact z) hj'];refine⟨?_,kO hv (aA hj),kO hn (aA hj')⟩;have:=h.sc hj zo;simp only[a2];exact this;rw[yE z,yE (by rw[a2];exact z)];exact⟨ScA.refl _ _,VSc.zero _,VSc.zero _⟩
 have o1:=pg (kO hv (aA hi)) c.1;have o2:=pg (kO hn (aA hi')) c.1;have o3:=pg hM.2.1 c.1;have o4:=pg hM.2.2 c.1;have hT:=h.tab;have k1:=NU hS hM.1 hT o1 o2 o3 o4;have k2:=NU (tb:=nx.2.1) (ub:=l.2.1) hS.symm hM.1.symm ⟨hT.1.symm,fun k=>(hT.2 k).symm⟩ o2 o1 o4 o3;rw[e1,e2];dsimp only;by_cases g:(DV l.2.2[i] (bW l l.2.2[i]) c l.2.1).2.2.1=0;obtain⟨g1,g2⟩:=k1 g;exact⟨g1,fun _=>g2,fun _=>g⟩;have g':(DV nx.2.2[i] (bW nx nx.2.2[i]) c nx.2.1).2.2.1≠0:=fun q=>g (k2 q).2;rw[RM g,RM g'];exact⟨Z,fun q=>absurd q g,fun q=>absurd q g'⟩
def GT{en:List dN}{fs:List dG}{x:List aN}(h:x.length=fs.length∧∀i,(hi:i<x.length)→(hj:i<fs.length)→(x[i].1=fs[i].2.1∧x[i].2.1=fs[i].2.2)∧(cg fs[i].2 en).1≤x[i].2.2∧x[i].2.2≤(cg fs[i].2 en).2):∀k:Nat,k<(rz fs).length→kc (x[k]?.getD GD) (rf (rz fs) k):=fun k hk=>by
 have hk2:k<fs.length:=by simpa[rz]using hk
 have hk1:k<x.length:=So;have:=(h.2 k hk1 hk2).1;rw[RY hk1,YM];unfold rf rz;rw[K4,cr,RY hk2];exact this
def OY(h:(j5 l s c).2.2=0):∀k,(hk:k<c.2.2.length)→(oq l.1 c.2.2[k] (lH l s).1).2=0:=by unfold j5 at h;split at h;exact O8;split at h;rename_i q;exact absurd h q;split at h;exact O8;split at h;rename_i j hj;exact absurd h (mD (f:=fun i=>(oq l.1 (c.2.2[i]?.getD []) (lH l s).1).2) hj);rename_i hn;intro k hk;have:=oH hn k hk;rw[RY hk]at this;simpa using this
def NQ(hv:(eU l).1=0)(hN:vy l):∀i,(hi:i<l.2.2.length)→(j5 l l.2.2[i] c).2.2=0→(∀k,k<c.2.2.length→Qr (bW l l.2.2[i]) (k:Nat) (yF c l.2.1 k))∧(nP (bW l l.2.2[i]) c l.2.1 c.2.2.length=none→Qr l.2.2[i] (-1) (wX (bW l l.2.2[i]) c l.2.1)):=fun i hi hc=>by
 have hms:=w7 hv i hi;have hmS:=(Ae (BX hv i hi)).2.1;refine⟨fun k hk=>?_,fun _=>?_⟩;have hz:0≤l.2.2[i].2.1:=by rcases hms with q|q;exfalso;have:=Ds hc zo;rw[this]at hk;simp at hk;exact q.1
 have hj:l.2.2[i].2.1.toNat<l.2.2.length:=So;have hM:=wG hz hj;have hmm:(lH l l.2.2[i]).1=l.2.2[l.2.2[i].2.1.toNat].2.2.1:=by unfold lH wW;rw[Cg hz,RY hj]
 rw[hM];refine NS (kO hv (aA hj)) (hN.2 _ (aA hj)) ⟨?_,Z,?_⟩;have:=Oi (OY hc k hk);rw[hmm]at this;unfold yF;rw[RY hk];exact GT this;show[]=Cr l l.2.2[l.2.2[i].2.1.toNat];have h1:l.2.2[l.2.2[i].2.1.toNat].2.1 = -1:=by rcases hmS with q|q;omega;have:=q.2.2;rw[RY hj,YM]at this;exact this
 unfold Cr wW;rw[h1];rfl;refine NS (kO hv (aA hi)) (hN.2 _ (aA hi)) ⟨?_,Z,?_⟩;exact GT (Oi (K2 hc).2.1);show(bW l l.2.2[i]).2.2.2.1.map (fun f=>f.2)=Cr l l.2.2[i];by_cases z:0≤l.2.2[i].2.1;have hj:l.2.2[i].2.1.toNat<l.2.2.length:=So;rw[wG z hj];unfold Cr wW;rw[Cg z,RY hj];rfl;rw[yE z];unfold Cr wW;rw[zE z];rfl
def Jo(hv:(eU l).1=0)(hN:vy l):(∀s∈l.2.2,Pn s)∧∀s∈l.2.2,∀r∈s.2.2.2.2,0≤r.2.1∧r.2.1<(s.2.2.2.1.length:Int):=by
 refine⟨fun s hs r hr=>?_,fun s hs r hr=>?_⟩;obtain⟨i,hi,rfl⟩:=LW hr;have hV:=kO hv hs;obtain⟨t1,t2,t3⟩:=Ce hV hi;have hn:=hN.2 s hs _ hr;rw[pP hi,pO hi]at *
 refine⟨⟨?_,hn.1⟩,⟨.inr (im t2),hn.2⟩⟩;by_cases q:s.2.2.2.2[i].2.2.2.2.2.1.length=0;exact .inl q;exact .inr (im (t1 q));obtain⟨i,hi,rfl⟩:=LW hr;have:=(vo ((kO hv hs).rul i hi)).2.1;exact W1
def PL.llim(h:PL n l)(hn:n≤40)(hv:(eU l).1=0):OH l:=by exact Uv
def PL.tb(h:PL n l)(hv:(eU l).1=0):∀t∈l.2.1,t.2.2.2.length≤100∧∀x∈t.2.2.2,-9223372036854775808≤x.2.2.2∧x.2.2.2≤9223372036854775807:=fun t ht=>
 ⟨by have:=(GX hv t ht).1;omega,fun x hx=>((h.t2 t ht).2.2 x hx).2⟩
def PM{x:il}(h:K1 act x.1 x.2.1):act.any (En x)=true:=by obtain⟨a,ha,h1,h2,h3⟩:=h;refine Oo.2 ⟨a,ha,?_⟩;unfold En;simp[h1,h2,h3]
def KZ{b:Bool}(h:(!(dB (SmL l)&&dB (SmC c))||b)=false):FX l:=by rw[afn]at h;have h:=h.1;rw[Bool.not_eq_false',YC]at h;exact SmL.wf (we.1 h.1)
def JX(l:bZ)(act:List bJ)(scope:Int)(c:fo)(hw:WL l)(hN:vy l)(hT:∀t∈l.2.1,∀x∈t.2.2.2,-9223372036854775808≤x.2.2.2∧x.2.2.2≤9223372036854775807)(hA:∀a∈act,WAm a):Ct prog 4 [.tv bl l,.tv (ag cX) act,Sx scope,.tv gL c] (.raw (.bool true)):=by
 refine Yk func4 ntmps4 fun w0 ok0=>?_;refine zb ?_;refine YK (Jj l c hw) ?_;refine Y8 ?_;refine zG Z Z (fun hg=>an (ox l (KZ (eq_of_beq hg)) hN) (.cons (.gd Z hg) .nil) Z Z) (zG Z Z (fun hg=>nl Z E8 kQ gY (.gd Z hg)) (Z4 ?_ ?_))<;>intro h1;skip;refine zR (YK sy ?_);refine Y5 ?_;exact z1 results4 Z (Z);have h1:((SmL l∧SmC c)∧act.length≤8)∧(eU l).1=0:=by have h1:((dB (SmL l)=true∧dB (SmC c)=true)∧(act.length:Int)≤8)∧(eU l).1=0:=LF;exact⟨⟨⟨we.1 h1.1.1.1,we.1 h1.1.1.2⟩,by have:=h1.1.2;omega⟩,h1.2⟩
 obtain⟨⟨⟨hL,hC⟩,hl8⟩,hv⟩:=h1;have hp0:=LT hL hN hT;have hcl:c.2.2.length≤1000000:=wb hC.1.2 cy;obtain⟨hE1,hE2⟩:=Q5 (l:=l) (act:=act);refine Y6 ?_;refine zJ (an (act_ok l act hl8 (hp0.cln zo hv) (act_q hl8 hv hp0 hA)) (.cons (.b Z) (.cons (.b Z) .nil)) Z Z) (zM Z (zJ (eS (.b Z)) (zJ (eR (.b Z)) (zJ (eQ (.b Z)) (sm ?_ ?_)))))<;>intro h4;have h4:(wl l act).2.2≠0:=Yo;have hE3:=hE1 h4;refine dy ?_;refine zG Z Z (fun hg=>an sy .nil Z Z) (Y6 ?_);exact z1 results4 Z (rb (by simp[hE3.1,hE3.2]));have h4:(wl l act).2.2=0:=Yo;obtain⟨hnx,hok⟩:=hE2 h4;obtain⟨hvn,hpn,hnr,Yq⟩:=C8 hv hp0 hA act.length (Kl _) hok;have hcn:=KA hv hvn hnr;rw[hnx];refine Y6 ?_;refine zJ (an (chg_ok l (cur l act act.length) (by have:=hp0.s1;omega) (by have:=hpn.s1;omega) (fun s hs=>by have:=(hp0.s2 s hs).1;omega) (fun s hs=>by have:=(hpn.s2 s hs).1;omega)) (.cons (.b rfl) (.cons (.b rfl) .nil)) rfl rfl) (Qh ?_);refine fT 12 Z (fun hl12=>?_);refine bf (ι:=Nat) (fun k=>⟨[(1,.tv (ag cX) act),(2,Sx scope),(4,Sy 4 bl),(7,Sy 7 gL),(9,Sy 9 bl),(12,.tv (ag cw) (PD l (cur l act act.length))),(13,Sx ((k:Nat)))],[(4,⟨bl,[l]⟩),(7,⟨gL,[c]⟩),(9,⟨bl,[(cur l act act.length)]⟩)]⟩) (fun k=>k≤(PD l (cur l act act.length)).length) (fun k=>(PD l (cur l act act.length)).length-k) 0 (P8 _) (fun a w hi=>(zI hi)) ?_;rintro k hk;refine Z9 ?_ ?_<;>intro h8;have h8:k<(PD l (cur l act act.length)).length:=Qb;have hnk:=hcn _ (aA h8);refine Qh ?_;refine zD DA Z (YK (afd act (PD l (cur l act act.length))[k]) ?_);refine Z3 ?_ ?_<;>intro h10;exfalso;rw[PM hnk]at h10;simp at h10;skip;refine Y8 ?_;exact aE (fun a w hi=>⟨k+1,zj,zo,zI hi⟩);skip;refine zb ?_;refine bf (ι:=Nat) (fun k=>⟨[(1,.tv (ag cX) act),(2,Sx scope),(4,Sy 4 bl),(7,Sy 7 gL),(9,Sy 9 bl),(14,Sx ((k:Nat)))],[(4,⟨bl,[l]⟩),(7,⟨gL,[c]⟩),(9,⟨bl,[(cur l act act.length)]⟩)]⟩) (fun k=>k≤act.length∧∀j,(h:j<act.length)→j<k→c.1<act[j].2.1) (fun k=>act.length-k) 0 (⟨P8 _,fun j h hj=>So⟩) (fun a w hi=>(zI hi)) ?_;rintro k ⟨hk,hno⟩;refine Z9 ?_ ?_<;>intro h13;have h13:k<act.length:=NE;refine Qy ?_;refine aa ?_;refine Z0 ?_ ?_<;>intro h15;skip;refine zR (YK sy ?_);refine zY Z (aa (am (ax (al (b8 (ax (al ?_)))))));exact z1 results4 Z (Z);have h15:c.1<act[k].2.1:=LQ;refine Y7 ?_;refine zQ [1,2,4,7,9,14] [4,7,9] ?_;exact aE (fun a w hi=>⟨k+1,zj,(⟨So,fun j h hj=>by by_cases e:j=k;subst e;exact h15;exact hno j h zo⟩),(zI hi)⟩)
 have h13:act.length≤k:=NE;have hdd:=Yq c.1 (fun a ha=>by obtain⟨j,hj,rfl⟩:=LW ha;exact hno j hj zo)
 obtain⟨hr1,hr2⟩:=Lw (scope:=scope) hv hvn hdd;have hr3:((lC l scope c).2.1==0)=((lC (cur l act act.length) scope c).2.1==0):=by rw[MZ];simpa using hr2
 refine Qh ?_;refine zJ (an (Ho l scope c (hp0.wf zo) hp0.num (hp0.lim zo hv) hp0.num2 hcl (hp0.tb hv)) (.cons (.b Z) (.cons (.b Z) (.cons (.b Z) .nil))) Z Z) (Lc ?_);refine zJ (an (Ho (cur l act act.length) scope c (hpn.wf zo) hpn.num (hpn.lim zo hvn) hpn.num2 hcl (hpn.tb hvn)) (.cons (.b Z) (.cons (.b Z) (.cons (.b Z) .nil))) Z Z) (Lc ?_);refine zJ (an (Pl (cur l act act.length) scope c (hpn.wf zo) hpn.num (hpn.llim zo hvn) (hpn.lim zo hvn) hcl (hpn.tb hvn) (fun _=>Jo hvn hpn.num) (fun i hi _ _ hc=>NQ hvn hpn.num i hi hc)) (.cons (.b Z) (.cons (.b Z) (.cons (.b Z) .nil))) Z Z) (Qh ?_);rw[hr1];refine Y3 ?_;refine YK (DP _) ?_;refine Y7 ?_;refine zG Z Z (fun hg=>kJ QT (.gd Z hg) (.gd Z hg)) (Y4 ?_);refine zG Z Z (fun hg=>an (DP _) (.cons (.gd Z hg) (.cons (.gd Z hg) .nil)) Z Z) (Y4 ?_);refine zG Z Z (fun hg=>iM eq46 Z Z eg46 (.tv (.gd Z hg)) (.tv (.gd Z hg))) (Y2 ?_);refine zG Z Z (fun hg=>an sy .nil Z Z) (Y5 ?_);exact z1 results4 Z (rb (by rw[hr3];simp))
end Go.Eng
namespace Go.Proofs.YtehcaebnijlhgaaGreatDoor
open Go.Eng Tryz
open Go.ChangeShapes Go.WideShapes Go.ChangeAt Go.RowKit
set_option maxRecDepth 100000
def Er{β:Type}{g:Nat→Option β}:∀{l:List Nat} {ys:List β},l.mapM g=some ys→ys.length=l.length∧∀i (h:i<l.length),∃y,ys[i]?=some y∧g l[i]=some y
 | [],ys,h=>by
  have h:some []=some ys:=PW
  injection h with h;subst h
  exact⟨Z,fun i h=>ob⟩
 | a::l,ys,h=>by
  rw[List.mapM_cons]at h
  cases q:g a with
  | none=>rw[q]at h;cases h
  | some y=>
   rw[q]at h
   cases q2:l.mapM g with
   | none=>rw[q2]at h;cases h
   | some zs=>
    rw[q2]at h
    have h:some (y::zs)=some ys:=h
    injection h with h;subst h
    obtain⟨h1,h2⟩:=Er q2
    refine⟨Kz,fun i hi=>?_⟩
    cases i with
    | zero=>exact⟨y,rfl,q⟩
    | succ i=>
     obtain⟨z,g1,g2⟩:=h2 i Dq
     exact⟨z,by simpa using g1,by simpa using g2⟩
def Le{W:World}{fu:Nat}{c:Value}{n:Int}{p:List MemPlace}(h:DataW.trod (fun _=>()) Tryz.prog W 0 (fun _=>true) false fu 3 [c]=some (.lit (.int .i64 n),p)):c=.int .i64 n:=by
 cases fu with
 | zero=>simp[DataW.trod]at h
 | succ fu=>unfold DataW.trod at h;rw[Tryz.underlying3]at h;cases c<;>simp at h;obtain⟨⟨rfl,_⟩,rfl,_⟩:=h;rfl
def IM:List Int:=[31,28,31,30,31,30,31,31,30,31,30,31]
def QM{W:World}(h:laidMet Tryz.prog Rows.topAmendmentsRow.laid W):∃e fr,W.heap[3]?=some (.cells (IM.map (Value.int .i64)).toArray e fr):=by
 obtain⟨ps,⟨gg,t,cs,fu,p,q,h1,h2,h3,h4,_⟩,_⟩:=h;have hg:Tryz.prog.globalNamed "guerdon/date.monthLengths" = some 3:=f8;obtain rfl:gg=3:=Option.some.inj (h1.symm.trans hg);have ht:(Tryz.prog.globals[3]?).map (·.type)=some 375:=f8;obtain rfl:t=375:=Option.some.inj (h2.symm.trans ht);have h3:(some 3).bind (fun g=>match W.heap[g]? with|some (Obj.cells cs _ _)=>some cs|_=>none)=some cs:=by rw[←hg];exact h3
 have h3:(match W.heap[3]? with|some (Obj.cells cs _ _)=>some cs|_=>none)=some cs:=h3;split at h3;rename_i cs' e fr hh;injection h3 with h3;subst h3;refine⟨e,fr,?_⟩;rw[hh];cases fu with
 | zero=>simp[DataW.trod]at h4
 | succ fu=>
  unfold DataW.trod at h4;rw[Tryz.underlying375]at h4;have hc:Tryz.prog.cellsOf 375=12:=f8;have hc3:Tryz.prog.cellsOf 3=1:=f8;simp only[hc,hc3]at h4;split at h4;rename_i hl;rw[Option.map_eq_some_iff]at h4;obtain⟨xs,hx,hd⟩:=h4;obtain⟨g1,g2⟩:=Er hx;have hd:(DataW.agg (xs.map (·.1)):DataW Unit)=.agg (IM.map fun n=>.lit (.int .i64 n)):=congrArg Prod.fst hd;injection hd with hd;congr 2;apply Array.ext';apply List.ext_getElem;simp only[hl];rfl;intro i i1 i2;have i12:i<12:=by rw[←hl];exact i1
  obtain⟨y,y1,y2⟩:=g2 i (by simpa using i12);rw[Oa]at y2;have e1:(cs'.toList.drop (i*1)).take 1=[cs'.toList[i]]:=by rw[Nat.mul_one,qv i1];rfl
  rw[e1]at y2;have e2:=congrArg (·[i]?) hd;simp only[cr,y1,Lf]at e2;have i3:i<IM.length:=i12;rw[RY i3]at e2;simp only[Lf,Option.some.injEq]at e2;have:=Le (n:=IM[i]) (p:=y.2) (by rw[y2,←e2]);rw[this];simp;cases h4
 cases h3
def okP_of{W:World}(h:laidMet Tryz.prog Rows.topAmendmentsRow.laid W):OkP W (Old W):=by obtain⟨e,fr,he⟩:=QM h;refine⟨fun b h=>h,fun b cs hb=>?_⟩;obtain⟨rfl,rfl⟩:=hb;exact⟨(Gm.1 he).1,e,fr,he⟩
end Go.Proofs.YtehcaebnijlhgaaGreatDoor
