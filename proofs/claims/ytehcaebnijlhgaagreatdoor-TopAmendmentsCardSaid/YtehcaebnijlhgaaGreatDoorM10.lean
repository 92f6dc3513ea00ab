import Derived.Test.YtehcaebnijlhgaaGreatDoorM9
set_option linter.all false
set_option maxRecDepth 100000
set_option maxHeartbeats 9000000
namespace Go.Eng
open Go.Proofs Tryz
variable{S:Type}{a v:aN}{args vs:List aN}{b i k x:Nat}{code code' e:List aF}{d:aF}{env:cP}{f:Int→aN×Int}{h:Int→aN}{l:List (List aN)}{mode n op total:Int}{ops:List Int}{p:aN×Int}{s:S}
def qU(p:aN×Int):SV:=.tup2 (.tv aK p.1) (Sx p.2)
def cd{b:Int}(h:p=(a,b)):SV.tup2 (.tv aK a) (Sx b)=qU p:=Mc
def D7(a b:Int):Int×Int:=if 1000000000000000<a.natAbs*b.natAbs then(0,3)else(a*b,0)
def chg{a b:Int}(h:(decide (a<0) != decide (b<0))=true):a*b = -((a.natAbs*b.natAbs:Nat):Int):=by have h:¬(decide (a<0)=decide (b<0)):=PW;rw[Int.natCast_mul];rcases Int.lt_or_le a 0 with ha|ha<;>rcases Int.lt_or_le b 0 with hb|hb;exact absurd (by simp[ha,hb]) h;rw[afy zo,Int.natAbs_of_nonneg hb,Int.neg_mul,Int.neg_neg];rw[afy (a:=b) zo,Int.natAbs_of_nonneg ha,Int.mul_neg,Int.neg_neg];exact absurd QE h
def aeY{a b:Int}(h:(decide (a<0) != decide (b<0))=false):a*b=((a.natAbs*b.natAbs:Nat):Int):=by have h:decide (a<0)=decide (b<0):=PW;rw[Int.natCast_mul];rcases Int.lt_or_le a 0 with ha|ha<;>rcases Int.lt_or_le b 0 with hb|hb;rw[afy zo,afy (a:=b) zo,Int.neg_mul_neg];simp[ha]at h;omega;simp[hb]at h;omega;rw[Int.natAbs_of_nonneg ha,Int.natAbs_of_nonneg hb]
def scR(d:aF)(a b:aN):Int×Int:=
 if d.1=13 then D7 a.2.2 b.2.2 else if d.1=14∧a.1=3 then MH a.2.2 b.2.2 1000000 d.2 else if d.1=14 then KK a.2.2 b.2.2 d.2
 else if d.1=16 then KL a.2.2 b.2.2 d.2 else if b.1=2 then td a.2.2 b.2.2 d.2 else OU a.2.2 b.2.2 d.2
def QH(d:aF)(a b:aN):Int:=if d.1=13 then a.1 else if d.1=14 then a.1 else if d.1=16 then a.1 else if b.1=2 then a.1 else 4
def oz(d:aF)(a b:aN):aN×Int:=((QH d a b,0,(scR d a b).1),(scR d a b).2)
def unV(op:Int)(a:aN):aN:=if op=10 then(a.1,0,-a.2.2)else if op=25 then ny (decide (a.2.2=0))else if op=31 then(2,0,(gz a.2.2).1)else(2,0,(gz a.2.2).2.1)
def biV(d:aF)(a b:aN):aN×Int:=
 if d.1=11∨d.1=27 then((a.1,0,a.2.2+b.2.2),0)else if d.1=12 then((a.1,0,a.2.2-b.2.2),0)
 else if d.1=13∨d.1=14∨d.1=15∨d.1=16 then oz d a b
 else if d.1=17∨d.1=18 then(if decide (d.1=17)=decide (b.2.2<a.2.2)then(b,0)else(a,0))
 else if d.1=19 then(ny (decide (a.2.2=b.2.2)),0)else if d.1=20 then(ny (decide (a.2.2≠b.2.2)),0)
 else if d.1=21 then(ny (decide (a.2.2<b.2.2)),0)else if d.1=22 then(ny (decide (a.2.2≤b.2.2)),0)
 else if d.1=23 then(ny (decide (a.2.2=1)&&decide (b.2.2=1)),0)else if d.1=24 then(ny (decide (a.2.2=1)||decide (b.2.2=1)),0)
 else if d.1=28 then((5,0,(mZ a.2.2 b.2.2).1),(mZ a.2.2 b.2.2).2)else if d.1=29 then((2,0,b.2.2-a.2.2),0)else((2,0,FE a.2.2 b.2.2),0)
def mg(h:da v=true):-1000000000000000≤v.2.2∧v.2.2≤1000000000000000:=by
 unfold da jL at h;split at h;all_goals(simp at h;try omega)
 all_goals(repeat' (split at h))<;>(simp at h;try omega)
def aeZ(a b:Int)(ha:-1000000000000000≤a∧a≤1000000000000000)(hb:-1000000000000000≤b∧b≤1000000000000000):Ct prog 271 [Sx a,Sx b] (svD2 (D7 a b)):=by refine Yk func271 ntmps271 fun w0 ok0=>?_;have absa:(if a < -a then -a else a)=((a.natAbs:Nat):Int):=Jz;have absb:(if b < -b then -b else b)=((b.natAbs:Nat):Int):=Jz;refine Qh ?_;refine zJ (jx (.b Z) zw) (zJ (mQ (.b Z) (.b Z)) ?_);rw[absa];refine zJ (eW ⟨_,MV⟩ jZ (.b Z) (I9 zo)) (zM Z (zM Z (zJ (jx (.b Z) zw) (zJ (mQ (.b Z) (.b Z)) ?_))));rw[absb];refine zJ (eW ⟨_,MV⟩ jZ (.b Z) (I9 zo)) (zJ (an (rh zo zo) (.cons (.b Z) (.cons (.b Z) .nil)) Z Z) (Y9 ?_));obtain⟨p,hp⟩:∃p,a.natAbs*b.natAbs=p:=⟨_,rfl⟩;rw[hp];have hpb:p≤1000000000000000*1000000000000000:=hp▸Nat.mul_le_mul zo zo;have hpb:p≤1000000000000000000000000000000:=hpb;refine Z9 ?_ ?_<;>intro h2;have h2:1000000000000000<p:=MX;refine Y8 ?_;exact z2 results271 Z Z (rR (by unfold D7;rw[hp,Cg h2]));have h2:¬1000000000000000<p∧p%18446744073709551616=p:=MX;rw[h2.2];refine Y9 ?_;refine zJ (mj QT (.b Z) (.b Z)) (zZ ?_);refine Z0 ?_ ?_<;>intro h4;skip;refine zR (zM Z (zJ (eW ⟨_,jZ⟩ MV (.b Z) zw) (zJ (jx (.b Z) zw) (Y6 ?_))));exact z2 results271 Z Z (rR (by unfold D7;rw[hp,zE h2.1,chg h4,hp]));skip;refine Y5 ?_;refine zJ (eW ⟨_,jZ⟩ MV (.b Z) zw) (Y5 ?_);exact z2 results271 Z Z (rR (by unfold D7;rw[hp,zE h2.1,aeY h4,hp]))
def rS(d:aF)(a b:aN)(ha:da a=true)(hb:da b=true):Ct prog 258 [.tv aZ d,.tv aK a,.tv aK b] (qU (oz d a b)):=by refine Yk func258 ntmps258 fun w0 ok0=>?_;have qa:=mg ha;have qb:=mg hb;refine MY ?_;refine zJ (aC Qg Z eq (.cons (rt':=(ay .i64)) Z bU (.raw (.b Z) Z) .nil)) (Ks ?_ ?_)<;>intro h4;have h4:d.1=13:=Yo;refine Y5 ?_;refine YK (aeZ _ _ qa qb) ?_;exact Vf;have h4:¬(d.1=13):=Yo;refine sm ?_ ?_<;>intro h6;have h6:d.1=14∧a.1=3:=O3;refine Y7 ?_;refine YK (mdV _ _ _) ?_;exact Vf;have h6:¬(d.1=14∧a.1=3):=O3;refine Z8 ?_ ?_<;>intro h8;have h8:d.1=14:=Qb;refine Y7 ?_;refine YK (SCx _ _ _) ?_;exact Vf;have h8:¬(d.1=14):=Qb;refine Z8 ?_ ?_<;>intro h10;have h10:d.1=16:=Qk;refine Y7 ?_;refine YK (Yl2 _ _ _) ?_;exact Vf;have h10:¬(d.1=16):=Qk;refine Z8 ?_ ?_<;>intro h12;have h12:b.1=2:=P9;refine Y7 ?_;refine YK (oL _ _ _) ?_;refine Y6 ?_;refine zQ [6,8,9] [6,8] (aJ (aa (zR ?_)));refine Y7 ?_;exact aI results258 (aq aM rfl rfl rfl (Lens.id aK)) (ar rfl) ⟨rfl,rfl⟩ (cd XW);have h12:¬(b.1=2):=P9;refine MY ?_;refine YK (EvS _ _ _) ?_;exact Vf
def ae0(op:Int)(a:aN)(ha:da a=true):Ct prog 241 [Sx op,.tv aK a] (.tv aK (unV op a)):=by refine Yk func241 ntmps241 fun w0 ok0=>?_;have qa:=mg ha;refine Z19 ?_ ?_<;>intro h2;have h2:op=10:=J3;refine Y6 ?_;refine zJ (jx (.b Z) zw) (zJ (aC Qg Z eq (.cons (rt':=(ay .i64)) Z bU (.raw (.b Z) Z) (.cons (rt':=(ay .i64)) Z bj (.raw (.b Z) Z) .nil))) (Y6 ?_));exact Vs;have h2:¬op=10:=J3;refine Z6 ?_ ?_<;>intro h4;have h4:op=25:=Yo;refine Y5 ?_;refine YK (nw _) ?_;refine Y6 ?_;exact Vs;have h4:¬op=25:=Yo;refine Y7 ?_;refine YK (ue _) ?_;refine zM Z (zJ (eS (.b Z)) (zJ (eR (.b Z)) (zJ (eQ (.b Z)) (Jk ?_ ?_))))<;>intro h7;have h7:op=31:=fQ;refine zR (zM Z (zJ (aC Qg Z eq (.cons (rt':=(ay .i64)) Z bU (.raw (.b Z) Z) (.cons (rt':=(ay .i64)) Z bj (.raw (.b Z) Z) .nil))) (Y5 ?_)));exact Vs;have h7:¬op=31:=fQ;refine Y5 ?_;refine zJ (aC Qg Z eq (.cons (rt':=(ay .i64)) Z bU (.raw (.b Z) Z) (.cons (rt':=(ay .i64)) Z bj (.raw (.b Z) Z) .nil))) (Y4 ?_);exact Vs
def ae1(d:aF)(a b:aN)(ha:da a=true)(hb:da b=true):Ct prog 242 [.tv aZ d,.tv aK a,.tv aK b] (qU (biV d a b)):=by
 refine Yk func242 ntmps242 fun w0 ok0=>?_;have qa:=mg ha;have qb:=mg hb;refine Z24 ?_ ?_<;>intro h2;have g2:=h2;have h2:d.1=11:=J3;refine ak (aa ?_);refine bR Z g2 (ac ?_);refine Y8 ?_;exact TO;have g2:=h2;have h2:¬d.1=11:=J3;refine Z5 ?_ ?_<;>intro h3;have g3:=h3;have h3:d.1=27:=Av;exact TK;have g3:=h3;have h3:¬d.1=27:=Av;refine Z6 ?_ ?_<;>intro h5;have h5:d.1=12:=E3;exact TK;have h5:¬d.1=12:=E3;refine Z7 ?_ ?_<;>intro h7;have g7:=h7;have h7:d.1=13:=fQ;refine ak (aa ?_);refine bR Z g7 (ac ?_);exact Ux;have g7:=h7;have h7:¬d.1=13:=fQ;refine Z6 ?_ ?_<;>intro h8;have g8:=h8;have h8:d.1=14:=Qb;refine ak (aa ?_);refine bR Z g8 (ac ?_);exact Ux;have g8:=h8;have h8:¬d.1=14:=Qb;refine Z6 ?_ ?_<;>intro h9;have g9:=h9;have h9:d.1=15:=Qz;refine ak (aa ?_);refine bR Z g9 (ac ?_);exact Ux;have g9:=h9;have h9:¬d.1=15:=Qz;refine Z5 ?_ ?_<;>intro h10;have g10:=h10;have h10:d.1=16:=Qk;refine Y5 ?_;refine YK (rS _ _ _ ha hb) ?_;refine Y4 ?_;exact UI;have g10:=h10;have h10:¬d.1=16:=Qk;refine Z7 ?_ ?_<;>intro h12;have g12:=h12;have h12:d.1=17:=P9;refine ak (aa ?_);refine bR Z g12 (ac (ac ?_));refine Y9 ?_;exact S0;have g12:=h12;have h12:¬d.1=17:=P9;refine Z5 ?_ ?_<;>intro h13;have g13:=h13;have h13:d.1=18:=NE;refine dy ?_;exact S0;have g13:=h13;have h13:¬d.1=18:=NE;refine Z6 ?_ ?_<;>intro h17;have h17:d.1=19:=Gt;exact UH;have h17:¬d.1=19:=Gt;refine Z6 ?_ ?_<;>intro h19;have h19:d.1=20:=ab3;exact UH;have h19:¬d.1=20:=ab3;refine Z6 ?_ ?_<;>intro h21;have h21:d.1=21:=QX;exact UH;have h21:¬d.1=21:=QX;refine Z6 ?_ ?_<;>intro h23;have h23:d.1=22:=JD;refine Y7 ?_;refine YK (nw _) ?_;refine Y2 ?_;exact UI;have h23:¬d.1=22:=JD;refine Z6 ?_ ?_<;>intro h25;have h25:d.1=23:=Ew;exact UG;have h25:¬d.1=23:=Ew;refine Z6 ?_ ?_<;>intro h27;have h27:d.1=24:=Eu;exact UG;have h27:¬d.1=24:=Eu;refine Z6 ?_ ?_<;>intro h29;have h29:d.1=28:=aca;refine Y6 ?_;refine YK (BU _ _) ?_;refine Qh ?_;refine zJ (aC Qg Z eq (.cons (rt':=(ay .i64)) Z bU (.raw (.b Z) Z) (.cons (rt':=(ay .i64)) Z bj (.raw (.b Z) Z) .nil))) (Y8 ?_);exact U2;have h29:¬d.1=28:=aca;refine Z6 ?_ ?_<;>intro h32;have h32:d.1=29:=by simpa using h32
 refine Y7 ?_;exact TO;have h32:¬d.1=29:=by simpa using h32
 refine Y9 ?_;refine YK (aeS _ _) ?_;refine zJ (aC Qg Z eq (.cons (rt':=(ay .i64)) Z bU (.raw (.b Z) Z) (.cons (rt':=(ay .i64)) Z bj (.raw (.b Z) Z) .nil))) (Y5 ?_);exact U2
def ik(len n:Int):Int×Int×Bool:=
 if 1000000000000000<len.natAbs*n.natAbs/1000000 then(0,0,false)else if n<0 then(-((len.natAbs*n.natAbs/1000000:Nat):Int),-((len.natAbs*n.natAbs%1000000:Nat):Int),true)
 else(((len.natAbs*n.natAbs/1000000:Nat):Int),((len.natAbs*n.natAbs%1000000:Nat):Int),true)
def PU(h:-9223372036854775808≤n∧n≤9223372036854775807):n.natAbs<18446744073709551616:=So
def ae2(len n:Int)(hl:0<len∧len≤1000000000000000)(hn:-9223372036854775808≤n∧n≤9223372036854775807):Ct prog 254 [Sx len,Sx n] (Rk (ik len n)):=by
 refine Yk func254 ntmps254 fun w0 ok0=>?_;refine Qh ?_;refine zJ (eW ⟨_,MV⟩ jZ (.b Z) Z) (wz ?_ ?_)<;>intro h2
 ·have h2:=MW h2;refine ab (zM Z (zJ (jx (.b Z) (HP h2 hn.1)) (zY Z (aa (zR (zM Z (zJ (eW ⟨_,MV⟩ jZ (.b Z) (xp (n:=len) zo zo)) (zM Z (zJ (an (rh (PU zo) (PU hn)) (.cons (.b Z) (.cons (.b Z) .nil)) Z Z) (Po ?_ ?_))))))))))<;>intro h5;have k5:1000000≤(len.natAbs*n.natAbs)/18446744073709551616:=by have:=MW h5;omega
  have k6:=F7 cy k5;refine Y9 ?_;exact WY;have k5:(len.natAbs*n.natAbs)/18446744073709551616<1000000:=by have:=J8 h5;omega
  refine Y6 ?_;refine zJ (an (vi (y:=1000000) k5 cy (Na _ cy)) (.cons (.b Z) (.cons (.b Z) (.cons (.b Z) .nil))) Z Z) (Y6 ?_);rw[JC _ _];refine Z8 ?_ ?_<;>intro h8;exact Vw;have k8:(len.natAbs*n.natAbs)/1000000≤1000000000000000:=by have:=J8 h8;omega
  have k9:(len.natAbs*n.natAbs)%1000000<1000000:=Na _ cy;refine Z9 ?_ ?_<;>intro h10;exact Uy;first|(exact absurd h2 (J8 h10))|skip
  all_goals
   refine ak (aa (zR (zM Z (zJ (eW ⟨_,jZ⟩ MV (.b Z) zw) (zM Z (zJ (eW ⟨_,jZ⟩ MV (.b Z) zw) (Y6 ?_)))))))
   exact Yy
 have h2:=J8 h2;rw[xp h2 hn.2];refine Y5 ?_;refine zJ (eW ⟨_,MV⟩ jZ (.b Z) (xp (n:=len) zo zo)) (zM Z (zJ (an (rh (PU zo) (PU hn)) (.cons (.b Z) (.cons (.b Z) .nil)) Z Z) (Po ?_ ?_)))<;>intro h5;have k5:1000000≤(len.natAbs*n.natAbs)/18446744073709551616:=by have:=MW h5;omega
 have k6:=F7 cy k5;refine Y5 ?_;refine zQ [4,5,6] [] (aa (am (al ?_)));exact WY;have k5:(len.natAbs*n.natAbs)/18446744073709551616<1000000:=by have:=J8 h5;omega
 refine Y6 ?_;refine zJ (an (vi (y:=1000000) k5 cy (Na _ cy)) (.cons (.b Z) (.cons (.b Z) (.cons (.b Z) .nil))) Z Z) (Y6 ?_);rw[JC _ _];refine Z8 ?_ ?_<;>intro h8;exact Vw;have k8:(len.natAbs*n.natAbs)/1000000≤1000000000000000:=by have:=J8 h8;omega
 have k9:(len.natAbs*n.natAbs)%1000000<1000000:=Na _ cy;refine Z9 ?_ ?_<;>intro h10;exact Uy;first|(exact absurd h2 (J8 h10))|skip
 all_goals
  refine Y5 ?_
  refine zJ (eW ⟨_,jZ⟩ MV (.b Z) zw) (zM Z (zJ (eW ⟨_,jZ⟩ MV (.b Z) zw) (Y6 ?_)))
  exact Yy

def E5(total:Int)(mode:Int):Int:=E1 (kS (total.natAbs/1000000) (total.natAbs%1000000) 1000000 (decide (total<0)) mode) (decide (total<0))
def yk(q e r d:Nat)(neg:Bool)(mode:Int):kS (q+2*e) r d neg mode=kS q r d neg mode+2*e:=by
 have h:Om (q+2*e) r d neg mode=Om q r d neg mode:=by unfold Om;rw[show(q+2*e)%2=q%2 by omega]
 unfold kS;rw[h];split<;>omega
def AP(N:Int)(e:Nat)(mode:Int):(0<N→E5 (N+2*e*1000000) mode=E5 N mode+2*e)∧(N<0→E5 (N-2*e*1000000) mode=E5 N mode-2*e):=by constructor;intro h;have a1:(N+2*e*1000000).natAbs/1000000=N.natAbs/1000000+2*e:=So;have a2:(N+2*e*1000000).natAbs%1000000=N.natAbs%1000000:=So;unfold E5;rw[a1,a2,decide_eq_false (show ¬N+2*e*1000000<0 by omega),decide_eq_false (show ¬N<0 by omega),yk];unfold E1;simp;intro h;have a1:(N-2*e*1000000).natAbs/1000000=N.natAbs/1000000+2*e:=So;have a2:(N-2*e*1000000).natAbs%1000000=N.natAbs%1000000:=So;unfold E5;rw[a1,a2,decide_eq_true (show N-2*e*1000000<0 by omega),decide_eq_true h,yk];unfold E1;simp;omega
def ae3{N:Int}(h:-4611686018427387904≤N∧N≤4611686018427387904)(hm:fv mode=true):td N 1000000 mode=(E5 N mode,0):=by
 have b1:vq N 4611686018427387904=false:=by simp[vq];omega
 have b2:vq 1000000 4611686018427387904=false:=cy;unfold td;rw[zE (by simp[hm]),zE cy,zE (by simp[b1,b2])];have e:ma N 1000000=decide (N<0):=by unfold ma;rw[decide_eq_false (show ¬(1000000:Int)<0 by decide)];simp
 unfold E5 AD;rw[e];rfl
def ae4:(1000000000000000<total.natAbs/1000000→1000000000000000<(E5 total mode).natAbs):=by intro h;unfold E5;have:=(rT (total.natAbs/1000000) (total.natAbs%1000000) 1000000 (decide (total<0)) mode).2;have:=B7 (kS (total.natAbs/1000000) (total.natAbs%1000000) 1000000 (decide (total<0)) mode) (decide (total<0));omega
def MI(total mode:Int):Int×Int:=if 1000000000000000<(E5 total mode).natAbs then(0,3)else(E5 total mode,0)
def nO(W p:Int):Int:=if W>1 then p+2 else if W < -1 then p-2 else p
def w64c{e v:Int}(h:e=v)(hb:-9223372036854775808≤v∧v≤9223372036854775807):IntKind.i64.wrap e=v:=by rw[h];exact N2 hb
def ae5{W p Rm:Int}(hp:W=2*((W-p)/2)+p)(hs:(0≤W→0≤p∧p≤1)∧(W≤0→-1≤p∧p≤0))(hr:-1000000<Rm∧Rm<1000000):
 W-nO W p+E5 (nO W p*1000000+Rm) mode=E5 (W*1000000+Rm) mode∧-3≤nO W p∧nO W p≤3:=by unfold nO;by_cases h1:W>1;rw[Cg h1];obtain⟨e,he⟩:∃e:Nat,(e:Int)=(W-p)/2-1:=⟨((W-p)/2-1).toNat,So⟩;have:=(AP ((p+2)*1000000+Rm) e mode).1 zo;rw[show W*1000000+Rm=(p+2)*1000000+Rm+2*e*1000000 by omega,this];omega;rw[zE h1];by_cases h2:W < -1;rw[Cg h2];obtain⟨e,he⟩:∃e:Nat,(e:Int) = -((W-p)/2)-1:=⟨(-((W-p)/2)-1).toNat,So⟩;have:=(AP ((p-2)*1000000+Rm) e mode).2 zo;rw[show W*1000000+Rm=(p-2)*1000000+Rm-2*e*1000000 by omega,this];omega;rw[zE h2];have:W=p:=So;subst this;omega
def tvR_bd(h:-2000001000000000000000≤total∧total≤2000001000000000000000):-5000000000000000≤E5 total mode∧E5 total mode≤5000000000000000:=by have h1:=(rT (total.natAbs/1000000) (total.natAbs%1000000) 1000000 (decide (total<0)) mode).1;have h2:=B7 (kS (total.natAbs/1000000) (total.natAbs%1000000) 1000000 (decide (total<0)) mode) (decide (total<0));unfold E5;omega
def ae6(w mi mode Q Rm p:Int)(hm:fv mode=true)(hw:-100000000000000000≤w∧w≤100000000000000000)(hmi:-1000000000000≤mi∧mi≤1000000000000)(hQ:mi.tdiv 1000000=Q)(hR:mi.tmod 1000000=Rm)(hRm:-1000000<Rm∧Rm<1000000)(hqr:mi=Q*1000000+Rm)(hp:(w+Q).tmod 2=p)(hp2:w+Q=2*((w+Q-p)/2)+p)(hps:(0≤w+Q→0≤p∧p≤1)∧(w+Q≤0→-1≤p∧p≤0))(htot:w*1000000+mi=(w+Q)*1000000+Rm):Ct prog 255 [Sx w,Sx mi,Sx mode] (Au (MI (w*1000000+mi) mode)):=by
 refine Yk func255 ntmps255 fun w0 ok0=>?_;refine Qh ?_;refine zJ (i9 (.b Z) (.b Z) zo (w64c hQ zo)) (Y7 ?_);refine zJ (gc (.b Z) (.b Z) zo hR) (Po ?_ ?_)<;>intro h3;skip;refine Y8 ?_;exact z2 results255 rfl rfl (dp (by unfold MI;rw[Cg (ae4 (by rw[JO]at h3;rcases h3 with z|z<;>have z:=MW z<;>omega))]));have k3:=Eg h3;have k4:=J8 k3.1;have k5:=J8 k3.2;refine Y5 ?_;refine zJ (gc (.b Z) (.b Z) zo hp) (zY Z (aa (ac ?_)));refine EO (ι:=Unit) (fun _=>⟨[(0,Sx (w+Q)),(1,Sx Rm),(2,Sx mode),(8,Sx ((nO (w+Q) p)))],[]⟩) (fun _=>True) ?_ ?_;skip;refine Z8 ?_ ?_<;>intro h6;have h6:=MW h6;exact Ug;have h6:=J8 h6;refine Z7 ?_ ?_<;>intro h8;have h8:=MW h8;exact Ug;have h8:=J8 h8;refine ak (aJ ?_);exact aE (fun a w hi=>⟨(),trivial,Sub.inv ⟨XM,YW⟩ hi⟩);rintro _ -
 refine aa (ac ?_);have kl:=ae5 (W:=w+Q) (p:=p) (Rm:=Rm) (mode:=mode) hp2 hps hRm;refine Y6 ?_;refine zJ (an (show Ct _ _ _ (.tup2 (Sx (E5 ((nO (w+Q) p)*1000000+Rm) mode)) (Sx 0))from(by have:=oL ((nO (w+Q) p)*1000000+Rm) 1000000 mode;rw[ae3 zo hm]at this;exact this)) (.cons (.b rfl) (.cons (.b rfl) (.cons (.b rfl) .nil))) rfl rfl) (Po ?_ ?_)<;>intro h11;exact absurd h11 cy;have kt:=kl.1;have ktb:-5000000000000000≤E5 ((w+Q)*1000000+Rm) mode∧E5 ((w+Q)*1000000+Rm) mode≤5000000000000000:=tvR_bd zo;refine Y8 ?_;refine zU Z Z (w64c kt zo) (Po ?_ ?_)<;>intro h14;skip;refine Y8 ?_;exact z2 results255 rfl rfl (dp (by unfold MI;rw[Cg (by rw[JO]at h14;rcases h14 with z|z<;>have z:=MW z<;>rw[htot]<;>omega)]));have q1:=Eg h14;have q2:=J8 q1.1;have q3:=J8 q1.2;refine Y7 ?_;refine zQ [6,7] [] (aa (am ?_));exact z2 results255 Z Z (dp (by unfold MI;rw[htot,zE zo]))
def ae7(w mi mode:Int)(hm:fv mode=true)(hw:-100000000000000000≤w∧w≤100000000000000000)(hmi:-1000000000000≤mi∧mi≤1000000000000):Ct prog 255 [Sx w,Sx mi,Sx mode] (Au (MI (w*1000000+mi) mode)):=by
 have e:=Int.mul_tdiv_add_tmod mi 1000000;have r1:(mi.tmod 1000000).natAbs<1000000:=ZV;have e2:=Int.mul_tdiv_add_tmod (w+mi.tdiv 1000000) 2;have r2:((w+mi.tdiv 1000000).tmod 2).natAbs<2:=ZV;have s1:0≤w+mi.tdiv 1000000→0≤(w+mi.tdiv 1000000).tmod 2:=fun h=>Int.tmod_nonneg 2 h;have s2:w+mi.tdiv 1000000≤0→(w+mi.tdiv 1000000).tmod 2≤0:=fun h=>by have:=Int.tmod_nonneg 2 (show 0≤-(w+mi.tdiv 1000000)by omega);rw[Int.neg_tmod]at this;omega
 exact ae6 w mi mode _ _ _ hm hw hmi Z Z zo zo Z zo ⟨fun h=>⟨s1 h,So⟩,fun h=>⟨So,s2 h⟩⟩ zo

def zz(x:dA):Int:=if x.2.1<0 then 0 else x.2.1
def jo(x:dA)(c:Int):Int:=if c<x.2.2.1 then c else x.2.2.1
def wZ(date c:Int):Int→Int→List dA→Option (Int×Int)
 | a,b,[]=>some (a,b)
 | a,b,x::l=>if(!(fm x.1 date)||decide (zz x≥jo x c))=true then wZ date c a b l else if(ik (jo x c-zz x) x.2.2.2).2.2=false then none else wZ date c (a+(ik (jo x c-zz x) x.2.2.2).1) (b+(ik (jo x c-zz x) x.2.2.2).2.1) l
def lR(t:bS)(date c mode:Int):Int×Int:=
 if fv mode=false then(0,1)else if(t.2.1 != (3,0)||t.2.2.1 != (4,0))=true then(0,8)else if vq c 1000000000000000=true then(0,3)
 else match wZ date c 0 0 t.2.2.2 with|none=>(0,3)|some p=>MI (p.1*1000000+p.2) mode
def ae8{len:Int}:-1000000000000000≤(ik len n).1∧(ik len n).1≤1000000000000000∧-1000000≤(ik len n).2.1∧(ik len n).2.1≤1000000:=by unfold ik;split;simp;split<;>(simp only;omega)
def aaL(t:bS)(date c mode:Int)(hl:t.2.2.2.length≤100)(hN:∀x∈t.2.2.2,-9223372036854775808≤x.2.2.2∧x.2.2.2≤9223372036854775807):Ct prog 240 [.tv b9 t,Sx date,Sx c,Sx mode] (Au (lR t date c mode)):=by
 refine Yk func240 ntmps240 fun w0 ok0=>?_;refine Z18 ?_ ?_<;>intro h1;have h1:fv mode=false:=by rw[←Bool.not_eq_true];intro q;simp[fv]at q h1;omega
 refine Y8 ?_;exact z2 results240 Z Z (dp (by unfold lR;rw[Cg h1]));have h1:fv mode=true:=by simp[fv]at h1⊢;omega
 refine Y7 ?_;refine zJ (aC JI Z gu (.cons (rt':=(ay .i64)) Z cv (.raw (.b Z) Z) .nil)) (zJ (oA s8 Z Z s9 (.tv (.b Z)) (.tv (.b Z))) (Y3 ?_));refine zG Z Z (fun hg=>aC JI Z gu (.cons (rt':=(ay .i64)) Z cv (.raw (.b Z) Z) .nil)) (zG Z Z (fun hg=>oA s8 Z Z s9 (.tv (.gd Z hg)) (.tv (.gd Z hg))) (Z3 ?_ ?_))<;>intro h3;skip;refine Y8 ?_;exact z2 results240 Z Z (dp (by unfold lR;rw[zE (by rw[h1];simp),Cg h3]));skip;refine sm ?_ ?_<;>intro h5;have h5:vq c 1000000000000000=true:=by simp[vq]at h5⊢;omega
 refine Y8 ?_;exact z2 results240 Z Z (dp (by unfold lR;rw[zE (by rw[h1];simp),zE JB,Cg h5]));have h5:vq c 1000000000000000=false:=by simp[vq]at h5⊢;omega
 have k5:=rH h5;refine Ki ?_;refine bf (ι:=Nat×Int×Int) (fun(k,A,B)=>⟨[(1,Sx date),(2,Sx c),(3,Sx mode),(10,Sx A),(11,Sx B),(42,.tv (ag dD) t.2.2.2),(43,Sx t.2.2.2.length),(44,Sx ((k:Nat)))],[]⟩) (fun(k,A,B)=>k≤t.2.2.2.length∧wZ date c A B (t.2.2.2.drop k)=wZ date c 0 0 t.2.2.2∧(-(k*1000000000000000:Int)≤A∧A≤k*1000000000000000)∧(-(k*1000000:Int)≤B∧B≤k*1000000)) (fun(k,A,B)=>t.2.2.2.length-k) (0,0,0) (⟨P8 _,Z,So,So⟩) (fun a w hi=>(zI hi)) ?_;rintro⟨k,A,B⟩⟨p1,p2,p3,p4⟩;refine Z6 ?_ ?_<;>intro h9;simp at h9;have hd:=qv h9;have hn:=hN _ (aA h9);have hcb:=ae8 (len:=jo (t.2.2.2[k]) c-zz (t.2.2.2[k])) (n:=(t.2.2.2[k]).2.2.2);refine J4 ?_;refine GP (mQ (.b Z) (.b Z)) (Y3 ?_);refine GP (yu (.b Z) (.b Z)) (Qh ?_);refine YK (oh _ _) ?_;refine Z8 ?_ ?_<;>intro h12;have h12:(!(fm (t.2.2.2[k]).1 date)||decide (zz (t.2.2.2[k])≥jo (t.2.2.2[k]) c))=true:=h12;refine Y8 ?_;exact SX;have h12:(!(fm (t.2.2.2[k]).1 date)||decide (zz (t.2.2.2[k])≥jo (t.2.2.2[k]) c))=false:=h12;have k12:=J8 (Eg h12).2;have k13:0≤zz (t.2.2.2[k])∧jo (t.2.2.2[k]) c≤c:=by unfold zz jo;omega
 refine Y6 ?_;refine zJ (cH (.b Z) (.b Z) (w64c (show _=jo (t.2.2.2[k]) c-zz (t.2.2.2[k])from Z) zo)) (zF uX Z (zL Sj Z Z Z vU (zJ (an (ae2 (jo (t.2.2.2[k]) c-zz (t.2.2.2[k])) _ zo hn) (.cons (.b Z) (.cons (.b Z) .nil)) Z Z) (zM Z (zJ (eS (.b Z)) (zJ (eR (.b Z)) (zJ (eQ (.b Z)) (Qh ?_))))))));refine zQ [1,2,3,10,11,16,17,42,43,44,76] [] (aa ?_);refine Z0 ?_ ?_<;>intro h14;have h14:(ik (jo (t.2.2.2[k]) c-zz (t.2.2.2[k])) (t.2.2.2[k]).2.2.2).2.2=false:=HK;refine Qh ?_;refine b8 (ax (al ?_));exact z2 results240 Z Z (dp (by unfold lR;rw[zE (by rw[h1];simp),zE JB,zE (by rw[h5];simp),←p2,hd,wZ,zE (by rw[h12];simp),Cg h14]));have h14:(ik (jo (t.2.2.2[k]) c-zz (t.2.2.2[k])) (t.2.2.2[k]).2.2.2).2.2=true:=HK;refine Y22 ?_;exact SX;simp at h9;refine Qh ?_;refine zJ (an (ae7 A B mode h1 zo zo) (.cons (.b Z) (.cons (.b Z) (.cons (.b Z) .nil))) Z Z) (Y7 ?_);exact z2 results240 Z Z (dp (by unfold lR;rw[zE (by rw[h1];simp),zE JB,zE (by rw[h5];simp),←p2,KD zo];rfl))
def rwZ:dA:=((0,0),0,0,0)
def ND(d:aF)(t:ce)(i:Nat)(r:aN)(vs:List aN):aN×Int:=
 if(vs.length:Int)≤d.2∨(vs[d.2.toNat]?.getD GD).1=0 then(GD,6)else if uO (vs[d.2.toNat]?.getD GD) t=false then(GD,8)
 else if d.1=36 then(if da (r.1,r.2.1,r.2.2+(vs[d.2.toNat]?.getD GD).2.2)=false then(GD,3)else((r.1,r.2.1,r.2.2+(vs[d.2.toNat]?.getD GD).2.2),0))
 else if d.1=37 then((r.1,r.2.1,if(vs[d.2.toNat]?.getD GD).2.2<r.2.2 then(vs[d.2.toNat]?.getD GD).2.2 else r.2.2),0)
 else if d.1=38 then((r.1,r.2.1,if r.2.2<(vs[d.2.toNat]?.getD GD).2.2 then(vs[d.2.toNat]?.getD GD).2.2 else r.2.2),0)
 else if d.1=39 then(if i=0∨r.2.2<(vs[d.2.toNat]?.getD GD).2.2 then(vs[d.2.toNat]?.getD GD)else r,0)else(r,0)
def QR(d:aF)(t:ce):Nat→aN→List (List aN)→aN×Int
 | _,r,[]=>(r,0)
 | i,r,vs::l=>if(ND d t i r vs).2≠0 then(ND d t i r vs)else QR d t (i+1) (ND d t i r vs).1 l
def DU(d:aF)(env:cP):ce:=env.2.2.2.2.1[d.2.toNat]?.getD (0,0)
def ur(d:aF)(env:cP):aN×Int:=
 if d.1=39∧env.2.2.2.1.length=0 then(GD,6)else QR d (DU d env) 0 ((DU d env).1,(DU d env).2,if d.1=37 then 1 else 0) env.2.2.2.1
def F4(k:Int)(env:cP):bS:=env.2.2.2.2.2[k.toNat]?.getD Fm
def fJ(d:aF)(args:List aN)(env:cP):Bool:=
 if d.1=7 then da (env.2.1[d.2.toNat]?.getD GD)else if d.1=8 then da (env.2.2.1[d.2.toNat]?.getD GD)
 else if d.1=33 then uO (args[0]?.getD GD) (F4 d.2 env).2.1&&decide (1≤(F4 d.2 env).2.2.1.1∧(F4 d.2 env).2.2.1.1≤6)
 else if d.1=34 then decide ((args[0]?.getD GD).1=3∧(F4 (d.2/8) env).2.1=(3,0)∧(F4 (d.2/8) env).2.2.1=(4,0))
 else if d.1=36∨d.1=37∨d.1=38∨d.1=39 then Bl d.1 (DU d env)
 else match args with
  | [a]=>Je d.1 a.1
  | [a,b]=>kg d.1 a b
  | [a,b,c]=>decide (a.1=1)&&gI b c
  | _=>true
def eL(d:aF)(args:List aN)(env:cP):aN×Int:=
 if d.1=1∨d.1=2∨d.1=3∨d.1=4∨d.1=5 then((d.1,0,d.2),0)else if d.1=6 then((6,d.2/16,d.2%16),0)
 else if d.1=7 then(env.2.1[d.2.toNat]?.getD GD,0)else if d.1=8 then(env.2.2.1[d.2.toNat]?.getD GD,0)else if d.1=9 then((5,0,env.1),0)
 else if d.1=35 then((2,0,(env.2.2.2.1.length:Int)),0)else if d.1=36∨d.1=37∨d.1=38∨d.1=39 then ur d env
 else if d.1=33 then(if(dF (gw env.1 (args[0]?.getD GD).2.2) (F4 d.2 env).2.2.2 0).2=false then(GD,6)else(((F4 d.2 env).2.2.1.1,(F4 d.2 env).2.2.1.2,((F4 d.2 env).2.2.2[(dF (gw env.1 (args[0]?.getD GD).2.2) (F4 d.2 env).2.2.2 0).1.toNat]?.getD rwZ).2.2.2),0))
 else if d.1=34 then((3,0,(lR (F4 (d.2/8) env) env.1 (args[0]?.getD GD).2.2 (d.2%8)).1),(lR (F4 (d.2/8) env) env.1 (args[0]?.getD GD).2.2 (d.2%8)).2)
 else match args with
  | [a]=>(unV d.1 a,0)
  | [a,b]=>biV d a b
  | [a,b,c]=>(if a.2.2=1 then b else c,0)
  | _=>(GD,0)
def cO(d:aF)(args:List aN)(env:cP):aN×Int:=
 if gF d=false∨(args.length:Int)≠aW d.1 then(GD,2)else if dH d env=false then(GD,6)
 else if args.all da=false∨fJ d args env=false then(GD,8)else if(eL d args env).2≠0 then(GD,(eL d args env).2)
 else if da (eL d args env).1=false then(GD,3)else((eL d args env).1,0)
def allow1(h:¬(d.1=7∨d.1=8∨d.1=33∨d.1=34∨d.1=36∨d.1=37∨d.1=38∨d.1=39)):fJ d [a] env=Je d.1 a.1:=by exact Xa
def allow2{b:aN}(h:¬(d.1=7∨d.1=8∨d.1=33∨d.1=34∨d.1=36∨d.1=37∨d.1=38∨d.1=39)):fJ d [a,b] env=kg d.1 a b:=by exact Xa
def allow3{b c:aN}(h:¬(d.1=7∨d.1=8∨d.1=33∨d.1=34∨d.1=36∨d.1=37∨d.1=38∨d.1=39)):fJ d [a,b,c] env=(decide (a.1=1)&&gI b c):=by exact Xa
def xN{k:Int}(h:k=33∨k=34):aW k=1:=by rcases h with h|h<;>subst h<;>rfl
def GS(h:gF d=true)(h34:d.1=34):0≤d.2∧d.2%8≤5:=by unfold gF at h;split at h;cases h;simpa[h34]using h
def wf_6(h:gF d=true)(h6:d.1=6):0≤d.2:=by unfold gF at h;split at h;cases h;simpa[h6]using h
def ex_7(h:dH d env=true)(hd:d.1=7):0≤d.2∧d.2<(env.2.1.length:Int):=by unfold dH at h;rw[Cg hd]at h;simpa using h
def ex_8(h:dH d env=true)(hd:d.1=8):0≤d.2∧d.2<(env.2.2.1.length:Int):=by unfold dH at h;rw[zE zo,Cg hd]at h;simp at h;exact h.1
def RL(h:dH d env=true)(hd:d.1=33):0≤d.2∧d.2<(env.2.2.2.2.2.length:Int):=by unfold dH at h;rw[zE zo,zE zo,Cg hd]at h;simpa using h
def RK(h:dH d env=true)(hd:d.1=34):d.2/8<(env.2.2.2.2.2.length:Int):=by unfold dH at h;rw[zE zo,zE zo,zE zo,Cg hd]at h;simpa using h
def Fb(h:dH d env=true)(hd:d.1=36∨d.1=37∨d.1=38∨d.1=39):0≤d.2∧d.2<(env.2.2.2.2.1.length:Int):=by unfold dH at h;rw[zE zo,zE zo,zE zo,zE zo,Cg zo]at h;simpa using h
def Ou(env:cP):Prop:=env.2.2.2.1.length≤1000000∧∀t∈env.2.2.2.2.2,t.2.2.2.length≤100∧∀x∈t.2.2.2,-9223372036854775808≤x.2.2.2∧x.2.2.2≤9223372036854775807
def abp{t:ce}{r:aN}{x:List aN}(h:ND d t k r x=p)(hc:p.2≠0):QR d t k r (x::l)=p:=by subst h;rw[QR,Cg hc]
def Be{t:ce}{r r':aN}{x:List aN}(h:ND d t k r x=(r',0)):QR d t k r (x::l)=QR d t (k+1) r' l:=by rw[QR,zE (by rw[h];simp),h]
def us(d:aF)(env:cP)(hm:env.2.2.2.1.length≤1000000)(hi0:0≤d.2∧d.2<(env.2.2.2.2.1.length:Int)):Ct prog 238 [.tv aZ d,.tv gD env] (qU (ur d env)):=by
 refine Yk func238 ntmps238 fun w0 ok0=>?_;refine Lc ?_;refine zX dI aQ Z Z (show d.2=((d.2.toNat:Nat):Int)by omega) (getD_some (l:=env.2.2.2.2.1) (i:=d.2.toNat) (z:=(0,0)) zo) (dy ?_);refine zJ (aC Qg Z eq (.cons (rt':=(ay .i64)) Z bU (.raw (.b Z) Z) (.cons (rt':=(ay .i64)) Z km (.raw (.b Z) Z) .nil))) (zb ?_);refine EO (ι:=Unit) (fun _=>⟨[(2,Sy 2 aZ),(3,Sy 3 gD),(4,Sy 4 aK),(6,Sy 6 bt),(7,Sy 7 aK)],[(2,⟨aZ,[d]⟩),(3,⟨gD,[env]⟩),(4,⟨aK,[(0,0,0)]⟩),(6,⟨bt,[(DU d env)]⟩),(7,⟨aK,[((DU d env).1,(DU d env).2,if d.1=37 then 1 else 0)]⟩)]⟩) (fun _=>True) ?_ ?_;skip;refine Z0 ?_ ?_<;>intro h3;have h3:d.1=37:=Av;refine Y4 ?_;exact TF;have h3:¬d.1=37:=Av;refine ak ?_;exact TF;rintro _ -
 refine Ks ?_ ?_<;>intro h5;have h5:d.1=39∧env.2.2.2.1.length=0:=E3;refine zR (zJ (aC Qg Z eq .nil) (Y6 ?_));exact aI results238 (aq aM Z Z Z (Lens.id aK)) (ar Z) ⟨Z,Z⟩ (cd (by unfold ur;rw[Cg h5];rfl));have h5:¬(d.1=39∧env.2.2.2.1.length=0):=E3;have hov0:ur d env=QR d (DU d env) 0 ((DU d env).1,(DU d env).2,if d.1=37 then 1 else 0) env.2.2.2.1:=by unfold ur;rw[zE h5]
 refine zb ?_;refine bf (ι:=Nat×aN) (fun(k,r)=>⟨[(2,Sy 2 aZ),(4,Sy 4 aK),(6,Sy 6 bt),(7,Sy 7 aK),(37,.tv (ag (ag aK)) env.2.2.2.1),(38,Sx env.2.2.2.1.length),(39,Sx ((k:Nat)))],[(2,⟨aZ,[d]⟩),(4,⟨aK,[(0,0,0)]⟩),(6,⟨bt,[(DU d env)]⟩),(7,⟨aK,[r]⟩)]⟩) (fun(k,r)=>k≤env.2.2.2.1.length∧QR d (DU d env) k r (env.2.2.2.1.drop k)=QR d (DU d env) 0 ((DU d env).1,(DU d env).2,if d.1=37 then 1 else 0) env.2.2.2.1∧(-1000000000000000≤r.2.2∧r.2.2≤1000000000000000)) (fun(k,r)=>env.2.2.2.1.length-k) (0,((DU d env).1,(DU d env).2,if d.1=37 then 1 else 0)) (⟨P8 _,Z,aa0⟩) (fun a w hi=>(zI hi)) ?_;rintro⟨k,r⟩⟨hk,hov,hrb⟩;refine Z6 ?_ ?_<;>intro h8;have h8:k<env.2.2.2.1.length:=Qb;have hd:=qv h8;refine Y25 ?_;refine zG Z Z (fun hg=>av eV aM (.gd Z hg) (.gd Z hg) (show d.2=((d.2.toNat:Nat):Int)by omega) (getD_some (l:=env.2.2.2.1[k]) (i:=d.2.toNat) (z:=GD) PA)) (Z6 ?_ ?_)<;>intro h10;have h10:(env.2.2.2.1[k].length:Int)≤d.2∨(env.2.2.2.1[k][d.2.toNat]?.getD GD).1=0:=Qk;have hs:ND d (DU d env) k r env.2.2.2.1[k]=(GD,6):=XQ;exact VE;have h10:¬((env.2.2.2.1[k].length:Int)≤d.2∨(env.2.2.2.1[k][d.2.toNat]?.getD GD).1=0):=Qk;refine Y7 ?_;refine zX eV aM Z Z (show d.2=((d.2.toNat:Nat):Int)by omega) (getD_some (l:=env.2.2.2.1[k]) (i:=d.2.toNat) (z:=GD) zo) (Qh ?_);refine YK (EZ _ _) ?_;refine Z3 ?_ ?_<;>intro h13;have h13:uO (env.2.2.2.1[k][d.2.toNat]?.getD GD) (DU d env)=false:=NE;have hs:ND d (DU d env) k r env.2.2.2.1[k]=(GD,8):=XQ;exact VE;have h13:uO (env.2.2.2.1[k][d.2.toNat]?.getD GD) (DU d env)=true:=NE;have hvb:=mg (v:=(env.2.2.2.1[k][d.2.toNat]?.getD GD)) (by unfold uO at h13;simp at h13;exact h13.1);refine Y6 ?_;refine zQ [2,4,6,7,8,10,37,38,39,70] [2,4,6,7,10] (aa (az (zR ?_)));refine Z4 ?_ ?_<;>intro h16;have h16:d.1=36:=M9;refine Lc ?_;refine YK (nM _) ?_;refine zJ (co (.b Z)) (zZ ?_);refine Z0 ?_ ?_<;>intro h18;have h18:da (r.1,r.2.1,r.2.2+(env.2.2.2.1[k][d.2.toNat]?.getD GD).2.2)=false:=E2;have hs:ND d (DU d env) k r env.2.2.2.1[k]=(GD,3):=XQ;exact VE;have h18:da (r.1,r.2.1,r.2.2+(env.2.2.2.1[k][d.2.toNat]?.getD GD).2.2)=true:=E2;have hb':=mg h18;have hs:ND d (DU d env) k r env.2.2.2.1[k]=((r.1,r.2.1,r.2.2+(env.2.2.2.1[k][d.2.toNat]?.getD GD).2.2),0):=by unfold ND;(repeat' first|rw[Cg mE]|rw[zE (by first|assumption|omega|(rw[h13];decide)|(rw[h18];decide))]);all_goals first|rfl|(simp[*];done)
 exact VO;have h16:¬d.1=36:=M9;refine Z6 ?_ ?_<;>intro h20;have h20:d.1=37:=LE;have hb':-1000000000000000≤(r.1,r.2.1,if(env.2.2.2.1[k][d.2.toNat]?.getD GD).2.2<r.2.2 then(env.2.2.2.1[k][d.2.toNat]?.getD GD).2.2 else r.2.2).2.2∧(r.1,r.2.1,if(env.2.2.2.1[k][d.2.toNat]?.getD GD).2.2<r.2.2 then(env.2.2.2.1[k][d.2.toNat]?.getD GD).2.2 else r.2.2).2.2≤1000000000000000:=aa0;have hs:ND d (DU d env) k r env.2.2.2.1[k]=((r.1,r.2.1,if(env.2.2.2.1[k][d.2.toNat]?.getD GD).2.2<r.2.2 then(env.2.2.2.1[k][d.2.toNat]?.getD GD).2.2 else r.2.2),0):=XQ;refine Y5 ?_;refine zJ (yu (.b Z) (.b Z)) (Qh ?_);exact VW;have h20:¬d.1=37:=LE;refine Z6 ?_ ?_<;>intro h22;have h22:d.1=38:=by simpa using h22
 have hb':-1000000000000000≤(r.1,r.2.1,if r.2.2<(env.2.2.2.1[k][d.2.toNat]?.getD GD).2.2 then(env.2.2.2.1[k][d.2.toNat]?.getD GD).2.2 else r.2.2).2.2∧(r.1,r.2.1,if r.2.2<(env.2.2.2.1[k][d.2.toNat]?.getD GD).2.2 then(env.2.2.2.1[k][d.2.toNat]?.getD GD).2.2 else r.2.2).2.2≤1000000000000000:=aa0;have hs:ND d (DU d env) k r env.2.2.2.1[k]=((r.1,r.2.1,if r.2.2<(env.2.2.2.1[k][d.2.toNat]?.getD GD).2.2 then(env.2.2.2.1[k][d.2.toNat]?.getD GD).2.2 else r.2.2),0):=XQ;refine Y5 ?_;refine zJ (mQ (.b Z) (.b Z)) (Qh ?_);exact VW;have h22:¬d.1=38:=by simpa using h22
 refine Z6 ?_ ?_<;>intro h24;have h24:d.1=39:=ab7;refine sm ?_ ?_<;>intro h25;have h25:k=0∨r.2.2<(env.2.2.2.1[k][d.2.toNat]?.getD GD).2.2:=Ew;have hb':=hvb;have hs:ND d (DU d env) k r env.2.2.2.1[k]=((env.2.2.2.1[k][d.2.toNat]?.getD GD),0):=XQ;refine dy ?_;exact VW;have h25:¬(k=0∨r.2.2<(env.2.2.2.1[k][d.2.toNat]?.getD GD).2.2):=Ew;have hb':=hrb;have hs:ND d (DU d env) k r env.2.2.2.1[k]=(r,0):=XQ;refine Y7 ?_;refine zQ [2,4,6,7,37,38,39] [2,4,6,7] ?_;exact VW;have h24:¬d.1=39:=ab7;have hb':=hrb;have hs:ND d (DU d env) k r env.2.2.2.1[k]=(r,0):=XQ;exact VO;have h8:¬k<env.2.2.2.1.length:=Qb;refine MY ?_;exact aI results238 (aq aM Z Z Z (Lens.id aK)) (ar Z) ⟨Z,Z⟩ (cd (by rw[hov0,←hov,KD zo];rfl))
def RA{l:List aN}(h:l.length=1):∃a,l=[a]:=List.length_eq_one_iff.1 h
def Rz{l:List aN}(h:l.length=2):∃a b,l=[a,b]:=MG h
def Ry{l:List aN}(h:l.length=3):∃a b c,l=[a,b,c]:=by match l,h with | [a,b,c],_=>exact⟨a,b,c,rfl⟩
def BE{f:dA→Bool}:∀{l:List dA} {k:Nat},(dF f l k).2=true→(k:Int)≤(dF f l k).1∧(dF f l k).1<(k+l.length:Int)
 | [],_,h=>by simp[dF]at h
 | x::l,k,h=>by unfold dF at h⊢;by_cases c:f x=true;rw[Cg c];simp only[NK];omega;rw[zE c]at h⊢;have:=BE h;simp only[NK];omega
def abt{k:Int}(h:0≤k∧k<(env.2.2.2.2.2.length:Int)):F4 k env∈env.2.2.2.2.2:=by unfold F4;rw[RY zo];exact aA _
def abC(d:aF)(args:List aN)(env:cP)(hW:gF d=true)(hE:dH d env=true)(hL:(args.length:Int)=aW d.1)(hN:-9223372036854775808≤d.2∧d.2≤9223372036854775807):Ct prog 205 [.tv aZ d,.tv (ag aK) args,.tv gD env] (.raw (.bool (fJ d args env))):=by
 refine Yk func205 ntmps205 fun w0 ok0=>?_;refine fT 1 Z (fun hl1=>?_);refine rZ ?_ ?_<;>intro h2;have h2:d.1=7:=J3;have h7:=ex_7 hE h2;refine Y6 ?_;refine zX eV aM Z Z (show d.2=((d.2.toNat:Nat):Int)by omega) (getD_some (l:=env.2.1) (i:=d.2.toNat) (z:=GD) zo) (zD aM rfl (YK (nM _) ?_));exact VV;have h2:¬d.1=7:=J3;refine Z6 ?_ ?_<;>intro h4;have h4:d.1=8:=Yo;have h8:=ex_8 hE h4;refine Y6 ?_;refine zX eV aM Z Z (show d.2=((d.2.toNat:Nat):Int)by omega) (getD_some (l:=env.2.2.1) (i:=d.2.toNat) (z:=GD) zo) (zD aM rfl (YK (nM _) ?_));exact VV;have h4:¬d.1=8:=Yo;refine Z6 ?_ ?_<;>intro h6;have h6:d.1=33:=O3;have h33:=RL hE h6;have ha1:=xN (.inl h6);refine Y6 ?_;refine zX ju eZ Z Z (show d.2=((d.2.toNat:Nat):Int)by omega) (getD_some (l:=env.2.2.2.2.2) (i:=d.2.toNat) (z:=Fm) zo) (Y8 ?_);refine GP (av eV aM (.b Z) (.b Z) (show(0:Int)=((0:Nat):Int)from Z) (getD_some (l:=args) (i:=0) (z:=GD) zo)) (Y3 ?_);refine GP (an (EZ _ _) (.cons (.b Z) (.cons (.b Z) .nil)) Z Z) (Y3 ?_);refine JJ Z Z (fun hg=>ah Sj (.gd Z hg) Z Z (Lens.comp l5 cv)) (Y5 ?_);refine JJ Z Z (fun hg=>ah Sj (.gd Z hg) Z Z (Lens.comp l5 cv)) (Y8 ?_);exact z1 results205 rfl (rb (by unfold fJ;(repeat' first|rw[Cg mE]|rw[zE mE]);rw[MZ];simp only[YC,Ek,ge_iff_le,and_assoc];exact Iff.rfl));have h6:¬d.1=33:=O3;refine Z6 ?_ ?_<;>intro h9;have h9:d.1=34:=Qz;have h34:=RK hE h9;have hw34:=GS hW h9;have ha1:=xN (.inr h9);refine Y6 ?_;refine zJ (i9 (.b Z) (.b Z) zo (qG hw34.1 hN.2 zo)) (zX ju eZ Z Z (show d.2/8=(((d.2/8).toNat:Nat):Int)by omega) (getD_some (l:=env.2.2.2.2.2) (i:=(d.2/8).toNat) (z:=Fm) zo) (Y8 ?_));refine zX eV aM Z Z (show(0:Int)=((0:Nat):Int)from Z) (getD_some (l:=args) (i:=0) (z:=GD) zo) (Y6 ?_);refine zG Z Z (fun hg=>aC JI Z gu (.cons (rt':=(ay .i64)) Z cv (.raw (.b Z) Z) .nil)) (zG Z Z (fun hg=>iM s8 Z Z s9 (.tv (.gd Z hg)) (.tv (.gd Z hg))) (Y4 ?_));refine zG Z Z (fun hg=>aC JI Z gu (.cons (rt':=(ay .i64)) Z cv (.raw (.b Z) Z) .nil)) (zG Z Z (fun hg=>iM s8 Z Z s9 (.tv (.gd Z hg)) (.tv (.gd Z hg))) (Y7 ?_));exact z1 results205 rfl (rb (by unfold fJ;(repeat' first|rw[Cg mE]|rw[zE mE]);rw[MZ];simp only[YC,Ek,beq_iff_eq,and_assoc];exact Iff.rfl));have h9:¬d.1=34:=Qz;refine Z7 ?_ ?_<;>intro h12;have g12:=h12;have h12:d.1=36:=P9;have hm:=Fb hE zo;refine ak (aa ?_);refine bR Z g12 (ac ?_);exact TJ;have g12:=h12;have h12:¬d.1=36:=P9;refine Z6 ?_ ?_<;>intro h13;have g13:=h13;have h13:d.1=37:=NE;have hm:=Fb hE zo;refine ak (aa ?_);refine bR Z g13 (ac ?_);refine Y7 ?_;refine GP (av dI aQ (.b Z) (.b Z) (show d.2=((d.2.toNat:Nat):Int)by omega) (getD_some (l:=env.2.2.2.2.1) (i:=d.2.toNat) (z:=(0,0)) zo)) (GP (aO aQ (.b rfl)) (GP (an (uB _ _) (.cons (.b rfl) (.cons (.b rfl) .nil)) rfl rfl) (Y2 ?_)));refine zK [6] [] (aa (am (ax (al ?_))));exact z1 results205 rfl (rb X7);have g13:=h13;have h13:¬d.1=37:=NE;refine Z6 ?_ ?_<;>intro h14;have g14:=h14;have h14:d.1=38:=HK;have hm:=Fb hE zo;refine ak (aa ?_);refine bR Z g14 (ac ?_);exact TJ;have g14:=h14;have h14:¬d.1=38:=HK;refine Z5 ?_ ?_<;>intro h15;have g15:=h15;have h15:d.1=39:=LQ;have hm:=Fb hE zo;refine ac ?_;exact TJ;have g15:=h15;have h15:¬d.1=39:=LQ;refine O0 ?_ ?_<;>intro h18;have h18:args.length=1:=by simp at h18;omega
 have hno:¬(d.1=7∨d.1=8∨d.1=33∨d.1=34∨d.1=36∨d.1=37∨d.1=38∨d.1=39):=So;obtain⟨a,rfl⟩:=RA h18;refine ac ?_;refine Y4 ?_;refine GP (av eV aM (.b Z) (.b Z) (show(0:Int)=((0:Nat):Int)from Z) (getD_some (l:=[a]) (i:=0) (z:=GD) Sp)) (Y2 ?_);refine GP (an (acW _ _) (.cons (.b Z) (.cons (.b Z) .nil)) Z Z) (Y6 ?_);exact z1 results205 Z (rb (by rw[allow1 hno];rfl));have h18:¬args.length=1:=by intro q;simp[q]at h18
 refine Z6 ?_ ?_<;>intro h20;have h20:args.length=2:=abD;have hno:¬(d.1=7∨d.1=8∨d.1=33∨d.1=34∨d.1=36∨d.1=37∨d.1=38∨d.1=39):=So;obtain⟨a,b,rfl⟩:=Rz h20;refine ac ?_;refine Y4 ?_;refine GP (av eV aM (.b Z) (.b Z) (show(0:Int)=((0:Nat):Int)from Z) (getD_some (l:=[a,b]) (i:=0) (z:=GD) Sp)) (Y2 ?_);refine GP (av eV aM (.b Z) (.b Z) (show(1:Int)=((1:Nat):Int)from Z) (getD_some (l:=[a,b]) (i:=1) (z:=GD) Sp)) (GP (aO aM (.b Z)) (GP (an (acY _ _ _) (.cons (.b Z) (.cons (.b Z) (.cons (.b Z) .nil))) Z Z) (Y6 ?_)));exact z1 results205 Z (rb (by rw[allow2 hno];rfl));have h20:¬args.length=2:=by intro q;simp[q]at h20
 refine Z6 ?_ ?_<;>intro h22;have h22:args.length=3:=abE;have hno:¬(d.1=7∨d.1=8∨d.1=33∨d.1=34∨d.1=36∨d.1=37∨d.1=38∨d.1=39):=So;obtain⟨a,b,c,rfl⟩:=Ry h22;refine ac ?_;refine Y2 ?_;refine GP (av eV aM (.b Z) (.b Z) (show(0:Int)=((0:Nat):Int)from Z) (getD_some (l:=[a,b,c]) (i:=0) (z:=GD) Sp)) (Y5 ?_);refine JJ Z Z (fun hg=>av eV aM (.gd Z hg) (.b Z) (show(1:Int)=((1:Nat):Int)from Z) (getD_some (l:=[a,b,c]) (i:=1) (z:=GD) Sp)) (Y2 ?_);refine JJ Z Z (fun hg=>av eV aM (.gd Z hg) (.b Z) (show(2:Int)=((2:Nat):Int)from Z) (getD_some (l:=[a,b,c]) (i:=2) (z:=GD) Sp)) (Y1 ?_);refine JJ Z Z (fun hg=>an (jR _ _) (.cons (.gd Z hg) (.cons (.gd Z hg) .nil)) Z Z) (Y7 ?_);exact z1 results205 rfl (rb (by rw[allow3 hno];first|rfl|(rw[MZ];simp;done)));have h22:¬args.length=3:=by intro q;simp[q]at h22
 refine Y9 ?_;exact z1 results205 rfl (rb (by obtain rfl:args=[]:=jC.1 (by have:=(ot d.1).2;omega);unfold fJ;(repeat' first|rw[Cg mE]|rw[zE mE]);all_goals rfl))
def abM(h:¬(1≤d.1∧d.1≤9)∧¬(33≤d.1∧d.1≤39))(hL:n=aW d.1):n = -1∨1≤n:=by subst hL;unfold aW;(repeat' split)<;>omega
def abO(d:aF)(args:List aN)(env:cP)(hW:gF d=true)(hE:dH d env=true)(hL:(args.length:Int)=aW d.1)(hN:-9223372036854775808≤d.2∧d.2≤9223372036854775807)(hP:args.all da=true)(hT:Ou env):Ct prog 206 [.tv aZ d,.tv (ag aK) args,.tv gD env] (qU (eL d args env)):=by
 refine Yk func206 ntmps206 fun w0 ok0=>?_;refine fT 1 Z (fun hl1=>?_);refine Z23 ?_ ?_<;>intro h2;have g2:=h2;have h2:d.1=1:=J3;refine ak (aa ?_);refine bR Z g2 (ac ?_);exact Ua;have g2:=h2;have h2:¬d.1=1:=J3;refine Z6 ?_ ?_<;>intro h3;have g3:=h3;have h3:d.1=2:=Av;refine ak (aa ?_);refine bR Z g3 (ac ?_);exact Ua;have g3:=h3;have h3:¬d.1=2:=Av;refine Z6 ?_ ?_<;>intro h4;have g4:=h4;have h4:d.1=3:=Yo;refine ak (aa ?_);refine bR Z g4 (ac ?_);exact Ua;have g4:=h4;have h4:¬d.1=3:=Yo;refine Z6 ?_ ?_<;>intro h5;have g5:=h5;have h5:d.1=4:=E3;refine ak (aa ?_);refine bR Z g5 (ac ?_);exact Ua;have g5:=h5;have h5:¬d.1=4:=E3;refine Z5 ?_ ?_<;>intro h6;have g6:=h6;have h6:d.1=5:=O3;refine Y6 ?_;exact Uj;have g6:=h6;have h6:¬d.1=5:=O3;refine Z6 ?_ ?_<;>intro h8;have h8:d.1=6:=Qb;have hd0:=wf_6 hW h8;refine Y4 ?_;refine zJ (i9 (.b Z) (.b Z) zo (qG hd0 hN.2 zo)) (zF aV Z (zL Sj Z Z Z bc (zJ (gc (.b Z) (.b Z) zo (tk hd0)) (zJ (aC Qg Z eq (.cons (rt':=(ay .i64)) Z bU (.raw (.b Z) Z) (.cons (rt':=(ay .i64)) Z km (.raw (.b Z) Z) (.cons (rt':=(ay .i64)) Z bj (.raw (.b Z) Z) .nil)))) (Y7 ?_)))));exact Vx;have h8:¬d.1=6:=Qb;refine Z6 ?_ ?_<;>intro h10;have h10:d.1=7:=Qk;have h7:=ex_7 hE h10;refine Y6 ?_;refine zX eV aM Z Z (show d.2=((d.2.toNat:Nat):Int)by omega) (getD_some (l:=env.2.1) (i:=d.2.toNat) (z:=GD) zo) (Y3 ?_);refine zQ [6,7] [6] (aa (am (ax (al ?_))));exact Vx;have h10:¬d.1=7:=Qk;refine Z6 ?_ ?_<;>intro h12;have h12:d.1=8:=P9;have h8:=ex_8 hE h12;refine Y6 ?_;refine zX eV aM Z Z (show d.2=((d.2.toNat:Nat):Int)by omega) (getD_some (l:=env.2.2.1) (i:=d.2.toNat) (z:=GD) zo) (Y8 ?_);exact Vx;have h12:¬d.1=8:=P9;refine Z6 ?_ ?_<;>intro h14;have h14:d.1=9:=HK;refine Y4 ?_;exact Uj;have h14:¬d.1=9:=HK;refine Z6 ?_ ?_<;>intro h16;have h16:d.1=35:=M9;exact Ua;have h16:¬d.1=35:=M9;refine Z7 ?_ ?_<;>intro h18;have g18:=h18;have h18:d.1=36:=E2;have hm:=Fb hE zo;refine ak (aa ?_);refine bR Z g18 (ac ?_);exact UV;have g18:=h18;have h18:¬d.1=36:=E2;refine Z6 ?_ ?_<;>intro h19;have g19:=h19;have h19:d.1=37:=ab3;have hm:=Fb hE zo;refine ak (aa ?_);refine bR Z g19 (ac ?_);exact UV;have g19:=h19;have h19:¬d.1=37:=ab3;refine Z6 ?_ ?_<;>intro h20;have g20:=h20;have h20:d.1=38:=LE;have hm:=Fb hE zo;refine ak (aa ?_);refine bR Z g20 (ac ?_);exact UV;have g20:=h20;have h20:¬d.1=38:=LE;refine Z5 ?_ ?_<;>intro h21;have g21:=h21;have h21:d.1=39:=QX;have hm:=Fb hE zo;refine Y4 ?_;refine YK (us _ _ hT.1 hm) ?_;refine Y9 ?_;exact Vq;have g21:=h21;have h21:¬d.1=39:=QX;refine Z6 ?_ ?_<;>intro h23;have h23:d.1=33:=JD;have h33:=RL hE h23;have ha1:=xN (.inl h23);refine Y6 ?_;refine zX ju eZ Z Z (show d.2=((d.2.toNat:Nat):Int)by omega) (getD_some (l:=env.2.2.2.2.2) (i:=d.2.toNat) (z:=Fm) zo) (Y3 ?_);refine zQ [1,5,6,8] [5,6,8] (aa (ac ?_));refine Y5 ?_;refine GP (av eV aM (.b Z) (.b Z) (show(0:Int)=((0:Nat):Int)from Z) (getD_some (l:=args) (i:=0) (z:=GD) zo)) (Y2 ?_);refine GP (an (aez _ _ _) (.cons (.b Z) (.cons (.b Z) (.cons (.b Z) .nil))) Z Z) (Y6 ?_);refine Z8 ?_ ?_<;>intro h26;have h26:(dF (gw env.1 (args[0]?.getD GD).2.2) (F4 d.2 env).2.2.2 0).2=false:=by have h26:(!(dF (gw env.1 (args[0]?.getD GD).2.2) (F4 d.2 env).2.2.2 0).2)=true:=h26;simpa using h26
 refine zR (zJ (aC Qg Z eq .nil) (Y8 ?_));exact Vq;have h26:(dF (gw env.1 (args[0]?.getD GD).2.2) (F4 d.2 env).2.2.2 0).2=true:=by have h26:(!(dF (gw env.1 (args[0]?.getD GD).2.2) (F4 d.2 env).2.2.2 0).2)=false:=h26;simpa using h26
 have h26n:¬(dF (gw env.1 (args[0]?.getD GD).2.2) (F4 d.2 env).2.2.2 0).2=false:=by rw[h26];decide
 have hfb:=BE h26;refine Y3 ?_;refine je (Y2 ?_);refine ca (ah Sj (.b Z) Z Z (Lens.comp l5 cv)) (Y2 ?_);refine ca (ah Sj (.b Z) Z Z (Lens.comp l5 gX)) (Y3 ?_);refine ca (av dY fe (.b Z) (.b Z) (show(dF (gw env.1 (args[0]?.getD GD).2.2) (F4 d.2 env).2.2.2 0).1=(((dF (gw env.1 (args[0]?.getD GD).2.2) (F4 d.2 env).2.2.2 0).1.toNat:Nat):Int)by omega) (getD_some (l:=(F4 d.2 env).2.2.2) (i:=(dF (gw env.1 (args[0]?.getD GD).2.2) (F4 d.2 env).2.2.2 0).1.toNat) (z:=rwZ) zo)) (Y2 ?_);refine ca (aC Qg Z eq (.cons (rt':=(ay .i64)) Z bU (.raw (.b Z) Z) (.cons (rt':=(ay .i64)) Z km (.raw (.b Z) Z) (.cons (rt':=(ay .i64)) Z bj (.raw (.b Z) Z) .nil)))) (Y7 ?_);exact Vq;have h23:¬d.1=33:=JD;refine Z6 ?_ ?_<;>intro h29;have h29:d.1=34:=aca;have h34:=RK hE h29;have hw34:=GS hW h29;have ha1:=xN (.inr h29);have hmem:=abt (env:=env) (k:=d.2/8) zo;refine ac ?_;refine Y5 ?_;refine GP (i9 (.b Z) (.b Z) zo (qG hw34.1 hN.2 zo)) (GP (av ju eZ (.b Z) (.b Z) (show d.2/8=(((d.2/8).toNat:Nat):Int)by omega) (getD_some (l:=env.2.2.2.2.2) (i:=(d.2/8).toNat) (z:=Fm) zo)) (Y4 ?_));refine GP (av eV aM (.b Z) (.b Z) (show(0:Int)=((0:Nat):Int)from Z) (getD_some (l:=args) (i:=0) (z:=GD) zo)) (Y4 ?_);refine GP (gc (.b Z) (.b Z) zo (tk hw34.1)) (GP (an (aaL _ _ _ _ (hT.2 _ hmem).1 (hT.2 _ hmem).2) (.cons (.b Z) (.cons (.b Z) (.cons (.b Z) (.cons (.b Z) .nil)))) Z Z) (Y6 ?_));refine aa (zR (zM Z (zJ (aC Qg Z eq (.cons (rt':=(ay .i64)) Z bU (.raw (.b Z) Z) (.cons (rt':=(ay .i64)) Z bj (.raw (.b Z) Z) .nil))) (Y8 ?_))));exact Vq;have h29:¬d.1=34:=aca;refine O0 ?_ ?_<;>intro h33;have h33:args.length=1:=by simp at h33;omega
 have hno:¬(d.1=7∨d.1=8∨d.1=33∨d.1=34∨d.1=36∨d.1=37∨d.1=38∨d.1=39):=So;obtain⟨a,rfl⟩:=RA h33;refine ac ?_;refine je (Y3 ?_);refine ca (av eV aM (.b Z) (.b Z) (show(0:Int)=((0:Nat):Int)from Z) (getD_some (l:=[a]) (i:=0) (z:=GD) Sp)) (ca (aO aM (.b Z)) (ca (an (ae0 d.1 a (Qe.1 hP _ Sp)) (.cons (.b Z) (.cons (.b Z) .nil)) Z Z) (Y7 ?_)));exact Vq;have h33:¬args.length=1:=by intro q;simp[q]at h33
 refine Z6 ?_ ?_<;>intro h35;have h35:args.length=2:=by simp at h35;omega
 have hno:¬(d.1=7∨d.1=8∨d.1=33∨d.1=34∨d.1=36∨d.1=37∨d.1=38∨d.1=39):=So;obtain⟨a,b,rfl⟩:=Rz h35;refine ac ?_;refine je (Y2 ?_);refine ca (av eV aM (.b Z) (.b Z) (show(0:Int)=((0:Nat):Int)from Z) (getD_some (l:=[a,b]) (i:=0) (z:=GD) Sp)) (Y2 ?_);refine ca (av eV aM (.b Z) (.b Z) (show(1:Int)=((1:Nat):Int)from Z) (getD_some (l:=[a,b]) (i:=1) (z:=GD) Sp)) (ca (aO aM (.b Z)) (ca (an (ae1 d a b (Qe.1 hP _ Sp) (Qe.1 hP _ Sp)) (.cons (.b Z) (.cons (.b Z) (.cons (.b Z) .nil))) Z Z) (Y9 ?_)));exact Vq;have h35:¬args.length=2:=by intro q;simp[q]at h35
 refine Y5 ?_;have hno2:¬(1≤d.1∧d.1≤9)∧¬(33≤d.1∧d.1≤39):=So;have hno:¬(d.1=7∨d.1=8∨d.1=33∨d.1=34∨d.1=36∨d.1=37∨d.1=38∨d.1=39):=So;have h37:args.length=3:=by have:=abM hno2 hL;have:=(ot d.1).2;omega
 obtain⟨a,b,c,rfl⟩:=Ry h37;refine ab (zM Z (zX eV aM Z Z (show(0:Int)=((0:Nat):Int)from Z) (getD_some (l:=[a,b,c]) (i:=0) (z:=GD) Sp) (Z5 ?_ ?_)))<;>intro h37;have h37b:a.2.2=1:=by simpa using h37
 refine zR (zM Z (zX eV aM Z Z (show(1:Int)=((1:Nat):Int)from Z) (getD_some (l:=[a,b,c]) (i:=1) (z:=GD) Sp) (Y7 ?_)));exact aI results206 (aq aM rfl rfl rfl (Lens.id aK)) (ar rfl) ⟨rfl,rfl⟩ (cd (by unfold eL;(repeat' first|rw[Cg mE]|rw[zE mE]);all_goals(simp only[];rw[Cg h37b];rfl)));have h37b:¬a.2.2=1:=by simpa using h37
 refine Y5 ?_;refine zX eV aM Z Z (show(2:Int)=((2:Nat):Int)from Z) (getD_some (l:=[a,b,c]) (i:=2) (z:=GD) Sp) (Y6 ?_);exact aI results206 (aq aM rfl rfl rfl (Lens.id aK)) (ar rfl) ⟨rfl,rfl⟩ (cd (by unfold eL;(repeat' first|rw[Cg mE]|rw[zE mE]);all_goals(simp only[];rw[zE h37b];rfl)))
def wj(d:aF)(args:List aN)(env:cP)(hN:-9223372036854775808≤d.2∧d.2≤9223372036854775807)(hl:args.length≤1000000)(hT:Ou env):Ct prog 153 [.tv aZ d,.tv (ag aK) args,.tv gD env] (qU (cO d args env)):=by
 refine Yk func153 ntmps153 fun w0 ok0=>?_;refine zb ?_;refine YK (aeP _) ?_;refine Y6 ?_;refine zG Z Z (fun hg=>an (kj _) (.cons (.gd Z hg) .nil) Z Z) (Z4 ?_ ?_)<;>intro h1;have h1:gF d=false∨(args.length:Int)≠aW d.1:=LF;refine zR (zJ (aC Qg Z eq .nil) (Y6 ?_));exact aI results153 (aq aM Z Z Z (Lens.id aK)) (ar Z) ⟨Z,Z⟩ (cd (by unfold cO;rw[Cg h1];rfl));have h1:¬(gF d=false∨(args.length:Int)≠aW d.1):=LF;have hW:gF d=true:=by cases q:gF d;exact absurd (.inl q) h1;rfl
 have hL:(args.length:Int)=aW d.1:=Classical.byContradiction fun q=>h1 (.inr q);refine Y7 ?_;refine zJ (an (acA _ _ (fun q=>(GS hW q).1) hN) (.cons (.b Z) (.cons (.b Z) .nil)) Z Z) (Z3 ?_ ?_)<;>intro h3;have h3:dH d env=false:=Av;refine zR (zJ (aC Qg Z eq .nil) (Y6 ?_));exact aI results153 (aq aM Z Z Z (Lens.id aK)) (ar Z) ⟨Z,Z⟩ (cd (by unfold cO;rw[zE h1,Cg h3];rfl));have hE:dH d env=true:=Av;refine Y6 ?_;refine zJ (an (Y21 _ zo) (.cons (.b Z) .nil) Z Z) (Y5 ?_);refine zG Z Z (fun hg=>an (abC _ _ _ hW hE hL hN) (.cons (.gd Z hg) (.cons (.gd Z hg) (.cons (.gd Z hg) .nil))) Z Z) (Z4 ?_ ?_)<;>intro h5;have h5:args.all da=false∨fJ d args env=false:=E3;refine zR (zJ (aC Qg Z eq .nil) (Y6 ?_));exact aI results153 (aq aM Z Z Z (Lens.id aK)) (ar Z) ⟨Z,Z⟩ (cd (by unfold cO;rw[zE h1,zE acB,Cg h5];rfl));have h5:¬(args.all da=false∨fJ d args env=false):=E3;have hP:args.all da=true:=by cases q:args.all da;exact absurd (.inl q) h5;rfl
 refine Y7 ?_;refine YK (abO _ _ _ hW hE hL hN hP hT) ?_;refine Ks ?_ ?_<;>intro h8;have h8:(eL d args env).2≠0:=Qb;refine zR (zJ (aC Qg Z eq .nil) (Y7 ?_));exact aI results153 (aq aM Z Z Z (Lens.id aK)) (ar Z) ⟨Z,Z⟩ (cd (by unfold cO;rw[zE h1,zE acB,zE h5,Cg h8];rfl));have h8:¬((eL d args env).2≠0):=Qb;refine Y6 ?_;refine YK (nM _) ?_;refine Z3 ?_ ?_<;>intro h10;have h10:da (eL d args env).1=false:=Qk;refine zR (zJ (aC Qg Z eq .nil) (Y6 ?_));exact aI results153 (aq aM Z Z Z (Lens.id aK)) (ar Z) ⟨Z,Z⟩ (cd (by unfold cO;rw[zE h1,zE acB,zE h5,zE h8,Cg h10];rfl));have h10:da (eL d args env).1=true:=Qk;refine Qh ?_;exact aI results153 (aq aM Z Z Z (Lens.id aK)) (ar Z) ⟨Z,Z⟩ (cd (by unfold cO;rw[zE h1,zE acB,zE h5,zE h8,zE acf]))

def abV(e:List aF)(env:cP)(m:Nat)(hm:m<e.length)(h0:(bK e).2.2=0):Ct prog 172 [.tv dQ (e,(bK e).1,env),Sx (m:Nat)] (.tv (ag (ay .i64)) (bV e m)):=by
 refine Yk func172 ntmps172 fun w0 ok0=>?_;obtain⟨hl48,-,hlen,-,hops⟩:=ep h0;obtain⟨har0,hrs⟩:=hops m hm;obtain⟨n,hn⟩:∃n:Nat,aW e[m].1=n:=⟨_,(J1 har0).symm⟩;have hn3:n≤3:=by have:=(ot e[m].1).2;omega
 have ctn:Ct prog 115 [.raw (.int .i64 e[m].1)] (Sx (n:Int)):=hn▸kj _;refine Lc ?_;refine YK ctn ?_;refine zO (fM bT Sj z3 Z J7 (.b Z) (.b Z) zo Kw rfl rfl rfl) (Y20 ?_);refine bf (ι:=(Nat×Int×List Int)) (fun(j,t,suf)=>⟨[(2,Sy 2 dQ),(5,.own 15 1 0 n),(6,Sx (t-1)),(7,Sx ((j:Int)-1))],[(2,⟨dQ,[(e,(bK e).1,env)]⟩),(15,⟨ay .i64,List.replicate j 0++suf⟩)]⟩) (fun(j,t,suf)=>j+suf.length=n∧(∃rs,ir (bK e).1 t rs∧(j:Int)≤rs.length)∧t≤e.length∧MO (bK e).1 j t++suf=MO (bK e).1 n m) (fun(j,t,suf)=>j) (n,(m:Int),[]) Yt (fun a w hi=>(Sub.inv ⟨YV,(by repeat(first|exact aw|refine ao rfl (by first|rfl|(simp;done)) ?_))⟩ hi)) ?_;rintro⟨j,t,suf⟩⟨hjn,⟨rs,hc,hr⟩,htl,hp⟩;refine Z7 ?_ ?_<;>intro h4;have hj0:0<j:=Kb;refine Y5 ?_;obtain⟨s,r,rfl⟩:∃s r,rs=s::r:=by
  cases rs with
  | nil=>simp at hr;omega
  | cons s r=>exact⟨s,r,rfl⟩
 obtain⟨hc1,hc2,hc3,hc4⟩:=hc;have hsv:(bK e).1[(t-1).toNat]'zo=s:=by rw[RY zo]at hc3;exact Option.some.inj hc3
 have hsv2:(e,(bK e).1,env).2.1[(t-1).toNat]'(show(t-1).toNat<(bK e).1.length by omega)=s:=hsv;refine Y4 ?_;refine zJ (bk bT Sj (.b Z) (.b Z) (show(j:Int)-1=((j-1:Nat):Int)by omega) zh) ?_;refine gV _ Z (bH Sj (.b Z) Z zg (Lens.id _) (.raw (.b Z) Z)) ?_;refine Y6 ?_;refine bi _ Z _ Z Z (av bT Sj (.b Z) (.b Z) (show t-1=(((t-1).toNat:Nat):Int)by omega) zg) ?_;exact Tx;have hj0:j=0:=Kb;refine zb ?_;refine e8 15 4 (bQ 15 _) Z Z QE (a6 15 _) (bm 15 _) ?_;exact z1 results172 Z (congrArg (SV.tv (ag (ay .i64))) (by subst hj0;unfold bV;rw[zE zo];simp only[K4,RY (show m<e.length by omega),YM,hn];rw[←hp];simp[MO]at hjn⊢;rw[←hjn];simp))
section
variable{s:bG}{ty:Nat→ce}{x y:List aN}
end
def Ln{α:Type}(a:List α)(z v:α)(m:Nat)(h:0<m):(a++List.replicate m z).set a.length v=(a++[v])++List.replicate (m-1) z:=by obtain⟨m,rfl⟩:∃k,m=k+1:=⟨m-1,So⟩;rw[afp _ _ (Kl _),O5,List.replicate_succ];simp
def fW(r:aN×Int):aN×Int:=if r.2≠0 then(GD,r.2)else if r.1.1≠1∨da r.1=false then(GD,8)else(r.1,0)
def nW(d:aF)(ops:List Int)(f:Int→aN×Int):aN×Int:=
 if d.2≠0 then(GD,2)else if(fW (f (ops[0]?.getD 0))).2≠0 then(GD,(fW (f (ops[0]?.getD 0))).2)
 else if d.1=26∧(fW (f (ops[0]?.getD 0))).1.2.2=1 then f (ops[1]?.getD 0)else if d.1=26 then f (ops[2]?.getD 0)
 else if decide (d.1=23)=decide ((fW (f (ops[0]?.getD 0))).1.2.2=0)then((fW (f (ops[0]?.getD 0))).1,0)else fW (f (ops[1]?.getD 0))
def fE(f:Int→aN×Int):List Int→List aN→List aN×Int
 | [],acc=>(acc,0)
 | o::l,acc=>if(f o).2≠0 then([],(f o).2)else fE f l (acc++[(f o).1])
def ze(e:List aF)(env:cP):Nat→Int→aN×Int
 | 0,_=>(GD,0)
 | n+1,i=>if(e[i.toNat]?.getD (0,0)).1=23∨(e[i.toNat]?.getD (0,0)).1=24∨(e[i.toNat]?.getD (0,0)).1=26 then nW (e[i.toNat]?.getD (0,0)) (bV e i) (ze e env n)
  else if(fE (ze e env n) (bV e i) []).2≠0 then(GD,(fE (ze e env n) (bV e i) []).2)else cO (e[i.toNat]?.getD (0,0)) (fE (ze e env n) (bV e i) []).1 env
def dM(e:List aF)(env:cP):aN×Int:=if(bK e).2.2≠0 then(GD,(bK e).2.2)else ze e env e.length ((e.length:Int)-1)
def AF(h:Int→aN)(ops:List Int)(k:Nat):List aN:=(ops.take k).map h++List.replicate (ops.length-k) (0,0,0)
def ach(hk:k≤ops.length):(AF h ops k).length=ops.length:=by unfold AF;simp;omega
def argG_s(hk:k<ops.length):(AF h ops k).set k (h ops[k])=AF h ops (k+1):=by have hl:((ops.take k).map h).length=k:=QE;have:=Ln ((ops.take k).map h) (0,0,0) (h ops[k]) (ops.length-k) zo;rw[hl]at this;unfold AF;rw[this,px hk,ll,show ops.length-(k+1)=ops.length-k-1 by omega];rfl
def GI(h:Int→aN)(ops:List Int):AF h ops 0=List.replicate ops.length (0,0,0):=by unfold AF;simp
def argG_n(hk:ops.length≤k):AF h ops k=ops.map h:=by unfold AF;rw[fV hk,show ops.length-k=0 by omega];simp
def L3(h0:(bK e).2.2=0)(h:i<e.length):((bV e (i:Int)).length:Int)=aW e[i].1∧(bV e (i:Int)).length≤3∧∀o∈bV e (i:Int),0≤o∧o<(i:Int):=by obtain⟨_,_,_,_,hops⟩:=ep h0;obtain⟨ha,rs,hc,hr,_⟩:=hops i h;have ha3:=(ot e[i].1).2;unfold bV;rw[zE zo];simp only[K4,RY h,YM,pY];refine⟨So,So,fun o ho=>yp _ rs _ hc zo o ho⟩
def acw(h:k<ops.length)(h2:(f ops[k]).2=0):fE f (ops.drop k) ((ops.take k).map fun o=>(f o).1)=fE f (ops.drop (k+1)) ((ops.take (k+1)).map fun o=>(f o).1):=by rw[qv h,fE,zE Ji,px h,ll];rfl
def acE{acc:List aN}(h:k<ops.length)(h2:(f ops[k]).2≠0):fE f (ops.drop k) acc=([],(f ops[k]).2):=by rw[qv h,fE,Cg h2]
def BH(e:List aF)(env:cP)(z:Int)(v:aN×Int)(hv:Ct prog 122 [.tv dQ (e,(bK e).1,env),Sx z] (qU (v))):Ct prog 216 [.tv dQ (e,(bK e).1,env),Sx z] (qU (fW v)):=by refine Yk func216 ntmps216 fun w0 ok0=>?_;refine dy ?_;refine YK hv ?_;refine Ks ?_ ?_<;>intro h2;have h2:v.2≠0:=J3;refine zR (zJ (aC Qg Z eq .nil) (Y7 ?_));exact aI results216 (aq aM Z Z Z (Lens.id aK)) (ar Z) ⟨Z,Z⟩ (cd (by unfold fW;rw[Cg h2];rfl));have h2:¬(v.2≠0):=J3;refine Qh ?_;refine zG Z Z (fun hg=>an (nM _) (.cons (.gd Z hg) .nil) Z Z) (Z4 ?_ ?_)<;>intro h4;have h4:v.1.1≠1∨da v.1=false:=Yo;refine zR (zJ (aC Qg Z eq .nil) (Y6 ?_));exact aI results216 (aq aM Z Z Z (Lens.id aK)) (ar Z) ⟨Z,Z⟩ (cd (by unfold fW;rw[zE h2,Cg h4];rfl));have h4:¬(v.1.1≠1∨da v.1=false):=Yo;refine Qh ?_;exact aI results216 (aq aM Z Z Z (Lens.id aK)) (ar Z) ⟨Z,Z⟩ (cd (by unfold fW;rw[zE h2,zE h4]))
def wc(e:List aF)(d:aF)(ops:List Int)(env:cP)(f:Int→aN×Int)(hl:1<ops.length)(h26:d.1=26→2<ops.length)(hv:∀k,k<ops.length→Ct prog 122 [.tv dQ (e,(bK e).1,env),Sx (ops[k]?.getD 0)] (qU (f (ops[k]?.getD 0)))):Ct prog 173 [.tv dQ (e,(bK e).1,env),.tv aZ d,.tv (ag (ay .i64)) ops] (qU (nW d ops f)):=by refine Yk func173 ntmps173 fun w0 ok0=>?_;refine PI ?_ ?_<;>intro h1;have h1:d.2≠0:=LF;refine zR (zJ (aC Qg Z eq .nil) (Y6 ?_));exact aI results173 (aq aM Z Z Z (Lens.id aK)) (ar Z) ⟨Z,Z⟩ (cd (by unfold nW;rw[Cg h1];rfl));have h1:¬(d.2≠0):=LF;refine Y3 ?_;refine je (Y2 ?_);refine ca (av bT Sj (.b Z) (.b Z) (show(0:Int)=((0:Nat):Int)from Z) (getD_some (l:=ops) (i:=0) (z:=0) zo)) (ca (aO Sj (.b Z)) (ca (an (BH e env _ (f (ops[0]?.getD 0)) (hv 0 zo)) (.cons (.b Z) (.cons (.b Z) .nil)) Z Z) (Y7 ?_)));refine Z8 ?_ ?_<;>intro h4;have h4:(fW (f (ops[0]?.getD 0))).2≠0:=Yo;refine zR (zJ (aC Qg Z eq .nil) (Y7 ?_));exact aI results173 (aq aM Z Z Z (Lens.id aK)) (ar Z) ⟨Z,Z⟩ (cd (by unfold nW;rw[zE h1,Cg h4];rfl));have h4:¬((fW (f (ops[0]?.getD 0))).2≠0):=Yo;refine O0 ?_ ?_<;>intro h6;have h6:d.1=26∧(fW (f (ops[0]?.getD 0))).1.2.2=1:=O3;have hl3:2<ops.length:=h26 h6.1;refine ac ?_;refine je (Y2 ?_);refine ca (av bT Sj (.b Z) (.b Z) (show(1:Int)=((1:Nat):Int)from Z) (getD_some (l:=ops) (i:=1) (z:=0) zo)) (ca (aO Sj (.b Z)) (ca (an (hv 1 zo) (.cons (.b Z) (.cons (.b Z) .nil)) Z Z) (Y9 ?_)));exact aI results173 (aq aM Z Z Z (Lens.id aK)) (ar Z) ⟨Z,Z⟩ (cd (by unfold nW;rw[zE h1,zE h4,Cg h6]));have h6:¬(d.1=26∧(fW (f (ops[0]?.getD 0))).1.2.2=1):=O3;refine Z8 ?_ ?_<;>intro h8;have h8:d.1=26:=Qb;have hl3:2<ops.length:=h26 h8;refine ac ?_;refine je (Y2 ?_);refine ca (av bT Sj (.b Z) (.b Z) (show(2:Int)=((2:Nat):Int)from Z) (getD_some (l:=ops) (i:=2) (z:=0) zo)) (ca (aO Sj (.b Z)) (ca (an (hv 2 zo) (.cons (.b Z) (.cons (.b Z) .nil)) Z Z) (Y9 ?_)));exact aI results173 (aq aM Z Z Z (Lens.id aK)) (ar Z) ⟨Z,Z⟩ (cd (by unfold nW;rw[zE h1,zE h4,zE h6,Cg h8]));have h8:¬d.1=26:=Qb;refine Y8 ?_;refine zJ (kJ QT (.b Z) (.b Z)) (zY Z (aa ?_));refine Z0 ?_ ?_<;>intro h10;have h10:decide (d.1=23)=decide ((fW (f (ops[0]?.getD 0))).1.2.2=0):=eq_of_beq h10;refine Qh ?_;exact aI results173 (aq aM Z Z Z (Lens.id aK)) (ar Z) ⟨Z,Z⟩ (cd (by unfold nW;rw[zE h1,zE h4,zE h6,zE h8,Cg h10]));have h10:¬(decide (d.1=23)=decide ((fW (f (ops[0]?.getD 0))).1.2.2=0)):=fun q=>beq_eq_false_iff_ne.1 h10 q;refine Y4 ?_;refine je (Y2 ?_);refine ca (av bT Sj (.b Z) (.b Z) (show(1:Int)=((1:Nat):Int)from Z) (getD_some (l:=ops) (i:=1) (z:=0) zo)) (ca (aO Sj (.b Z)) (ca (an (BH e env _ (f (ops[1]?.getD 0)) (hv 1 zo)) (.cons (.b Z) (.cons (.b Z) .nil)) Z Z) (Y5 ?_)));refine aa (am ?_);exact aI results173 (aq aM Z Z Z (Lens.id aK)) (ar Z) ⟨Z,Z⟩ (cd (by unfold nW;rw[zE h1,zE h4,zE h6,zE h8,zE h10]))
def Df{m:Nat}(h:d.1=23∨d.1=24∨d.1=26)(hl:(m:Int)=aW d.1):1<m∧(d.1=26→2<m):=by rcases h with h|h|h<;>rw[h]at hl⊢<;>have hl:(m:Int)=_:=hl<;>simp[aW]at hl<;>omega
def acG(e:List aF)(env:cP)(hst:(bK e).2.2=0)(hN:fl e)(hT:Ou env)(n i:Nat)(h:i<e.length)(IH:∀j:Nat,j<i→Ct prog 122 [.tv dQ (e,(bK e).1,env),Sx (j:Nat)] (qU (ze e env n (j:Nat)))):Ct prog 122 [.tv dQ (e,(bK e).1,env),Sx (i:Nat)] (qU (ze e env (n+1) (i:Nat))):=by
 refine Yk func122 ntmps122 fun w0 ok0=>?_;have hops:=L3 hst h;have hIH:∀k,k<(bV e (i:Int)).length→Ct prog 122 [.tv dQ (e,(bK e).1,env),Sx ((bV e (i:Int))[k]?.getD 0)] (qU ((ze e env n) ((bV e (i:Int))[k]?.getD 0))):=fun k hk=>by rw[RY hk,YM];have hb:=hops.2.2 _ (aA hk);have q:=IH (bV e (i:Int))[k].toNat zo;rwa [J1 hb.1]at q
 have hev0:ze e env (n+1) (i:Int)=if e[i].1=23∨e[i].1=24∨e[i].1=26 then nW e[i] (bV e (i:Int)) (ze e env n)else if(fE (ze e env n) (bV e (i:Int)) []).2≠0 then(GD,(fE (ze e env n) (bV e (i:Int)) []).2)else cO e[i] (fE (ze e env n) (bV e (i:Int)) []).1 env:=by exact W4
 refine Y22 ?_;refine YK (abV e env i h hst) ?_;refine Z18 ?_ ?_<;>intro h4;have g4:=h4;have h4:e[i].1=23:=Yo;have h6:e[i].1=23∨e[i].1=24∨e[i].1=26:=So;have hol:=hops.1;have hl1:1<(bV e (i:Int)).length∧(e[i].1=26→2<(bV e (i:Int)).length):=Df h6 hops.1;refine ak (aa ?_);refine bR Z g4 (ac ?_);exact Vv;have g4:=h4;have h4:¬e[i].1=23:=Yo;refine Z6 ?_ ?_<;>intro h5;have g5:=h5;have h5:e[i].1=24:=E3;have h6:e[i].1=23∨e[i].1=24∨e[i].1=26:=So;have hol:=hops.1;have hl1:1<(bV e (i:Int)).length∧(e[i].1=26→2<(bV e (i:Int)).length):=Df h6 hops.1;refine ak (aa ?_);refine bR Z g5 (ac ?_);exact Vv;have g5:=h5;have h5:¬e[i].1=24:=E3;refine Z5 ?_ ?_<;>intro h6;have g6:=h6;have h6x:e[i].1=26:=O3;have h6:e[i].1=23∨e[i].1=24∨e[i].1=26:=So;have hol:=hops.1;have hl1:1<(bV e (i:Int)).length∧(e[i].1=26→2<(bV e (i:Int)).length):=Df h6 hops.1;refine Y5 ?_;refine YK (wc e e[i] (bV e (i:Int)) env (ze e env n) hl1.1 hl1.2 hIH) ?_;refine Y9 ?_;exact aI results122 (aq aM Z Z Z (Lens.id aK)) (ar Z) ⟨Z,Z⟩ (cd (by rw[hev0,Cg h6]));have g6:=h6;have h6:¬e[i].1=26:=O3;have h6n:¬(e[i].1=23∨e[i].1=24∨e[i].1=26):=So;have hol:=hops.2.1;refine Y7 ?_;refine zO (fM eV aM Qg Z Fv (.b Z) (.b Z) zo Kw rfl rfl rfl) (zb ?_);refine bf (ι:=Nat) (fun k=>⟨[(2,Sy 2 dQ),(4,Sy 4 aK),(6,Sy 6 aZ),(8,.own 35 aK.n 0 (bV e (i:Int)).length),(36,.tv (ag (ay .i64)) (bV e (i:Int))),(37,Sx ((bV e (i:Int)).length)),(38,Sx ((k:Nat)))],[(2,⟨dQ,[(e,(bK e).1,env)]⟩),(4,⟨aK,[(0,0,0)]⟩),(6,⟨aZ,[e[i]]⟩),(35,⟨aK,(AF (fun o=>((ze e env n) o).1) (bV e (i:Int)) k)⟩)]⟩) (fun k=>k≤(bV e (i:Int)).length∧fE (ze e env n) ((bV e (i:Int)).drop k) (((bV e (i:Int)).take k).map fun o=>((ze e env n) o).1)=(fE (ze e env n) (bV e (i:Int)) [])) (fun k=>(bV e (i:Int)).length-k) 0 (⟨P8 _,rfl⟩) (fun a w hi=>(Sub.inv ⟨YV,(by repeat(first|exact aw|refine ao rfl (by first|rfl|(exact congrArg (HB.mk aK) (GI _ _).symm)|(exact congrArg (HB.mk aK) (GI _ _))|(rw[GI];simp;done)) ?_))⟩ hi)) ?_;rintro k ⟨hk,hav⟩;have hrl:=ach (h:=fun o=>((ze e env n) o).1) hk;refine Z6 ?_ ?_<;>intro h10;have h10:k<(bV e (i:Int)).length:=Qk;have hcv:Ct prog 122 [.tv dQ (e,(bK e).1,env),.raw (.int .i64 (bV e (i:Int))[k])] (qU ((ze e env n) (bV e (i:Int))[k])):=by have q:=hIH k h10;rwa [RY h10,YM]at q
 have hs:=argG_s (h:=fun o=>((ze e env n) o).1) h10;refine pA ?_;refine YK hcv ?_;refine MY ?_;refine zQ [2,4,6,8,9,11,12,36,37,38,50] [2,4,6,11,35] (aa ?_);refine Z0 ?_ ?_<;>intro h13;have h13:((ze e env n) (bV e (i:Int))[k]).2≠0:=NE;refine zR (zJ (aC Qg Z eq .nil) (Y9 ?_));refine b8 (ax (al ?_));exact aI results122 (aq aM Z Z Z (Lens.id aK)) (ar Z) ⟨Z,Z⟩ (cd (by rw[hev0,zE h6n,←hav,acE h10 h13,Cg h13];rfl));have h13:((ze e env n) (bV e (i:Int))[k]).2=0:=NE;refine Y7 ?_;refine gV _ Z (bH aM (.b Z) Z zg (Lens.id _) (.tv (.b Z))) ?_;refine Y7 ?_;exact aE (fun a w hi=>⟨k+1,zo,⟨So,by rw[←hav,acw h10 h13]⟩,zW hi⟩);have h10:(bV e (i:Int)).length≤k:=Qk;refine Y6 ?_;refine nZ (rt:=aK) 35 8 (bQ 35 _) Z Z zo (a6 35 _) (bm 35 _) ?_;rw[Pv,fV zo,argG_n h10];have hav2:(fE (ze e env n) (bV e (i:Int)) [])=((bV e (i:Int)).map fun o=>((ze e env n) o).1,0):=by rw[←hav,KD h10,fV h10];rfl
 refine Y5 ?_;refine zJ (an (wj e[i] _ env (hN _ (aA h)) QE hT) (.cons (.b rfl) (.cons (.b rfl) (.cons (.b rfl) .nil))) rfl rfl) (Y7 ?_);exact aI results122 (aq aM Z Z Z (Lens.id aK)) (ar Z) ⟨Z,Z⟩ (cd (by rw[hev0,zE h6n,hav2,zE Sp]))
def BG(e:List aF)(env:cP)(hst:(bK e).2.2=0)(hN:fl e)(hT:Ou env):∀(n i:Nat),i<n→i<e.length→Ct prog 122 [.tv dQ (e,(bK e).1,env),Sx (i:Nat)] (qU (ze e env n (i:Nat)))
 | n+1,i,hi,h=>acG e env hst hN hT n i h (fun j hj=>BG e env hst hN hT n j zo zo)
def Fc(e:List aF)(env:cP)(hN:fl e)(hT:Ou env):Ct prog 82 [.tv (ag aZ) e,.tv gD env] (qU (dM e env)):=by
 refine Yk func82 ntmps82 fun w0 ok0=>?_;refine Qh ?_;refine YK (vH _) ?_;refine Po ?_ ?_<;>intro h2;have h2:(bK e).2.2≠0:=J3;refine zR (zJ (aC Qg Z eq .nil) (Y7 ?_));exact aI results82 (aq aM Z Z Z (Lens.id aK)) (ar Z) ⟨Z,Z⟩ (cd (by unfold dM;rw[Cg h2];rfl));have h2:¬(bK e).2.2≠0:=J3;have hst:(bK e).2.2=0:=So;obtain⟨hl48,hl0,_⟩:=ep hst;have hv:Ct prog 122 [.tv dQ (e,(bK e).1,env),Sx ((e.length:Int)-1)] (qU (ze e env e.length ((e.length:Int)-1))):=by have q:=BG e env hst hN hT e.length (e.length-1) zo zo;rwa [show((e.length-1:Nat):Int)=(e.length:Int)-1 by omega]at q
 refine Y7 ?_;refine zJ (aC z237 Z pl237 (.cons (rt':=(ag aZ)) Z CF (.tv (.b Z)) (.cons (rt':=(ag (ay .i64))) Z HS (.tv (.b Z)) (.cons (rt':=gD) Z HR (.tv (.b Z)) .nil)))) (Y3 ?_);refine YK hv ?_;refine Y7 ?_;exact aI results82 (aq aM Z Z Z (Lens.id aK)) (ar Z) ⟨Z,Z⟩ (cd (by unfold dM;rw[zE h2]))
def bO(op:Int):Prop:=50≤op∧op≤53
instance(op:Int):Decidable (bO op):=by unfold bO;infer_instance
inductive Px{S:Type}(T:aF→S→List (Bool×S)→Prop)(E:S→Prop)(code:List aF):Nat→S→Prop
 | fin {s:S}:E s→Px T E code code.length s
 | step {x:Nat} {s:S} {d:aF} {outs:List (Bool×S)}:code[x]?=some d→T d s outs→(∀o∈outs,o.1=true→(x:Int)<d.2)→
  (∀o∈outs,Px T E code (if o.1=true then d.2.toNat else x+1) o.2)→Px T E code x s
def j3(d:aF):Option aN:=if 1≤d.1∧d.1≤5 then some (d.1,0,d.2)else if d.1=6∧0≤d.2∧d.2<128 then some (6,d.2/16,d.2%16)else none
def oU(v:aN):aF:=if 1≤v.1∧v.1≤5 then(v.1,v.2.2)else(6,16*v.2.1+v.2.2)
def mV:cP:=(0,[],[],[],[],[])
structure TT(T:aF→S→List (Bool×S)→Prop)(pu:aN→S→S):Prop where
 jmp:∀op n n' s outs,bO op→T (op,n) s outs→T (op,n') s outs
 go:∀n s outs,T (51,n) s outs→outs=[(true,s)]
 seq:∀d s outs,¬bO d.1→T d s outs→∀o∈outs,o.1=false
 lit:∀d v s outs,j3 d=some v→da v=true→T d s outs→outs=[(false,pu v s)]
 op:∀(d:aF) (vs:List aN) (v:aN) s outs,vs≠[]→cO d vs mV=(v,0)→T d (vs.foldl (fun s v=>pu v s) s) outs→outs=[(false,pu v s)]∧T (oU v) s [(false,pu v s)]
section
variable{T:aF→S→List (Bool×S)→Prop}{E:S→Prop}{pu:aN→S→S}
def HD(h:Px T E code x s):x≤code.length:=by
 cases h with
 | fin h=>exact Kl _
 | step h _ _ _=>exact Nat.le_of_lt (Y0.1 h).1
def acM(v:aN):¬bO (oU v).1:=by unfold oU bO;split<;>simp<;>omega
def ac8(ht:TT T pu){p a:Nat}{adj:aF→aF}
 (hadj:∀d,(adj d).1=d.1∧(¬bO d.1→adj d=d)∧(bO d.1→(adj d).2=if(p+a:Nat)<d.2 then d.2-a else d.2))
 (h1:∀x,x<p→code'[x]?=code[x]?.map adj) (h2:code'[p]?=some (oU v)) (h3:∀x,p+a<x→code'[x-a]?=code[x]?.map adj) (h4:code'.length+a=code.length)
 (h5:∀j (h:j<vs.length),∃l,code[p+j]?=some l∧j3 l=some vs[j]∧da vs[j]=true) (hva:vs.length=a) (h6:code[p+a]?=some d) (h7:vs≠[])
 (h8:∀(x:Nat) (j:aF),code[x]?=some j→bO j.1→(p:Int)<j.2→j.2≤(p+a:Nat)→False) (h9:cO d vs mV=(v,0)) (hjd:¬bO d.1)   (h:Px T E code x s):
 (x<p→Px T E code' x s)∧(∀j,j≤a→x=p+j→∀s0,s=(vs.take j).foldl (fun s v=>pu v s) s0→Px T E code' p s0)∧(p+a<x→Px T E code' (x-a) s):=by
 have hpl:p+a<code.length:=(Y0.1 h6).1;induction h with
 | fin hE=>refine⟨fun q=>So,fun j q1 q2=>So,fun q=>?_⟩;rw[show code.length-a=code'.length by omega];exact .fin hE
 | @step x s d' outs g1 g2 g3 g4 ih=>
  have hgo:∀y,(∀(q:x<p∨p+a<x),y=(if x<p then x else x-a)→code'[y]?=some (adj d')→Px T E code' y s):=fun y q e0 e1=>by
   have hT:T (adj d') s outs:=by by_cases hj:bO d'.1;have:=ht.jmp d'.1 d'.2 (adj d').2 s outs hj g2;rw[←(hadj d').1]at this;exact this;rw[(hadj d').2.1 hj];exact g2
   have hj0:∀o∈outs,o.1=true→bO d'.1:=fun o ho e=>Classical.byContradiction fun c=>by exact Xi
   have hN:∀o∈outs,o.1=true→(adj d').2=if(p+a:Nat)<d'.2 then d'.2-a else d'.2:=fun o ho e=>(hadj d').2.2 (hj0 o ho e)
   refine .step e1 hT (fun o ho e=>?_) (fun o ho=>?_);have q1:=hj0 o ho e;have q2:=g3 o ho e;have q3:=h8 x d' g1 q1;rw[hN o ho e,e0];split<;>split<;>omega;obtain⟨i1,i2,i3⟩:=ih o ho;by_cases e:o.1=true;have q1:=hj0 o ho e;have q2:=g3 o ho e;have q3:=h8 x d' g1 q1;rw[Cg e]at i1 i2 i3⊢;rw[hN o ho e];by_cases c1:d'.2.toNat<p;rw[zE zo];exact i1 c1;by_cases c2:d'.2.toNat=p;rw[zE zo,c2];exact i2 0 (P8 _) zo _ Sp;have c3:(p+a:Nat)<d'.2:=Classical.byContradiction fun c=>q3 zo zo;rw[Cg c3,show(d'.2-(a:Int)).toNat=d'.2.toNat-a by omega];exact i3 zo;rw[zE e]at i1 i2 i3⊢;rw[e0];rcases q with q|q;rw[Cg q];by_cases c:x+1<p;exact i1 c;have c:x+1=p:=So;rw[c];exact i2 0 (P8 _) zo _ Sp;rw[zE zo,show x-a+1=x+1-a by omega];exact i3 zo
  refine⟨fun q=>hgo x (.inl q) (by rw[Cg q]) (by rw[h1 x q,g1];rfl),fun j hj hx s0 hs=>?_,fun q=>hgo (x-a) (.inr q) (by rw[zE zo]) (by rw[h3 x q,g1];rfl)⟩;by_cases hja:j<a;obtain⟨l,l1,l2,l3⟩:=h5 j zo;rw[hx,l1]at g1;injection g1 with g1;subst g1;have e:=ht.lit _ _ _ _ l2 l3 g2;subst e;have:=(ih (false,pu vs[j] s) Sp).2.1 (j+1) zo (by simp[hx];omega) s0;refine this ?_;rw[px zo,List.foldl_append,←hs];rfl;have hja:j=a:=So;subst hja;rw[hx,h6]at g1;injection g1 with g1;subst g1;rw[fV zo]at hs;subst hs;obtain⟨e,hl⟩:=ht.op _ _ _ _ _ h7 h9 g2;subst e;have hi:=(ih (false,pu v s0) Sp).2.2;refine .step h2 hl (fun o ho e=>?_) (fun o ho=>?_);simp at ho;subst ho;cases e;simp at ho;subst ho;have:=hi QE;simp only[PN,if_false]at this⊢;rw[show p+1=x+1-j by omega];exact this
inductive Fol(code:List aF):Int→Int→Prop
 | refl {n:Int}:Fol code n n
 | step {n m k:Int}:0≤n→code[n.toNat]?=some (51,m)→n<m→Fol code m k→Fol code n k
def Fol.le{k:Int}(h:Fol code n k):n≤k:=by
 induction h with
 | refl=>exact Int.le_refl _
 | step _ _ _ _ ih=>omega
def adk(ht:TT T pu)(hl:code'.length=code.length)(h1:∀(x:Nat) (d:aF),code[x]?=some d→¬bO d.1→code'[x]?=some d)
 (h2:∀(x:Nat) (d:aF),code[x]?=some d→bO d.1→∃n,code'[x]?=some (d.1,n)∧Fol code d.2 n)   (h:Px T E code x s):∀y:Int,Fol code x y→Px T E code' y.toNat s:=by
 induction h with
 | fin hE=>
  intro y hy;cases hy with
  | refl=>rw[K4,←hl];exact .fin hE
  | step _ h _ _=>rw[K4]at h;have:=(Y0.1 h).1;omega
 | @step x s d outs g1 g2 g3 g4 ih=>
  intro y hy;have hj0:∀o∈outs,o.1=true→bO d.1:=fun o ho e=>Classical.byContradiction fun c=>by exact Xi
  cases hy with
  | refl=>rw[K4];by_cases hj:bO d.1;obtain⟨n,e1,e2⟩:=h2 x d g1 hj;have:=e2.le;refine .step e1 (ht.jmp _ _ _ _ _ hj g2) (fun o ho e=>?_) (fun o ho=>?_);have:=g3 o ho e;show(x:Int)<n;omega;have i:=ih o ho;by_cases e:o.1=true;have q:=g3 o ho e;rw[Cg e]at i⊢;exact i n (by rw[J1 zo];exact e2);rw[zE e]at i⊢;have:=i ((x+1:Nat):Int) .refl;rwa [K4]at this;refine .step (h1 x d g1 hj) g2 g3 (fun o ho=>?_);have i:=ih o ho;have e:¬o.1=true:=fun e=>hj (hj0 o ho e);rw[zE e]at i⊢;have:=i ((x+1:Nat):Int) .refl;rwa [K4]at this
  | @step _ m k q0 q1 q2 q3=>rw[K4,g1]at q1;injection q1 with q1;subst q1;have e:=ht.go _ _ _ g2;subst e;have:=ih (true,s) Sp;simp only[if_true]at this;exact this _ (by rw[J1 zo];exact q3)
def adm(ht:TT T pu){keep:Nat→Bool}{π:Nat→Nat}{R:Nat→Prop}(hπ:∀x,x<code.length→π (x+1)=π x+if keep x=true then 1 else 0)(hl:code'.length=π code.length)
 (h1:∀(x:Nat) (d:aF),code[x]?=some d→keep x=true→∃d',code'[π x]?=some d'∧d'.1=d.1∧(¬bO d.1→d'=d)∧(bO d.1→R x→d'.2=π d.2.toNat))
 (h2:∀(x:Nat) (d:aF),code[x]?=some d→keep x=false→R x→d=(51,((x+1:Nat):Int)))
 (h3:∀(x:Nat) (d:aF),code[x]?=some d→R x→(d.1≠51→R (x+1))∧(bO d.1→R d.2.toNat))   (h:Px T E code x s):R x→Px T E code' (π x) s:=by
 have hmono:∀n x,x+n≤code.length→π x≤π (x+n):=fun n=>by
  induction n with
  | zero=>intro x _;exact Kl _
  | succ n ih=>intro x hx;have:=ih x zo;have:=hπ (x+n) zo;rw[show x+(n+1)=x+n+1 by omega];omega
 induction h with
 | fin hE=>intro _;rw[←hl];exact .fin hE
 | @step x s d outs g1 g2 g3 g4 ih=>
  intro hR;have hxl:x<code.length:=(Y0.1 g1).1;have hj0:∀o∈outs,o.1=true→bO d.1:=fun o ho e=>Classical.byContradiction fun c=>by exact Xi
  have hp:=hπ x hxl;obtain⟨r1,r2⟩:=h3 x d g1 hR;by_cases hk:keep x=true;rw[Cg hk]at hp;obtain⟨d',e1,e2,e3,e4⟩:=h1 x d g1 hk;have hT:T d' s outs:=by by_cases hj:bO d.1;have:=ht.jmp d.1 d.2 d'.2 s outs hj g2;rw[←e2]at this;exact this;rw[e3 hj];exact g2
  refine .step e1 hT (fun o ho e=>?_) (fun o ho=>?_);have hj:=hj0 o ho e;have q:=g3 o ho e;have hle:=HD (g4 o ho);rw[Cg e]at hle;rw[e4 hj hR];have:=hmono (d.2.toNat-(x+1)) (x+1) zo;rw[show x+1+(d.2.toNat-(x+1))=d.2.toNat by omega]at this;omega;have i:=ih o ho;by_cases e:o.1=true;rw[Cg e]at i⊢;have hj:=hj0 o ho e;rw[e4 hj hR,K4];exact i (r2 hj);rw[zE e]at i⊢;rw[←hp];refine i (r1 fun h51=>?_);obtain⟨d1,d2⟩:=d;have h51:d1=51:=h51;subst h51;have:=ht.go _ _ _ g2;subst this;simp at ho;subst ho;exact e rfl;have hk:keep x=false:=Og;rw[hk]at hp;have e:=h2 x d g1 hk hR;subst e;have e:=ht.go _ _ _ g2;subst e;have i:=ih (true,s) Sp;simp only[if_true,K4]at i;have:=i (by have:=r2 (by unfold bO;simp);simpa using this);rw[hp]at this;simpa using this
end
def gP(op:Int):Prop:=op=23∨op=24∨op=26
instance(op:Int):Decidable (gP op):=by unfold gP;infer_instance
def qC(h:bO op):aW op = -1:=by unfold bO at h;unfold aW;rw[zE zo,zE zo,zE zo,zE zo]
def vt(h:0≤aW op):¬bO op:=fun c=>by rw[qC c]at h;omega
def jY(h:cO d args env=(v,0)):gF d=true∧(args.length:Int)=aW d.1∧dH d env=true∧args.all da=true∧fJ d args env=true∧(eL d args env).2=0∧da v=true∧(eL d args env).1=v:=by unfold cO at h;split at h;cases(Prod.mk.inj h).2;rename_i h1;split at h;cases(Prod.mk.inj h).2;rename_i h2;split at h;cases(Prod.mk.inj h).2;rename_i h3;split at h;rename_i h4;exact absurd (Prod.mk.inj h).2 h4;rename_i h4;split at h;cases(Prod.mk.inj h).2;rename_i h5;have e:=(Prod.mk.inj h).1;refine⟨by simpa using fun c=>h1 (.inl c),Classical.byContradiction fun c=>h1 (.inr c),J3,by simpa using fun c=>h3 (.inl c),by simpa using fun c=>h3 (.inr c),Classical.byContradiction h4,?_,e⟩;rw[←e];simpa using h5
def wi(h1:gF d=true)(h2:(args.length:Int)=aW d.1)(h3:dH d env=true)(h4:args.all da=true)(h5:fJ d args env=true)(h6:eL d args env=(v,0))(h7:da v=true):cO d args env=(v,0):=by unfold cO;rw[zE (by simp[h1,h2]),zE (by simp[h3]),zE (by simp[h4,h5]),zE (by simp[h6]),zE (by simp[h6,h7]),h6]
def sx(h:j3 d=some v)(hp:da v=true):cO d [] env=(v,0)∧aW d.1=0∧¬bO d.1∧¬gP d.1:=by
 unfold j3 at h;split at h;rename_i h1;injection h with h;have ha:aW d.1=0:=by unfold aW;rw[Cg zo]
 refine⟨wi ?_ (by simp[ha]) ?_ Z ?_ ?_ hp,ha,vt zo,acd⟩;unfold gF;rw[zE (by rw[ha];unfold fd;simp;omega),zE zo,zE zo,zE zo];exact W9;exact Xa;unfold eL;rw[Cg zo,←h];split at h;rename_i h1 h2;injection h with h;have ha:aW d.1=0:=by unfold aW;rw[Cg zo]
 refine⟨wi ?_ (by simp[ha]) ?_ Z ?_ ?_ hp,ha,vt zo,acd⟩;unfold gF;rw[zE (by rw[ha];unfold fd;simp;omega),zE zo,zE zo,Cg zo];simp;omega;exact W9;exact Xa;unfold eL;rw[zE zo,Cg zo,←h];cases h
def Bm(hp:da v=true):j3 (oU v)=some v:=by obtain⟨k,e,n⟩:=v;unfold da at hp;simp only[YC]at hp;obtain⟨h1,h2⟩:=hp;unfold oU;by_cases hk:1≤k∧k≤5;rw[Cg hk];unfold j3;rw[Cg hk];rw[zE (by show ¬k=6;omega)]at h2;simp at h2;simp[h2];rw[zE hk];by_cases h6:k=6;subst h6;simp[jL]at h1 h2;unfold j3;rw[zE Sp,Cg ⟨rfl,QE,QE⟩];simp;omega;exfalso;rw[show jL k=(0,-1)by unfold jL;rw[zE zo,zE zo,zE zo,zE zo,zE zo,zE zo]]at h1;simp at h1;omega
def Z20(hn:vs≠[])(h:cO d vs mV=(v,0)):cO d vs env=(v,0):=by
 obtain⟨h1,h2,h3,h4,h5,h6,h7,h8⟩:=jY h;have hl:0<vs.length:=N9.2 hn;have n33:d.1≠33:=fun e=>by unfold dH at h3;rw[zE zo,zE zo,Cg e]at h3;have:=MW h3;simp only[mV,FV]at this;omega
 have n34:d.1≠34:=fun e=>by have:=(GS h1 e).1;unfold dH at h3;rw[zE zo,zE zo,zE zo,Cg e]at h3;have:=MW h3;simp only[mV,FV]at this;omega
 have n0:¬(d.1≤9∧1≤d.1)∧¬(35≤d.1∧d.1≤39):=⟨fun c=>by unfold aW at h2;rw[Cg zo]at h2;omega,fun c=>by unfold aW at h2;rw[Cg zo]at h2;omega⟩;refine wi h1 h2 ?_ h4 ?_ ?_ h7;exact W9;rw[←h5];unfold fJ;rw[zE zo,zE zo,zE zo,zE zo,zE zo,zE zo,zE zo,zE zo,zE zo,zE zo];have e:eL d vs env=eL d vs mV:=by unfold eL;rw[zE zo,zE zo,zE zo,zE zo,zE zo,zE zo,zE zo,zE zo,zE zo,zE zo,zE zo,zE zo,zE zo,zE zo,zE zo,zE zo,zE zo,zE zo]
 rw[e];exact Prod.ext h8 h6
def TS(d:aF)(s:Nat)(outs:List (Bool×Nat)):Prop:=
 (d.1=51∧outs=[(true,s)])∨(d.1=50∧1≤s∧outs=[(false,s-1),(true,s-1)])∨((d.1=52∨d.1=53)∧1≤s∧outs=[(false,s-1),(true,s)])∨
 (¬gP d.1∧0≤aW d.1∧aW d.1≤s∧s-aW d.1+1≤12∧outs=[(false,s-(aW d.1).toNat+1)])
def Gd(code:List aF):Nat→Nat→Prop:=Px TS (fun s=>s=1) code
def Ld{s:Nat}{outs}(hj:¬bO d.1)(h:TS d s outs):¬gP d.1∧0≤aW d.1∧aW d.1≤s∧s-aW d.1+1≤12∧outs=[(false,s-(aW d.1).toNat+1)]:=by unfold bO at hj;rcases h with h|h|h|h;omega;omega;omega;exact h
def z92(vs:List aN):∀s:Nat,vs.foldl (fun s _=>s+1) s=s+vs.length:=by
 induction vs with
 | nil=>intro s;rfl
 | cons v r ih=>intro s;rw[List.foldl_cons,ih,NK];omega
def FJ:TT TS (fun _ s=>s+1) where
 jmp op n n' s outs hj h:=h
 go n s outs h:=by
  rcases h with h|h|h|h
  ·exact h.2
  ·have:=h.1;simp at this
  ·have:=h.1;simp at this
  have:=h.2.1;simp[aW]at this
 seq d s outs hj h o ho:=by
  obtain⟨_,_,_,_,e⟩:=Ld hj h
  subst e;simp at ho;subst ho;rfl
 lit d v s outs hl hp h:=by
  obtain⟨_,ha,hj,_⟩:=sx (env:=mV) hl hp
  obtain⟨_,_,_,_,e⟩:=Ld hj h
  rw[ha]at e;exact e
 op d vs v s outs hn ha h:=by
  obtain⟨h1,h2,_,_,_,_,h7,_⟩:=jY ha
  have hl:0<vs.length:=N9.2 hn
  rw[z92]at h
  obtain⟨q1,q2,q3,q4,e⟩:=Ld (vt zo) h
  obtain⟨_,ha',hj,hlz⟩:=sx (env:=mV) (Bm h7) h7
  refine⟨by rw[e,←h2];simp,.inr (.inr (.inr ⟨hlz,So,So,So,by rw[ha'];simp⟩))⟩
def ts_inv{s s':Nat}{outs outs'}(h:TS d s outs)(h':TS d s' outs'):outs.length=outs'.length∧0<outs.length∧∀i (hi:i<outs.length) (hi':i<outs'.length),outs[i].1=outs'[i].1∧(outs[i].2=outs'[i].2→s=s'):=by
 have ha:bO d.1→¬0≤aW d.1:=fun c=>by rw[qC c];omega
 unfold bO at ha;rcases h with⟨h1,h⟩|⟨h1,h2,h⟩|⟨h1,h2,h⟩|⟨h1,h2,h3,h4,h⟩<;>rcases h' with⟨g1,g⟩|⟨g1,g2,g⟩|⟨g1,g2,g⟩|⟨g1,g2,g3,g4,g⟩<;>subst h<;>subst g<;>
  first
  | (exfalso;omega)
  | (
   refine⟨Z,Sp,fun i hi hi'=>?_⟩
   simp at hi
   rcases i with _|_|i
   ·exact⟨Z,fun e=>by simp at e;omega⟩
   ·first|(simp at hi;done)|exact⟨rfl,fun e=>by simp at e;omega⟩
   first|(simp at hi;done)|omega)
def svT{s:Nat}(h:Gd code x s):∀s',Gd code x s'→s=s':=by
 induction h with
 | fin hE=>
  intro s' h';cases h' with
  | fin hE'=>exact hE.trans hE'.symm
  | step g _ _ _=>have:=(Y0.1 g).1;omega
 | @step x s d outs g1 g2 g3 g4 ih=>
  intro s' h';cases h' with
  | fin hE'=>have:=(Y0.1 g1).1;omega
  | @step _ _ d' outs' k1 k2 k3 k4=>rw[g1]at k1;injection k1 with k1;subst k1;obtain⟨l1,l2,l3⟩:=ts_inv g2 k2;obtain⟨e1,e2⟩:=l3 0 l2 zo;refine e2 ?_;have i:=ih outs[0] (aA _) outs'[0].2;have q:=k4 outs'[0] (aA _);rw[←e1]at q;exact i q
def okB(v:aN):Prop:=v.1=1∧(v.2.2=0∨v.2.2=1)
instance(v:aN):Decidable (okB v):=by unfold okB;infer_instance
def tK(op:Int)(v:aN):Bool:=decide (decide (v.2.2=1)=decide (op=53))
def TD(env:cP)(r:aN×Int)(d:aF)(st:List aN)(outs:List (Bool×List aN)):Prop:=
 (d.1=51∧outs=[(true,st)])∨
 ((d.1=50∨d.1=52∨d.1=53)∧∃base top,st=base++[top]∧((¬okB top∧r=(GD,8)∧outs=[])∨(okB top∧outs=[(tK d.1 top,if tK d.1 top=true∧d.1≠50 then st else base)])))∨
 (¬gP d.1∧∃base args,st=base++args∧(args.length:Int)=aW d.1∧(((cO d args env).2≠0∧r=(GD,(cO d args env).2)∧outs=[])∨((cO d args env).2=0∧outs=[(false,base++[(cO d args env).1])])))
def EnV(r:aN×Int)(st:List aN):Prop:=∃l,st=r.1::l∧r.2=0
def f7(code:List aF)(env:cP)(r:aN×Int):Nat→List aN→Prop:=Px (TD env r) (EnV r) code
def Lh{r:aN×Int}{st outs}(hj:¬bO d.1)(h:TD env r d st outs):¬gP d.1∧∃base args,st=base++args∧(args.length:Int)=aW d.1∧(((cO d args env).2≠0∧r=(GD,(cO d args env).2)∧outs=[])∨((cO d args env).2=0∧outs=[(false,base++[(cO d args env).1])])):=by unfold bO at hj;rcases h with h|h|h;omega;omega;exact h
def chB(vs:List aN):∀s:List aN,vs.foldl (fun s v=>s++[v]) s=s++vs:=by
 induction vs with
 | nil=>intro s;simp
 | cons v r ih=>intro s;rw[List.foldl_cons,ih];simp
def tdTT(env:cP)(r:aN×Int):TT (TD env r) (fun v s=>s++[v]) where
 jmp op n n' s outs hj h:=by
  rcases h with h|h|h
  ·exact .inl h
  ·exact .inr (.inl h)
  obtain⟨_,_,args,_,h,_⟩:=h
  have:=qC hj
  have h:(args.length:Int)=aW op:=h
  omega
 go n s outs h:=by
  rcases h with h|h|h
  ·exact h.2
  ·have:=h.1;simp at this
  obtain⟨_,_,args,_,h,_⟩:=h
  have h:(args.length:Int) = -1:=h
  omega
 seq d s outs hj h o ho:=by
  obtain⟨_,_,_,_,_,e⟩:=Lh hj h
  rcases e with e|e
  ·rw[e.2.2]at ho;simp at ho
  rw[e.2]at ho;simp at ho;subst ho;rfl
 lit d v s outs hl hp h:=by
  obtain⟨h0,ha,hj,_⟩:=sx (env:=env) hl hp
  obtain⟨_,base,args,e1,e2,e⟩:=Lh hj h
  have:args=[]:=jC.1 zo
  subst this
  rw[h0]at e
  rcases e with e|e
  ·exact absurd Z e.1
  rw[e.2,e1];simp
 op d vs v s outs hn ha h:=by
  have ha':=Z20 (env:=env) hn ha
  obtain⟨h1,h2,_,_,_,_,h7,_⟩:=jY ha
  obtain⟨h0,q1,q2,q3⟩:=sx (env:=env) (Bm h7) h7
  rw[chB]at h
  obtain⟨_,base,args,e1,e2,e⟩:=Lh (vt zo) h
  obtain⟨rfl,rfl⟩:=List.append_inj' e1 zo
  rw[ha']at e
  refine⟨?_,.inr (.inr ⟨q3,s,[],Sp,by simp[q1],.inr ⟨by rw[h0],by rw[h0]⟩⟩)⟩
  rcases e with e|e
  ·exact absurd Z e.1
  exact e.2
def iu(f:Int→Nat→List aF):List Int→Nat→List aF
 | [],_=>[]
 | o::r,b=>f o b++iu f r (b+(f o b).length)
def FA(op:Int)(b:Nat)(c0 c1:Nat→List aF):List aF:=
 c0 b++(op,((b+(c0 b).length+1+(c1 (b+(c0 b).length+1)).length:Nat):Int))::c1 (b+(c0 b).length+1)
def Ps(b:Nat)(c1 c2:Nat→List aF):List aF:=
 c1 b++(51,((b+(c1 b).length+1+(c2 (b+(c1 b).length+1)).length:Nat):Int))::c2 (b+(c1 b).length+1)
def Gy(b:Nat)(c0 c1 c2:Nat→List aF):List aF:=
 c0 b++(50,((b+(c0 b).length+1+(c1 (b+(c0 b).length+1)).length+1:Nat):Int))::Ps (b+(c0 b).length+1) c1 c2
def dn(e:List aF):Nat→Int→Nat→List aF
 | 0,_,_=>[]
 | n+1,i,b=>
  if(e[i.toNat]?.getD (0,0)).1=23∨(e[i.toNat]?.getD (0,0)).1=24 then FA (if(e[i.toNat]?.getD (0,0)).1=23 then 52 else 53) b (dn e n ((bV e i)[0]?.getD 0)) (dn e n ((bV e i)[1]?.getD 0))
  else if(e[i.toNat]?.getD (0,0)).1=26 then Gy b (dn e n ((bV e i)[0]?.getD 0)) (dn e n ((bV e i)[1]?.getD 0)) (dn e n ((bV e i)[2]?.getD 0))
  else iu (dn e n) (bV e i) b++[e[i.toNat]?.getD (0,0)]
def m3(e:List aF):List aF:=dn e e.length ((e.length:Int)-1) 0
def Sb(code:List aF)(b:Nat)(C:List aF):Prop:=∃pre post,code=pre++(C++post)∧pre.length=b
def Sb.app{A B:List aF}(h:Sb code b (A++B)):Sb code b A∧Sb code (b+A.length) B:=by obtain⟨pre,post,e,hl⟩:=h;exact⟨⟨pre,B++post,by rw[e,F3],hl⟩,⟨pre++A,post,by rw[e,F3,F3],by simp[hl]⟩⟩
def Sb.cons{B:List aF}(h:Sb code b (d::B)):code[b]?=some d∧Sb code (b+1) B:=by obtain⟨pre,post,e,hl⟩:=h;refine⟨by rw[e,←hl,l9 (Kl _)];simp,⟨pre++[d],post,by rw[e];simp,by simp[hl]⟩⟩
def Sb.le{C:List aF}(h:Sb code b C):b+C.length≤code.length:=by obtain⟨pre,post,e,hl⟩:=h;rw[e,←hl];simp
def Bg{S:List Int}:∀(a:Nat) {rs:List Int} {t:Int},ir S t rs→a≤rs.length→∀k (hk:k<(MO S a t).length),0≤(MO S a t)[k]∧(MO S a t)[k]<t∧ir S ((MO S a t)[k]+1) (rs.drop (a-1-k))
 | 0,rs,t,hc,ha,k,hk=>by simp[MO]at hk
 | a+1,[],t,hc,ha,k,hk=>by simp at ha
 | a+1,s::r,t,hc,ha,k,hk=>by
  have h0:=hc;obtain⟨h1,h2,h3,h4⟩:=hc;have e0:S[(t-1).toNat]?.getD 0=s:=by rw[h3];rfl
  have hl:=pY (starts:=S) (a+1) t;have hl2:=pY (starts:=S) a s;by_cases hka:k<a;have e:(MO S (a+1) t)[k]=(MO S a s)[k]'zo:=by simp only[MO,e0];rw[afz]
  rw[e];obtain⟨q1,q2,q3⟩:=Bg a h4 (by simpa using ha) k zo;refine⟨q1,So,?_⟩;rw[show a+1-1-k=(a-1-k)+1 by omega,List.drop_succ_cons];exact q3;have hka:k=a:=So;subst hka;have e:(MO S (k+1) t)[k]=t-1:=by simp only[MO,e0];rw[afA zo];simp[hl2]
  rw[e];refine⟨So,So,?_⟩;rw[show k+1-1-k=0 by omega,Pv,Int.sub_add_cancel];exact h0
def wS(S:List Int)(o:Int):Int:=o+1-S[o.toNat]?.getD 0
def tx(S:List Int):List Int→Int
 | []=>0
 | o::r=>wS S o+tx S r
def DE{S:List Int}:∀(a b:List Int),tx S (a++b)=tx S a+tx S b
 | [],b=>by simp[tx]
 | x::a,b=>by simp[tx,DE a b];omega
def HI{S:List Int}:∀(a:Nat) {rs:List Int} {t:Int},ir S t rs→a≤rs.length→tx S (MO S a t)=t-(if a=0 then t else rs[a-1]?.getD 0)
 | 0,rs,t,hc,ha=>by simp[MO,tx]
 | a+1,[],t,hc,ha=>by simp at ha
 | a+1,s::r,t,hc,ha=>by
  obtain⟨h1,h2,h3,h4⟩:=hc;have e0:S[(t-1).toNat]?.getD 0=s:=by rw[h3];rfl
  rw[MO,DE,e0,HI a h4 (by simpa using ha)];simp only[tx,wS,e0];cases a with
  | zero=>simp
  | succ a=>rw[zE zo,zE zo];simp;omega
def r5(hs:(bK e).2.2=0)(h:i<e.length):∃rs,ir (bK e).1 ((i:Int)+1) rs∧rs.length≤12∧1≤rs.length∧0≤aW e[i].1∧((bV e (i:Int)).length:Int)=aW e[i].1∧
 tx (bK e).1 (bV e (i:Int))+1=wS (bK e).1 (i:Int)∧∀k (hk:k<(bV e (i:Int)).length),0≤(bV e (i:Int))[k]∧(bV e (i:Int))[k]<(i:Int)∧∃rs',ir (bK e).1 ((bV e (i:Int))[k]+1) rs'∧rs'.length=rs.length+k:=by
 obtain⟨_,_,_,_,hops⟩:=ep hs;obtain⟨ha,rs,hc,hr,frm,p1,p2,p3,p4⟩:=hops i h;have eo:bV e (i:Int)=MO (bK e).1 (aW e[i].1).toNat (i:Int):=by unfold bV;rw[zE zo];simp only[K4,RY h,YM]
 have hl:=pY (starts:=(bK e).1) (aW e[i].1).toNat (i:Int);refine⟨frm::rs.drop (aW e[i].1).toNat,by simpa using p1,by simpa using p4,Sp,ha,by rw[eo,hl];omega,?_,fun k hk=>?_⟩;rw[eo,HI _ hc zo];have e1:=p1.2.2.1;have e2:((((i+1:Nat):Int))-1).toNat=i:=So;rw[e2]at e1;simp only[wS,K4,e1,YM];by_cases h0:aW e[i].1=0;rw[Cg zo,p2 h0];omega;rw[zE zo,p3 zo];simp;omega;simp only[eo];have hk':k<(MO (bK e).1 (aW e[i].1).toNat (i:Int)).length:=by rw[←eo];exact hk
 obtain⟨q1,q2,q3⟩:=Bg (aW e[i].1).toNat hc zo k hk';refine⟨q1,q2,_,q3,?_⟩;simp only[PS,NK];omega
def rG{n:Nat}(h:i<e.length)(h1:e[i].1=23∨e[i].1=24):dn e (n+1) (i:Int) b=FA (if e[i].1=23 then 52 else 53) b (dn e n ((bV e (i:Int))[0]?.getD 0)) (dn e n ((bV e (i:Int))[1]?.getD 0)):=by rw[dn];simp only[K4,RY h,YM];rw[Cg h1]
def xJ{n:Nat}(h:i<e.length)(h1:e[i].1=26):dn e (n+1) (i:Int) b=Gy b (dn e n ((bV e (i:Int))[0]?.getD 0)) (dn e n ((bV e (i:Int))[1]?.getD 0)) (dn e n ((bV e (i:Int))[2]?.getD 0)):=by rw[dn];simp only[K4,RY h,YM];rw[zE zo,Cg h1]
def xI{n:Nat}(h:i<e.length)(h1:¬gP e[i].1):dn e (n+1) (i:Int) b=iu (dn e n) (bV e (i:Int)) b++[e[i]]:=by unfold gP at h1;rw[dn];simp only[K4,RY h,YM];rw[zE zo,zE zo]
def rI:(op=23∨op=24→aW op=2)∧(op=26→aW op=3):=by refine⟨fun h=>?_,fun h=>?_⟩;rcases h with h|h<;>subst h<;>rfl;subst h;rfl
def Ft{f:Int→Nat→List aF}{S:List Int}:∀(l:List Int) (b:Nat),(∀o∈l,∀b,((f o b).length:Int)≤2*wS S o)→((iu f l b).length:Int)≤2*tx S l
 | [],b,_=>by simp[iu,tx]
 | o::r,b,h=>by have h1:=h o Sp b;have h2:=Ft r (b+(f o b).length) (fun o ho=>h o (by simp[ho]));simp only[iu,tx,Yl];omega
def Fs{e:List aF}(hs:(bK e).2.2=0):∀(n i:Nat),i<n→i<e.length→∀b,((dn e n (i:Int) b).length:Int)≤2*wS (bK e).1 (i:Int)
 | n+1,i,hi,h,b=>by
  obtain⟨rs,_,_,_,ha,hl,hw,ho⟩:=r5 hs h;have hf:∀o∈bV e (i:Int),∀b,((dn e n o b).length:Int)≤2*wS (bK e).1 o:=fun o hm b=>by obtain⟨k,hk,rfl⟩:=Fe.1 hm;obtain⟨q1,q2,_⟩:=ho k hk;have:=Fs hs n (bV e (i:Int))[k].toNat zo zo b;rwa [J1 q1]at this
  by_cases h1:e[i].1=23∨e[i].1=24;rw[rG h h1];have:=rI.1 h1;generalize bV e (i:Int)=l at *
  match l,hl with
  | [a,b'],_=>simp only[afs,afu,YM,FA,Yl,NK];have f0:=hf a Sp b;have f1:=hf b' Sp (b+(dn e n a b).length+1);simp only[tx]at hw;omega
  | [],hl=>simp at hl;omega
  | [_],hl=>simp at hl;omega
  | _::_::_::_,hl=>simp at hl;omega
  by_cases h2:e[i].1=26;rw[xJ h h2];have:=rI.2 h2;generalize bV e (i:Int)=l at *
  match l,hl with
  | [a,b',c],_=>simp only[afs,afu,YM,Gy,Ps,Yl,NK];have f0:=hf a Sp b;have f1:=hf b' Sp (b+(dn e n a b).length+1);have f2:=hf c Sp (b+(dn e n a b).length+1+(dn e n b' (b+(dn e n a b).length+1)).length+1);simp only[tx]at hw;omega
  | [],hl=>simp at hl;omega
  | [_],hl=>simp at hl;omega
  | [_,_],hl=>simp at hl;omega
  | _::_::_::_::_,hl=>simp at hl;omega
  rw[xI h acd];have:=Ft (bV e (i:Int)) b hf;simp only[Yl,Ja];omega
def wS_le(hs:(bK e).2.2=0)(h:i<e.length):1≤wS (bK e).1 (i:Int)∧wS (bK e).1 (i:Int)≤48:=by obtain⟨h48,_,_,_,hops⟩:=ep hs;obtain⟨ha,rs,hc,hr,frm,p1,p2,p3,p4⟩:=hops i h;have e1:=p1.2.2.1;have e2:((((i+1:Nat):Int))-1).toNat=i:=So;rw[e2]at e1;have:=p1.1;have:=p1.2.1;unfold wS;simp only[K4,e1,YM];omega
def Io{code:List aF}{f:Int→Nat→List aF}:∀(l:List Int) (b d:Nat),(∀k (hk:k<l.length),∀b,Sb code b (f l[k] b)→Gd code (b+(f l[k] b).length) (d+k+1)→Gd code b (d+k))→Sb code b (iu f l b)→Gd code (b+(iu f l b).length) (d+l.length)→Gd code b d
 | [],b,d,_,_,h=>by simpa[iu]using h
 | o::r,b,d,hf,hb,h=>by obtain⟨h1,h2⟩:=Sb.app (A:=f o b) hb;refine hf 0 Sp b h1 ?_;refine Io r _ _ (fun k hk b hb hg=>?_) h2 ?_;have:=hf (k+1) Og b hb;rw[show d+(k+1)+1=d+0+1+k+1 by omega,show d+(k+1)=d+0+1+k by omega]at this;exact this hg;simp only[iu,Yl,NK]at h;simp only[Fk];rw[show b+(f o b).length+(iu f r (b+(f o b).length)).length=b+((f o b).length+(iu f r (b+(f o b).length)).length)by omega,show d+0+1+r.length=d+(r.length+1)by omega];exact h
def Nw{e code:List aF}(hs:(bK e).2.2=0):∀(n i:Nat),i<n→i<e.length→∀(b d:Nat) (rs:List Int),ir (bK e).1 ((i:Int)+1) rs→d+1≤rs.length→Sb code b (dn e n (i:Int) b)→Gd code (b+(dn e n (i:Int) b).length) (d+1)→Gd code b d
 | n+1,i,hi,h,b,d,rs0,hc0,hd,hb,hg=>by
  obtain⟨rs,hc,h12,_,ha,hl,hw,ho⟩:=r5 hs h;have e:=qA hc0 hc;subst e;have hf:∀k (hk:k<(bV e (i:Int)).length),∀b d,d+1≤rs0.length+k→Sb code b (dn e n (bV e (i:Int))[k] b)→Gd code (b+(dn e n (bV e (i:Int))[k] b).length) (d+1)→Gd code b d:=fun k hk b d hd hb hg=>by obtain⟨q1,q2,rs',q3,q4⟩:=ho k hk;have:=Nw (code:=code) hs n (bV e (i:Int))[k].toNat zo zo b d rs';rw[J1 q1]at this;exact this q3 zo hb hg
  by_cases h1:e[i].1=23∨e[i].1=24;rw[rG h h1]at hb hg;have:=rI.1 h1;generalize bV e (i:Int)=l at *
  match l,hl with
  | [x,y],_=>
   simp only[afs,afu,YM,FA]at hb hg;obtain⟨b0,b1⟩:=hb.app;obtain⟨b1,b2⟩:=b1.cons;refine hf 0 Sp b d zo b0 ?_;have hop:(if e[i].1=23 then(52:Int)else 53)=52∨(if e[i].1=23 then(52:Int)else 53)=53:=by split<;>simp
   refine .step b1 (.inr (.inr (.inl ⟨hop,So,rfl⟩))) (fun o hm hq=>by show((b+(dn e n x b).length:Nat):Int)<_;simp only[Fk];omega) (fun o hm=>?_);have hg':Gd code (b+(dn e n x b).length+1+(dn e n y (b+(dn e n x b).length+1)).length) (d+1):=by simp only[Yl,NK]at hg;rw[show b+(dn e n x b).length+1+(dn e n y (b+(dn e n x b).length+1)).length=b+((dn e n x b).length+((dn e n y (b+(dn e n x b).length+1)).length+1))by omega];exact hg
   simp only[L5,List.not_mem_nil,or_false]at hm;rcases hm with hm|hm<;>subst hm;simp only[PN,if_false];exact hf 1 Sp _ d zo b2 hg';simp only[if_true,K4];exact hg'
  | [],hl=>simp at hl;omega
  | [_],hl=>simp at hl;omega
  | _::_::_::_,hl=>simp at hl;omega
  by_cases h2:e[i].1=26;rw[xJ h h2]at hb hg;have:=rI.2 h2;generalize bV e (i:Int)=l at *
  match l,hl with
  | [x,y,z],_=>
   simp only[afs,afu,YM,Gy,Ps]at hb hg;obtain⟨b0,c1⟩:=hb.app;obtain⟨b1,c2⟩:=c1.cons;obtain⟨b2,c3⟩:=c2.app;obtain⟨b3,b4⟩:=c3.cons;clear c1 c2 c3;refine hf 0 Sp b d zo b0 ?_;simp only[Fk];generalize hB1:b+(dn e n x b).length+1=B1 at *
   generalize hB2:B1+(dn e n y B1).length+1=B2 at *
   have hg':Gd code (B2+(dn e n z B2).length) (d+1):=by simp only[Yl,NK]at hg;rw[show B2+(dn e n z B2).length=b+((dn e n x b).length+((dn e n y B1).length+((dn e n z B2).length+1)+1))by omega];exact hg
   refine .step b1 (.inr (.inl ⟨Z,So,rfl⟩)) (fun o hm hq=>by show((b+(dn e n x b).length:Nat):Int)<_;simp only[];omega) (fun o hm=>?_);simp only[L5,List.not_mem_nil,or_false]at hm;rcases hm with hm|hm<;>subst hm;simp only[PN,if_false];rw[hB1];refine hf 1 Sp _ d zo b2 ?_;refine .step b3 (.inl ⟨Z,Z⟩) (fun o hm hq=>by show((B1+(dn e n y B1).length:Nat):Int)<_;simp only[Fk,List.getElem_cons_succ];omega) (fun o hm=>?_);simp only[J0]at hm;subst hm;simp only[if_true,K4];exact hg';simp only[if_true,K4];exact hf 2 Sp _ d zo b4 hg'
  | [],hl=>simp at hl;omega
  | [_],hl=>simp at hl;omega
  | [_,_],hl=>simp at hl;omega
  | _::_::_::_::_,hl=>simp at hl;omega
  have hlz:¬gP e[i].1:=acd;rw[xI h hlz]at hb hg;obtain⟨b0,b1⟩:=hb.app;obtain⟨b1,_⟩:=b1.cons;refine Io (bV e (i:Int)) b d (fun k hk b hb hg=>?_) b0 ?_;exact hf k hk b (d+k) zo hb hg;refine .step b1 (.inr (.inr (.inr ⟨hlz,ha,So,So,rfl⟩))) (fun o hm hq=>?_) (fun o hm=>?_);simp at hm;subst hm;cases hq;simp only[J0]at hm;subst hm;simp only[PN,if_false];simp only[Yl,Ja]at hg;rw[show d+(bV e (i:Int)).length-(aW e[i].1).toNat+1=d+1 by omega];exact hg
def vm(hs:(bK e).2.2=0):Gd (m3 e) 0 0∧(m3 e).length≤96:=by
 obtain⟨h48,h0,_,⟨rs,hc,hr⟩,_⟩:=ep hs;have e1:((e.length-1:Nat):Int)=(e.length:Int)-1:=So;have hlen:=Fs hs e.length (e.length-1) zo zo 0;have hw:=wS_le hs (i:=e.length-1) zo;have h1:1≤rs.length:=by
  cases rs with
  | nil=>have hc:(e.length:Int)=0:=hc;omega
  | cons _ _=>simp
 have:=Nw (code:=m3 e) hs e.length (e.length-1) zo zo 0 0 rs (by rw[e1,Int.sub_add_cancel];exact hc) zo;rw[e1]at this hlen hw;exact⟨this ⟨[],[],by simp[m3],rfl⟩ (by rw[N1];exact .fin rfl),by have:((m3 e).length:Int)≤96:=by{show((dn e e.length ((e.length:Int)-1) 0).length:Int)≤96;omega};omega⟩
def UpI(h:(cO d args env).2=0):da (cO d args env).1=true:=by have e:cO d args env=((cO d args env).1,0):=Prod.ext rfl h;exact(jY e).2.2.2.2.2.2.1
def vp{x:aN×Int}(h:(fW x).2=0):x.2=0∧x.1.1=1∧da x.1=true∧fW x=(x.1,0):=by unfold fW at h⊢;split at h;rename_i h1;exact absurd h h1;rename_i h1;split at h;cases h;rename_i h2;rw[zE h1,zE h2];exact⟨So,Classical.byContradiction fun c=>h2 (.inl c),by simpa using fun c=>h2 (.inr c),rfl⟩
def tB(h:da v=true)(h1:v.1=1):v.2.1=0∧(v.2.2=0∨v.2.2=1):=by unfold da at h;rw[h1]at h;simp[jL]at h;omega
def C4{e:List aF}{env:cP}(hs:(bK e).2.2=0):∀(n i:Nat),i<n→i<e.length→(ze e env n (i:Int)).2=0→da (ze e env n (i:Int)).1=true
 | n+1,i,hi,h,h0=>by
  obtain⟨_,_,_,_,_,hl,_,ho⟩:=r5 hs h;have hf:∀k,k<(bV e (i:Int)).length→(ze e env n ((bV e (i:Int))[k]?.getD 0)).2=0→da (ze e env n ((bV e (i:Int))[k]?.getD 0)).1=true:=fun k hk=>by exact VL
  rw[ze]at h0⊢;simp only[K4,RY h,YM]at h0⊢;split at h0;rename_i hz;rw[Cg hz];have h1:=rI (op:=e[i].1);have hl2:2≤(bV e (i:Int)).length:=by exact WO
  unfold nW at h0⊢;split at h0;cases h0;rename_i c1;rw[zE c1];split at h0;rename_i c2;exact absurd h0 c2;rename_i c2;rw[zE c2];split at h0;rename_i c3;rw[Cg c3];exact hf 1 zo h0;rename_i c3;rw[zE c3];split at h0;rename_i c4;rw[Cg c4];exact hf 2 (by have:=h1.2 c4;omega) h0;rename_i c4;rw[zE c4];split at h0;rename_i c5;rw[Cg c5];obtain⟨q1,q2,q3,q4⟩:=vp (Classical.byContradiction c2);rw[q4];exact q3;rename_i c5;rw[zE c5];obtain⟨q1,q2,q3,q4⟩:=vp h0;rw[q4];exact q3;rename_i hz;rw[zE hz];split at h0;rename_i c1;exact absurd h0 c1;rename_i c1;rw[zE c1];exact UpI h0
def BR{F:Int→aN×Int}:∀(l:List Int) (acc:List aN),(fE F l acc).2=0→(fE F l acc).1.length=acc.length+l.length
 | [],acc,_=>by simp[fE]
 | o::l,acc,h=>by rw[fE]at h⊢;split at h;rename_i c;exact absurd h c;rename_i c;rw[zE c,BR l _ h];simp;omega
def Pp(code:List aF)(env:cP)(r:aN×Int)(b b':Nat)(st:List aN)(x:aN×Int):Prop:=
 (x.2=0→f7 code env r b' (st++[x.1])→f7 code env r b st)∧(x.2≠0→r=(GD,x.2)→f7 code env r b st)
def IB{code:List aF}{env:cP}{r:aN×Int}{f:Int→Nat→List aF}{F:Int→aN×Int}:∀(l:List Int) (hf:∀o∈l,∀b st,Sb code b (f o b)→Pp code env r b (b+(f o b).length) st (F o)) (acc st:List aN) (b:Nat),Sb code b (iu f l b)→
 ((fE F l acc).2=0→f7 code env r (b+(iu f l b).length) (st++(fE F l acc).1)→f7 code env r b (st++acc))∧((fE F l acc).2≠0→r=(GD,(fE F l acc).2)→f7 code env r b (st++acc))
 | [],_,acc,st,b,_=>⟨fun _ h=>by simpa[fE,iu]using h,fun h=>absurd rfl h⟩
 | o::l,hf,acc,st,b,hb=>by obtain⟨b0,b1⟩:=Sb.app (A:=f o b) hb;obtain⟨i1,i2⟩:=hf o Sp b (st++acc) b0;rw[fE];by_cases c:(F o).2≠0;rw[Cg c];exact⟨fun h=>absurd h c,fun _ hr=>i2 c hr⟩;rw[zE c];have c:(F o).2=0:=Classical.byContradiction c;obtain⟨j1,j2⟩:=IB l (fun o ho=>hf o (by simp[ho])) (acc++[(F o).1]) st _ b1;rw[←F3]at j1 j2;refine⟨fun h0 h=>i1 c (j1 h0 ?_),fun h0 h=>i1 c (j2 h0 h)⟩;simp only[iu,Yl]at h;rw[qx];exact h
def NR{e code:List aF}{env:cP}{r:aN×Int}(hs:(bK e).2.2=0)(hZ:∀i (h:i<e.length),gP e[i].1→e[i].2=0)
 (hT:∀i (h:i<e.length),e[i].1=23∨e[i].1=24→∀n,((bV e (i:Int))[1]?.getD 0).toNat<n→(ze e env n ((bV e (i:Int))[1]?.getD 0)).2=0→(ze e env n ((bV e (i:Int))[1]?.getD 0)).1.1=1):
 ∀(n i:Nat),i<n→i<e.length→∀(b:Nat) (st:List aN),Sb code b (dn e n (i:Int) b)→Pp code env r b (b+(dn e n (i:Int) b).length) st (ze e env n (i:Int))
 | n+1,i,hi,h,b,st,hb=>by
  obtain⟨rs,_,_,_,ha,hl,_,ho⟩:=r5 hs h;have hf:∀k,k<(bV e (i:Int)).length→∀b st,Sb code b (dn e n ((bV e (i:Int))[k]?.getD 0) b)→Pp code env r b (b+(dn e n ((bV e (i:Int))[k]?.getD 0) b).length) st (ze e env n ((bV e (i:Int))[k]?.getD 0)):=fun k hk=>by rw[RY hk,YM];obtain⟨q1,q2,_⟩:=ho k hk;have:=NR (code:=code) (r:=r) hs hZ hT n (bV e (i:Int))[k].toNat zo zo;rwa [J1 q1]at this
  have hev:ze e env (n+1) (i:Int)=if e[i].1=23∨e[i].1=24∨e[i].1=26 then nW e[i] (bV e (i:Int)) (ze e env n)else if(fE (ze e env n) (bV e (i:Int)) []).2≠0 then(GD,(fE (ze e env n) (bV e (i:Int)) []).2)else cO e[i] (fE (ze e env n) (bV e (i:Int)) []).1 env:=by exact W4
  have h1:=rI (op:=e[i].1);by_cases hz:gP e[i].1;have hl2:2≤(bV e (i:Int)).length:=by exact WO
  have hd2:=hZ i h hz;have hpl:∀k,k<(bV e (i:Int)).length→(ze e env n ((bV e (i:Int))[k]?.getD 0)).2=0→da (ze e env n ((bV e (i:Int))[k]?.getD 0)).1=true:=fun k hk=>by exact VL
  rw[hev,Cg (show e[i].1=23∨e[i].1=24∨e[i].1=26 from hz)];generalize hx0:ze e env n ((bV e (i:Int))[0]?.getD 0)=x0;have f0:=hf 0 zo;have p0:=hpl 0 zo;rw[hx0]at f0 p0;unfold nW;rw[zE zo,hx0];by_cases ha:e[i].1=23∨e[i].1=24;rw[rG h ha]at hb⊢;unfold FA at hb⊢;obtain⟨b0,b1⟩:=hb.app;obtain⟨b1,b2⟩:=b1.cons;generalize hB1:b+(dn e n ((bV e (i:Int))[0]?.getD 0) b).length+1=B1 at *
  have hend:b+(dn e n ((bV e (i:Int))[0]?.getD 0) b++((if e[i].1=23 then(52:Int)else 53),((B1+(dn e n ((bV e (i:Int))[1]?.getD 0) B1).length:Nat):Int))::dn e n ((bV e (i:Int))[1]?.getD 0) B1).length=B1+(dn e n ((bV e (i:Int))[1]?.getD 0) B1).length:=by simp only[Yl,NK];omega
  rw[hend];generalize hop:(if e[i].1=23 then(52:Int)else 53)=op at *
  have hop2:op=52∨op=53:=by subst hop;split<;>simp
  obtain⟨i1,i2⟩:=f0 b st b0;have hx1:∀st,Pp code env r B1 (B1+(dn e n ((bV e (i:Int))[1]?.getD 0) B1).length) st (ze e env n ((bV e (i:Int))[1]?.getD 0)):=fun st=>hf 1 zo _ st b2;have ht1:(ze e env n ((bV e (i:Int))[1]?.getD 0)).2=0→fW (ze e env n ((bV e (i:Int))[1]?.getD 0))=ze e env n ((bV e (i:Int))[1]?.getD 0):=fun h0=>by
   have q1:=hT i h ha n (by have hk:1<(bV e (i:Int)).length:=So;rw[RY hk,YM];have:=ho 1 hk;omega) h0
   have q2:=hpl 1 zo h0;unfold fW;rw[zE (by simp[h0]),zE (by simp[q1,q2])];exact Prod.ext Z h0.symm
  by_cases c0:x0.2=0;have hpx:=p0 c0;by_cases ck:x0.1.1=1;have hb0:fW x0=(x0.1,0):=Z2;obtain⟨_,hN⟩:=tB hpx ck;rw[hb0];simp only[ne_eq,not_true_eq_false,if_false];rw[zE zo,zE zo];have hj:tK op x0.1=decide (decide (e[i].1=23)=decide (x0.1.2.2=0)):=by unfold tK;subst hop;rcases ha with q|q<;>rcases hN with z|z<;>simp[q,z]
  by_cases cj:decide (e[i].1=23)=decide (x0.1.2.2=0);rw[Cg cj];rw[decide_eq_true cj]at hj;refine⟨fun _ hr=>i1 c0 (.step b1 (.inr (.inl ⟨.inr hop2,st,x0.1,Z,.inr ⟨⟨ck,hN⟩,Z⟩⟩)) (fun o ho hq=>YH) (fun o ho=>?_)),fun q=>absurd rfl q⟩;simp only[J0]at ho;subst ho;rw[Cg hj];simp only[K4];rw[Cg ⟨hj,by show ¬op=50;omega⟩];exact hr;rw[zE cj];rw[decide_eq_false cj]at hj;have key:f7 code env r B1 st→f7 code env r b st:=fun hr=>i1 c0 (.step b1 (.inr (.inl ⟨.inr hop2,st,x0.1,rfl,.inr ⟨⟨ck,hN⟩,rfl⟩⟩)) (fun o ho hq=>Zl) (fun o ho=>by simp only[J0]at ho;subst ho;rw[zE acQ,zE acQ,hB1];exact hr))
  obtain⟨j1,j2⟩:=hx1 st;by_cases c1:(ze e env n ((bV e (i:Int))[1]?.getD 0)).2=0;rw[ht1 c1];exact⟨fun q hr=>key (j1 q hr),fun q=>absurd c1 q⟩;have e1:(fW (ze e env n ((bV e (i:Int))[1]?.getD 0))).2=(ze e env n ((bV e (i:Int))[1]?.getD 0)).2:=by unfold fW;rw[Cg c1]
  rw[Pp,e1];exact⟨fun q=>absurd q c1,fun q hr=>key (j2 q hr)⟩;have hb0:fW x0=(GD,8):=by unfold fW;rw[zE zo,Cg (.inl ck)]
  rw[hb0,Cg (show(((GD,8):aN×Int)).2≠0 by decide)];refine⟨fun q=>absurd q cy,fun _ hr=>i1 c0 (.step b1 (.inr (.inl ⟨.inr hop2,st,x0.1,Z,.inl ⟨fun q=>ck q.1,hr,Z⟩⟩)) (fun o ho=>by simp at ho) (fun o ho=>by simp at ho))⟩;exact V6;have h26:e[i].1=26:=by unfold gP at hz;omega
  have hl3:=h1.2 h26;rw[xJ h h26]at hb⊢;unfold Gy Ps at hb⊢;obtain⟨b0,c1⟩:=hb.app;obtain⟨b1,c2⟩:=c1.cons;obtain⟨b2,c3⟩:=c2.app;obtain⟨b3,b4⟩:=c3.cons;clear c1 c2 c3;generalize hB1:b+(dn e n ((bV e (i:Int))[0]?.getD 0) b).length+1=B1 at *
  generalize hB2:B1+(dn e n ((bV e (i:Int))[1]?.getD 0) B1).length+1=B2 at *
  have hend:b+(dn e n ((bV e (i:Int))[0]?.getD 0) b++((50:Int),((B2:Nat):Int))::(dn e n ((bV e (i:Int))[1]?.getD 0) B1++((51:Int),((B2+(dn e n ((bV e (i:Int))[2]?.getD 0) B2).length:Nat):Int))::dn e n ((bV e (i:Int))[2]?.getD 0) B2)).length=B2+(dn e n ((bV e (i:Int))[2]?.getD 0) B2).length:=by simp only[Yl,NK];omega
  rw[hend];obtain⟨i1,i2⟩:=f0 b st b0;have hx1:=hf 1 zo _ st b2;have hx2:=hf 2 zo _ st b4;by_cases c0:x0.2=0;have hpx:=p0 c0;by_cases ck:x0.1.1=1;have hb0:fW x0=(x0.1,0):=Z2;obtain⟨_,hN⟩:=tB hpx ck;rw[hb0];simp only[ne_eq,not_true_eq_false,if_false];by_cases cj:x0.1.2.2=1;rw[Cg ⟨h26,cj⟩];have hj:tK 50 x0.1=false:=by unfold tK;simp[cj]
  have key:f7 code env r B1 st→f7 code env r b st:=fun hr=>i1 c0 (.step b1 (.inr (.inl ⟨.inl rfl,st,x0.1,rfl,.inr ⟨⟨ck,hN⟩,rfl⟩⟩)) (fun o ho hq=>Zl) (fun o ho=>by simp only[J0]at ho;subst ho;rw[zE acQ,zE acQ,hB1];exact hr))
  refine⟨fun q hr=>key (hx1.1 q (.step b3 (.inl ⟨Z,Z⟩) (fun o hm hq=>by show((B1+(dn e n ((bV e (i:Int))[1]?.getD 0) B1).length:Nat):Int)<_;simp only[];omega) (fun o hm=>?_))),fun q hr=>key (hx1.2 q hr)⟩;simp only[J0]at hm;subst hm;simp only[if_true,K4];exact hr;rw[zE zo,Cg h26];have hj:tK 50 x0.1=true:=by unfold tK;simp[cj]
  have key:f7 code env r B2 st→f7 code env r b st:=fun hr=>i1 c0 (.step b1 (.inr (.inl ⟨.inl rfl,st,x0.1,rfl,.inr ⟨⟨ck,hN⟩,rfl⟩⟩)) (fun o ho hq=>YH) (fun o ho=>by simp only[J0]at ho;subst ho;rw[Cg hj,zE Sp];simp only[K4];exact hr))
  exact⟨fun q hr=>key (hx2.1 q hr),fun q hr=>key (hx2.2 q hr)⟩;have hb0:fW x0=(GD,8):=by unfold fW;rw[zE zo,Cg (.inl ck)]
  rw[hb0,Cg (show(((GD,8):aN×Int)).2≠0 by decide)];refine⟨fun q=>absurd q cy,fun _ hr=>i1 c0 (.step b1 (.inr (.inl ⟨.inl Z,st,x0.1,Z,.inl ⟨fun q=>ck q.1,hr,Z⟩⟩)) (fun o ho=>by simp at ho) (fun o ho=>by simp at ho))⟩;exact V6;rw[xI h hz]at hb⊢;obtain⟨b0,b1⟩:=hb.app;obtain⟨b1,_⟩:=b1.cons;rw[hev,zE (show ¬(e[i].1=23∨e[i].1=24∨e[i].1=26)from hz)];have hfl:∀o∈bV e (i:Int),∀b st,Sb code b (dn e n o b)→Pp code env r b (b+(dn e n o b).length) st (ze e env n o):=fun o hm=>by obtain⟨k,hk,rfl⟩:=Fe.1 hm;have:=hf k hk;rwa [RY hk,YM]at this
  obtain⟨i1,i2⟩:=IB (F:=ze e env n) (bV e (i:Int)) hfl [] st b b0;rw[Nk]at i1 i2;by_cases c0:(fE (ze e env n) (bV e (i:Int)) []).2=0;rw[zE zo];have hln:=BR _ _ c0;have hln2:((fE (ze e env n) (bV e (i:Int)) []).1.length:Int)=aW e[i].1:=by rw[hln];simpa using hl
  refine⟨fun q hr=>i1 c0 (.step b1 (.inr (.inr ⟨hz,st,_,Z,hln2,.inr ⟨q,Z⟩⟩)) (fun o hm hq=>by simp at hm;subst hm;cases hq) (fun o hm=>?_)),fun q hr=>i1 c0 (.step b1 (.inr (.inr ⟨hz,st,_,rfl,hln2,.inl ⟨q,hr,rfl⟩⟩)) (fun o hm hq=>by simp at hm) (fun o hm=>by simp at hm))⟩;simp only[J0]at hm;subst hm;simp only[PN,if_false];simp only[Yl,Ja]at hr;rw[qx];exact hr;rw[Cg c0];exact⟨fun q=>absurd q c0,fun q hr=>i2 c0 hr⟩
def DnI(hs:(bK e).2.2=0)(hZ:∀i (h:i<e.length),gP e[i].1→e[i].2=0)
 (hT:∀i (h:i<e.length),e[i].1=23∨e[i].1=24→∀n,((bV e (i:Int))[1]?.getD 0).toNat<n→(ze e env n ((bV e (i:Int))[1]?.getD 0)).2=0→(ze e env n ((bV e (i:Int))[1]?.getD 0)).1.1=1):
 f7 (m3 e) env (if(dM e env).2=0 then((dM e env).1,0)else(GD,(dM e env).2)) 0 []:=by
 obtain⟨h48,h0,_⟩:=ep hs;have e1:((e.length-1:Nat):Int)=(e.length:Int)-1:=So;have hv:dM e env=ze e env e.length ((e.length:Int)-1):=by unfold dM;rw[zE zo]
 have:=NR (code:=m3 e) (env:=env) (r:=if(dM e env).2=0 then((dM e env).1,0)else(GD,(dM e env).2)) hs hZ hT e.length (e.length-1) zo zo 0 [] (by rw[e1];exact⟨[],[],by simp[m3],rfl⟩);rw[e1,←hv]at this;obtain⟨i1,i2⟩:=this;by_cases c:(dM e env).2=0;rw[Cg c]at i1⊢;exact i1 c (by rw[N1];exact .fin ⟨[],Sp,rfl⟩);rw[zE c]at i2⊢;exact i2 c Z
end Go.Eng
