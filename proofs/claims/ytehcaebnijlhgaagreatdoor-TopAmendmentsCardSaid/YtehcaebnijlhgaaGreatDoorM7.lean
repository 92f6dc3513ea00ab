import Derived.Shelf.Small.Bits
import Derived.Shelf.Strconv.Itoa0
import Derived.Shelf.Strings.Search1
import Derived.Shelf.Strings.Search2
import Derived.Shelf.Strings.Search3
import Derived.Shelf.LaysM
import Derived.Shelf.Strings.Shaped
import Derived.Shelf.Sort.Plain
import Derived.Shelf.Bits.Mul64
import Derived.Ground.Names2Prog
import Derived.Shelf.Slices.CompactI
import Derived.Shelf.Slices.Cells
import Derived.Shelf.Slices.In.SortNone
import Derived.WalkKit
import Derived.Test.YtehcaebnijlhgaaGreatDoorM6
set_option linter.all false
set_option maxRecDepth 100000
set_option maxHeartbeats 9000000
namespace Go.Eng
open Go.Proofs Tryz
variable{a:ce}{b n:Int}{e:List aF}{α:Type}{l:List α}{starts suf:List Int}
def ir(starts:List Int):Int→List Int→Prop
 | k,[]=>k=0
 | k,s::r=>0≤s∧s<k∧starts[(k-1).toNat]?=some s∧ir starts s r
def ns{starts t:List Int}:∀{rs:List Int} {k:Int},k≤starts.length→ir starts k rs→ir (starts++t) k rs
 | [],k,_,h=>h
 | s::r,k,hk,⟨h1,h2,h3,h4⟩=>⟨h1,h2,by rw[NH zo];exact h3,ns zo h4⟩
def Ag{starts:List Int}:∀{n:Nat} {rs:List Int} {k:Int} (_:ir starts k rs) (hn:n<rs.length),ir starts rs[n] (rs.drop (n+1))∧0≤rs[n]∧rs[n]<k
 | 0,s::r,k,⟨h1,h2,_,h4⟩,_=>⟨h4,h1,h2⟩
 | n+1,s::r,k,⟨h1,h2,_,h4⟩,hn=>by obtain⟨a,b,c⟩:=Ag (n:=n) h4 (by simpa using hn);exact⟨a,b,by simp only[List.getElem_cons_succ];omega⟩
def t7{stack:List Int}{i:Nat}(hc:ir starts i stack.reverse)(hl:starts.length=i)(h0:0≤n)(h1:n≤stack.length):
 ir (starts++[if 0<n then stack[(stack.length-n).toNat]?.getD 0 else(i:Int)]) ((i+1:Nat):Int) ((stack.take (stack.length-n).toNat++[if 0<n then stack[(stack.length-n).toNat]?.getD 0 else(i:Int)]).reverse):=by
 rw[List.reverse_append];simp only[List.reverse_cons,List.reverse_nil,Km,List.singleton_append];by_cases hn:0<n;simp only[Cg hn];have hm:(stack.length-n).toNat<stack.length:=So;rw[RY hm,YM];have hi:n.toNat-1<stack.reverse.length:=QE;obtain⟨a,b,c⟩:=Ag hc hi;have e1:stack.reverse[n.toNat-1]=stack[(stack.length-n).toNat]:=by rw[List.getElem_reverse];congr 1;omega
 have e2:stack.reverse.drop (n.toNat-1+1)=(stack.take (stack.length-n).toNat).reverse:=by rw[List.drop_reverse];congr 2;omega
 rw[e1]at a b c;rw[e2]at a;refine⟨b,So,?_,ns zo a⟩;have:(((i+1:Nat):Int)-1).toNat=starts.length:=So;rw[this];simp;have:n=0:=So;subst this;simp only[zE (show ¬(0:Int)<0 by omega)];refine⟨So,So,?_,?_⟩;have:(((i+1:Nat):Int)-1).toNat=starts.length:=So;rw[this];simp;rw[fV zo];exact ns zo hc
def Push(R:List Int)(k:Nat)(a:Int)(rs:List Int):Prop:=∃frm,ir R ((k+1:Nat):Int) (frm::rs.drop a.toNat)∧(a=0→frm=k)∧(0<a→rs[a.toNat-1]?=some frm)∧(rs.drop a.toNat).length+1≤12
def qA{starts:List Int}:∀{rs rs':List Int} {k:Int},ir starts k rs→ir starts k rs'→rs=rs'
 | [],[],_,_,_=>rfl
 | [],s::r,k,h,h'=>by have h:k=0:=h;have h1:=h'.1;have h2:=h'.2.1;omega
 | s::r,[],k,h',h=>by have h:k=0:=h;have h1:=h'.1;have h2:=h'.2.1;omega
 | s::r,s'::r',k,h,h'=>by
  have e:s=s':=by have a:=h.2.2.1;rw[h'.2.2.1]at a;exact(Option.some.inj a).symm
  subst e;rw[qA h.2.2.2 h'.2.2.2]
def yg(L:Int):∀(r:List aF) (i:Nat) (stack starts:List Int),ir starts i stack.reverse→starts.length=i→(iq L r i stack starts).2.2=0→
 (iq L r i stack starts).1.length=i+r.length∧(∃t,(iq L r i stack starts).1=starts++t)∧(∃rs,ir (iq L r i stack starts).1 ((i+r.length:Nat):Int) rs∧rs.length≤1)∧
 ∀j (hj:j<r.length),0≤aW r[j].1∧∃rs,ir (iq L r i stack starts).1 ((i+j:Nat):Int) rs∧aW r[j].1≤rs.length∧Push (iq L r i stack starts).1 (i+j) (aW r[j].1) rs
 | [],i,stack,starts,hc,hl,h=>by
  simp only[iq]at h⊢
  split at h
  ·cases h
  rename_i hh
  rw[zE hh]
  exact⟨by simp[hl],⟨[],Sp⟩,⟨_,hc,QE⟩,fun j hj=>absurd hj Sp⟩
 | n::r,i,stack,starts,hc,hl,h=>by
  simp only[iq]at h⊢
  split at h
  ·simp at h
  rename_i h1;split at h
  ·simp at h
  rename_i h2;split at h
  ·simp at h
  rename_i h3
  rw[zE h1,zE h2,zE h3]
  obtain⟨a,⟨t,b⟩,c,d⟩:=yg L r (i+1) _ _ (t7 hc hl zo zo) (by simp[hl]) h
  refine⟨by rw[a];simp;omega,⟨[_]++t,by rw[b,F3]⟩,?_,?_⟩
  ·obtain⟨rs,c1,c2⟩:=c
   exact⟨rs,by rw[show i+(n::r).length=i+1+r.length by simp;omega];exact c1,c2⟩
  intro j hj
  cases j with
  | zero=>
   refine⟨QE,stack.reverse,?_,QE,?_⟩
   ·rw[b,F3];exact ns zo hc
   have hs:=t7 (n:=aW n.1) hc hl zo zo
   rw[List.reverse_append,List.reverse_singleton,List.singleton_append]at hs
   have ed:(stack.take (stack.length-aW n.1).toNat).reverse=stack.reverse.drop (aW n.1).toNat:=by
    rw[List.drop_reverse];congr 2;omega
   rw[ed]at hs
   refine⟨_,by rw[b];exact ns QE hs,fun h0=>?_,fun h0=>?_,?_⟩
   ·rw[zE (by simp only[Fk]at h0;omega)];simp
   ·simp only[Fk]at h0⊢
    rw[Cg h0,RY (show(stack.length-aW n.1).toNat<stack.length by omega),YM,List.getElem?_reverse zo,RY zo]
    congr 2;omega
   simp only[Fk,PS,List.length_reverse,KC]at h3⊢;omega
  | succ j=>
   obtain⟨e,rs,f,g,q⟩:=d j JP
   exact⟨Lm,rs,by rw[show i+(j+1)=i+1+j by omega];exact f,by simpa using g,by rw[show i+(j+1)=i+1+j by omega];simpa using q⟩
def ep(h:(bK e).2.2=0):e.length≤48∧0<e.length∧(bK e).1.length=e.length∧(∃rs,ir (bK e).1 e.length rs∧rs.length≤1)∧
 ∀j (hj:j<e.length),0≤aW e[j].1∧∃rs,ir (bK e).1 j rs∧aW e[j].1≤rs.length∧Push (bK e).1 j (aW e[j].1) rs:=by unfold bK at h⊢;split at h;simp at h;rename_i h1;split at h;simp at h;rename_i h2;rw[zE h1,zE h2];obtain⟨a,_,c,d⟩:=yg e.length e 0 [] [] rfl rfl h;exact⟨So,So,by simpa using a,Ff,by simpa using d⟩
def MO(starts:List Int):Nat→Int→List Int
 | 0,_=>[]
 | n+1,t=>MO starts n (starts[(t-1).toNat]?.getD 0)++[t-1]
def pY{starts:List Int}:∀(n:Nat) (t:Int),(MO starts n t).length=n
 | 0,_=>rfl
 | n+1,t=>by simp[MO,pY n]
def bV(e:List aF)(at_:Int):List Int:=
 if(bK e).2.2≠0∨at_<0∨e.length≤at_ then[]else MO (bK e).1 (aW (e[at_.toNat]?.getD (0,0)).1).toNat at_
def yrI{j:Nat}(x:Int)(h:0<j):(List.replicate j 0++suf).set (0+(j-1)) x=List.replicate (j-1) 0++x::suf:=by obtain⟨i,rfl⟩:∃i,j=i+1:=⟨j-1,So⟩;rw[N1,Nat.add_sub_cancel,List.replicate_succ',F3,afp _ _ Sp];simp
def mdI{full:List Int}{j:Nat}{t s:Int}(hj:0<j)(hs:starts[(t-1).toNat]?=some s)(h:MO starts j t++suf=full):MO starts (j-1) s++(t-1)::suf=full:=by obtain⟨i,rfl⟩:∃i,j=i+1:=⟨j-1,So⟩;rw[←h,MO,hs,Nat.add_sub_cancel,YM,F3];rfl
def orF(e:List aF)(at_:Int):Ct prog 117 [.tv (ag aZ) e,Sx at_] (.tv (ag (ay .i64)) (bV e at_)):=by
 refine Yk func117 ntmps117 fun w0 ok0=>?_;refine fT 0 Z (fun hl0=>?_);refine Y8 ?_;refine YK (vH e) ?_;refine Z24 ?_ ?_<;>intro h2
 ·try simp at h2
  refine Y7 ?_;exact cQ results117 (ff Z) Z (by unfold bV;rw[Cg zo])
 try simp at h2
 refine Y3 ?_;obtain⟨⟨h2a,h2b⟩,h2c⟩:((bK e).2.2=0∧0≤at_)∧at_<e.length:=by first|exact h2|omega
 obtain⟨m,rfl⟩:∃m:Nat,at_=m:=⟨at_.toNat,So⟩;obtain⟨hl48,-,hlen,-,hops⟩:=ep h2a;obtain⟨har0,hrs⟩:=hops m zo;obtain⟨n,hn⟩:∃n:Nat,aW (e[m]'zo).1=n:=⟨_,(J1 har0).symm⟩;have hn3:n≤3:=by have:=(ot (e[m]'zo).1).2;omega
 have ctn:Ct prog 115 [.raw (.int .i64 (e[m]'zo).1)] (Sx (n:Int)):=hn▸kj _;refine Y6 ?_;refine YK ctn ?_;refine zO (fM bT Sj z3 Z J7 (.b Z) (.b Z) zo Kw rfl rfl rfl) (Y20 ?_);refine bf (ι:=(Nat×Int×List Int)) (fun(j,t,suf)=>⟨[(5,.tv (ag (ay .i64)) (bK e).1),(7,.own 33 1 0 n),(8,Sx (t-1)),(9,Sx ((j:Int)-1))],[(33,⟨ay .i64,List.replicate j 0++suf⟩)]⟩) (fun(j,t,suf)=>j+suf.length=n∧(∃rs,ir (bK e).1 t rs∧(j:Int)≤rs.length)∧t≤e.length∧MO (bK e).1 j t++suf=MO (bK e).1 n m) (fun(j,t,suf)=>j) (n,(m:Int),[]) Yt (fun a w hi=>(Sub.inv ⟨YV,(by repeat(first|exact aw|refine ao rfl Sp ?_))⟩ hi)) ?_;rintro⟨j,t,suf⟩⟨hjn,⟨rs,hc,hr⟩,htl,hp⟩;refine Z7 ?_ ?_<;>intro h7
 ·try simp at h7
  refine Y5 ?_;have hj0:0<j:=So;obtain⟨s,r,rfl⟩:∃s r,rs=s::r:=by
   cases rs with
   | nil=>simp at hr;omega
   | cons s r=>exact⟨s,r,rfl⟩
  obtain⟨hc1,hc2,hc3,hc4⟩:=hc;have hsv:(bK e).1[(t-1).toNat]'zo=s:=by rw[RY zo]at hc3;exact Option.some.inj hc3
  refine Y4 ?_;refine zJ (bk bT Sj (.b Z) (.b Z) (show(j:Int)-1=((j-1:Nat):Int)by omega) zh) ?_;refine gV _ Z (bH Sj (.b Z) Z zg (Lens.id _) (.raw (.b Z) Z)) ?_;refine Y5 ?_;refine bi _ Z _ Z Z (av bT Sj (.b Z) (.b Z) (J1 zo).symm zg) ?_;exact Tx
 try simp at h7
 refine zb ?_;refine e8 33 4 [] Z Z QE (fun j s h=>by cases h) rfl ?_;exact z1 results117 Z (congrArg (SV.tv (ag (ay .i64))) (by have e0:j=0:=zo;subst e0;unfold bV;rw[zE zo];simp only[K4,RY (show m<e.length by omega),YM,hn];rw[←hp];simp[MO]at hjn⊢;rw[←hjn];simp))
def Qp(R:ce×Int):SV:=.tup2 (.tv bt R.1) (Sx R.2)
def svB(R:ce×Bool):SV:=.tup2 (.tv bt R.1) (.raw (.bool R.2))
def Jh(R:Int×Int):SV:=.tup2 (Sx R.1) (Sx R.2)
def cY{R:ce×Int}(h:(a,b)=R):SV.tup2 (SV.of bt a) (Sx b)=Qp R:=Mc
def fp{R:ce×Bool}{b:Bool}(h:(a,b)=R):SV.tup2 (SV.of bt a) (.raw (.bool b))=svB R:=Mc
def fw{R:Int×Int}{a:Int}(h:(a,b)=R):SV.tup2 (Sx a) (Sx b)=Jh R:=Mc
def Eo(en:List dN)(k:Int):Int:=((en[k.toNat]?.getD ([],[])).2.length:Int)
def cg(t:ce)(en:List dN):Int×Int:=
 if aP t en=false then(0,-1)else if t.1=1 then(0,1)else if t.1=2 then(-1000000000000,1000000000000)else if t.1=3 then(-1000000000000000,1000000000000000)
 else if t.1=4 then(-1000000000,1000000000)else if t.1=5 then(0,109572)else(0,Eo en t.2-1)
def fS(n k:Int)(s:bG):ce×Int:=if n<(cg (k,0) s.1).1∨(cg (k,0) s.1).2<n then((0,0),3)else((k,0),0)
def ke(n:Int)(s:bG):ce×Int:=if n<0 then((0,0),3)else if s.1.length≤n/16∨Eo s.1 (n/16)≤n%16 then((0,0),6)else((6,n/16),0)
def rf(l:List ce)(n:Int):ce:=l[n.toNat]?.getD (0,0)
def dS(n:Int)(l:List ce)(s:bG):ce×Int:=if n<0∨l.length≤n then((0,0),6)else if aP (rf l n) s.1=false then((0,0),8)else(rf l n,0)
def Cq{l:List ce}(h:n.toNat<l.length):rf l n=l[n.toNat]:=by simp[rf,h]
def ael:AG (ag dl) (fun en=>en.length≤9223372036854775807∧∀x∈en,True∧(x.2.length≤9223372036854775807∧∀y∈x.2,True)):=qz (BD u9 (qz u9))
def vt6{t:ce}{en:List dN}(h:aP t en=true)(h1:¬t.1=1)(h2:¬t.1=2)(h3:¬t.1=3)(h4:¬t.1=4)(h5:¬t.1=5):t.1=6∧0≤t.2∧t.2<en.length:=by unfold aP at h;rw[zE zo]at h;split at h;rename_i h6;simp at h;exact⟨h6,h⟩;cases h
def pH(t:ce)(en:List dN):Ct prog 75 [.tv bt t,.tv (ag dl) en] (Jh (cg t en)):=by
 refine Yk func75 ntmps75 fun w0 ok0=>?_;refine M1 1 ael Z (fun hf=>?_);have hl0:=hf.1;refine zb ?_;refine YK (fc _ _) ?_;refine Z3 ?_ ?_<;>intro h1
 ·try simp at h1
  refine Y8 ?_;exact z2 results75 rfl rfl (fw XK)
 try simp at h1
 refine PI ?_ ?_<;>intro h4
 ·try simp at h4
  exact Vg
 try simp at h4
 refine Z6 ?_ ?_<;>intro h6
 ·try simp at h6
  exact Vg
 try simp at h6
 refine Z6 ?_ ?_<;>intro h8
 ·try simp at h8
  exact Vg
 try simp at h8
 refine Z6 ?_ ?_<;>intro h10
 ·try simp at h10
  exact Vg
 try simp at h10
 refine Z6 ?_ ?_<;>intro h12
 ·try simp at h12
  exact Vg
 try simp at h12
 refine Y4 ?_;obtain⟨v6,v7,v8⟩:=vt6 h1 h4 h6 h8 h10 h12;have hm:=(hf.2 (en[t.2.toNat]'zo) (aA _)).2.1;refine Y4 ?_;refine GP (av mc iR (.b Z) (.b Z) (J1 v7).symm zg) (Y7 ?_);refine aa (am ?_);exact z2 results75 Z Z (fw (by unfold cg;rw[zE Kz,zE h4,zE h6,zE h8,zE h10,zE h12];unfold Eo;rw[RY zo];rfl))
def aem(n k:Int)(s:bG):Ct prog 154 [Sx n,Sx k,.tv dg s] (Qp (fS n k s)):=by
 refine Yk func154 ntmps154 fun w0 ok0=>?_;refine Qh ?_;refine zJ (aC JI Z gu (.cons (rt':=(ay .i64)) Z cv (.raw (.b Z) Z) .nil)) (Qh ?_);refine YK (pH _ _) ?_;refine Ki ?_;refine aa ?_;refine Z0 ?_ ?_<;>intro h3
 ·try simp at h3
  refine zR (zJ (aC JI Z gu .nil) (Y6 ?_));exact UT
 try simp at h3
 refine Qh ?_;exact UT
def aen(n:Int)(s:bG)(hn:n≤9223372036854775807):Ct prog 155 [Sx n,.tv dg s] (Qp (ke n s)):=by
 refine Yk func155 ntmps155 fun w0 ok0=>?_;refine Po ?_ ?_<;>intro h1
 ·try simp at h1
  refine zR (zJ (aC JI Z gu .nil) (Y6 ?_));exact aI results155 (aq aQ rfl rfl rfl (Lens.id bt)) (ar rfl) ⟨rfl,rfl⟩ (cY (by subst_vars;first|rfl|(simp[ke];done)|(simp[ke, *];done)|(unfold ke;(repeat' split)<;>first|rfl|omega|(simp_all;done)|(simp_all;omega)|(simp_all [bD];done)|(simp_all [bD];omega))))
 try simp at h1
 refine Y5 ?_;refine zJ (i9 (.b Z) (.b Z) zo (qG zo hn zo)) (zM Z (zJ (gc (.b Z) (.b Z) zo (tk zo)) (Y6 ?_)));have hq0:0≤n/16:=zo;refine dy ?_;refine zG rfl rfl (fun hg=>av mc iR (.gd rfl hg) (.gd rfl hg) (J1 hq0).symm (getD_some (z:=(([],[]):dN)) YS)) (Z7 ?_ ?_)<;>intro h4
 ·try simp at h4
  refine zR (zJ (aC JI Z gu .nil) (Y6 ?_));exact aI results155 (aq aQ Z Z Z (Lens.id bt)) (ar Z) ⟨Z,Z⟩ (cY (by unfold ke Eo;rw[zE zo,Cg h4]))
 try simp at h4
 refine Y5 ?_;refine zJ (aC JI Z gu (.cons (rt':=(ay .i64)) Z cv (.raw (.b Z) Z) (.cons (rt':=(ay .i64)) Z gX (.raw (.b Z) Z) .nil))) (Y5 ?_);exact aI results155 (aq aQ Z Z Z (Lens.id bt)) (ar Z) ⟨Z,Z⟩ (cY (by unfold ke Eo;rw[zE zo,zE zo]))
def oV(n:Int)(l:List ce)(s:bG):Ct prog 156 [Sx n,.tv (ag bt) l,.tv dg s] (Qp (dS n l s)):=by
 refine Yk func156 ntmps156 fun w0 ok0=>?_;refine GJ ?_ ?_<;>intro h1
 ·try simp at h1
  refine zR (zJ (aC JI Z gu .nil) (Y6 ?_));exact aI results156 (aq aQ rfl rfl rfl (Lens.id bt)) (ar rfl) ⟨rfl,rfl⟩ (cY (by subst_vars;first|rfl|(simp[dS];done)|(simp[dS, *];done)|(unfold dS;(repeat' split)<;>first|rfl|omega|(simp_all;done)|(simp_all;omega)|(simp_all [bD];done)|(simp_all [bD];omega))))
 try simp at h1
 refine Y4 ?_;have hb:=h1.2;refine Y3 ?_;refine GP (av dI aQ (.b Z) (.b Z) (J1 h1.1).symm zg) (Y3 ?_);refine GP (an (fc _ _) (.cons (.b Z) (.cons (.b Z) .nil)) Z Z) (Y2 ?_);refine aa ?_;refine Z0 ?_ ?_<;>intro h3
 ·try simp at h3
  refine zR (zJ (aC JI Z gu .nil) (Y6 ?_));exact aI results156 (aq aQ Z Z Z (Lens.id bt)) (ar Z) ⟨Z,Z⟩ (cY (by unfold dS;rw[zE zo,Cq zo,Cg h3]))
 try simp at h3
 refine Y6 ?_;refine bi _ Z _ Z Z (av dI aQ (.b Z) (.b Z) (J1 h1.1).symm zg) ?_;refine Y6 ?_;exact aI results156 (aq aQ Z Z Z (Lens.id bt)) (ar Z) ⟨Z,Z⟩ (cY (by unfold dS;rw[zE zo,Cq zo,zE (by simp[h3])]))
def bD(op k:Int):Bool:=if op=36 then k==2||k==3 else if op=37∨op=38 then k==1 else if op=39 then eT k||k==5 else false
def cp(d:aF)(s:bG):ce×Int:=
 if s.2.2.2.2.2=false then((0,0),6)else if d.1=35 then((2,0),0)else
 if(dS d.2 s.2.2.2.2.1 s).2≠0 then((0,0),(dS d.2 s.2.2.2.2.1 s).2)else
 if bD d.1 (dS d.2 s.2.2.2.2.1 s).1.1=true then((dS d.2 s.2.2.2.2.1 s).1,0)else((0,0),8)
def ei(op a b:Int):ce×Bool:=
 if op=14 then((a,0),b==4&&(a==3||a==4))else if b=2 then((a,0),a==2||a==3)else if op=15∧a=3∧b=3 then((4,0),true)else((0,0),false)
def aeo(n a b:Int):Ct prog 209 [Sx n,Sx a,Sx b] (svB (ei n a b)):=by
 refine Yk func209 ntmps209 fun w0 ok0=>?_;refine Ks ?_ ?_<;>intro h1
 ·try simp at h1
  refine zR (zM Z (zJ (aC JI Z gu (.cons (rt':=(ay .i64)) Z cv (.raw (.b Z) Z) .nil)) (Y5 ?_)));refine zG Z Z (fun hg=>ai (.gd Z hg)) ?_;refine dy ?_;exact UU
 try simp at h1
 refine Z7 ?_ ?_<;>intro h3
 ·try simp at h3
  refine zR (zM Z (zJ (aC JI Z gu (.cons (rt':=(ay .i64)) Z cv (.raw (.b Z) Z) .nil)) (MY ?_)));exact UU
 try simp at h3
 refine Ks ?_ ?_<;>intro h5
 ·try simp at h5
  refine zR (zJ (aC JI Z gu (.cons (rt':=(ay .i64)) Z cv (.raw (.b Z) Z) .nil)) (Y7 ?_));exact UU
 try simp at h5
 refine ak (aJ (aa (zR (zJ (aC JI Z gu .nil) (Y5 ?_)))));exact UU
def j8(d:aF)(s:bG):Ct prog 158 [.tv aZ d,.tv dg s] (Qp (cp d s)):=by
 refine Yk func158 ntmps158 fun w0 ok0=>?_;refine PI ?_ ?_<;>intro h1
 ·try simp at h1
  refine zR (zJ (aC JI Z gu .nil) (Y6 ?_));exact UR
 try simp at h1
 refine wz ?_ ?_<;>intro h3
 ·try simp at h3
  refine zR (zJ (aC JI Z gu (.cons (rt':=(ay .i64)) Z cv (.raw (.b Z) Z) .nil)) (Y6 ?_));exact UR
 try simp at h3
 refine Y9 ?_;refine YK (oV _ _ _) ?_;refine Ks ?_ ?_<;>intro h6
 ·try simp at h6
  refine zR (zJ (aC JI Z gu .nil) (Y7 ?_));exact UR
 try simp at h6
 refine rZ ?_ ?_<;>intro h10
 ·try simp at h10
  refine GJ ?_ ?_<;>intro h17;exact T7;exact Us
 try simp at h10
 refine Y5 ?_;refine zQ [4,6,8,31,42] [4,6] (aa ?_);refine Z0 ?_ ?_<;>intro h12
 ·have g12:=h12;try simp at h12
  refine ak (aa ?_);refine bR Z g12 ?_;exact S3
 have g12:=h12;try simp at h12
 refine Z5 ?_ ?_<;>intro h13
 ·have g13:=h13;try simp at h13
  exact S3
 have g13:=h13;try simp at h13
 refine Z6 ?_ ?_<;>intro h15
 ·try simp at h15
  refine Y3 ?_;refine YK (iJ _) ?_;refine PI ?_ ?_<;>intro h17;exact T7;exact Us
 try simp at h15
 refine wz ?_ ?_<;>intro h17
 ·try simp at h17
  all_goals
   refine zR (zJ (aC JI Z gu .nil) (Y2 ?_))
   refine zQ [4,5] [4] (aa (am (al ?_)))
   exact Xv
 exact Us
def mR(l:List bS)(n:Int):bS:=l[n.toNat]?.getD ([],(0,0),(0,0),[])
def d7{l:List bS}(h:n.toNat<l.length):mR l n=l[n.toNat]:=by simp[mR,h]
def jv(d:aF):Int:=if d.1=34 then d.2/8 else d.2
def fG(d:aF)(o:ce)(s:bG):ce×Int:=
 if d.1=34∧(d.2<0∨iX (d.2%8)=false)then((0,0),3)else
 if jv d<0∨s.2.1.length≤jv d then((0,0),6)else
 if aP (mR s.2.1 (jv d)).2.1 s.1=false∨aP (mR s.2.1 (jv d)).2.2.1 s.1=false∨o≠(mR s.2.1 (jv d)).2.1 then((0,0),8)else
 if d.1=34 then(if(mR s.2.1 (jv d)).2.1.1≠3∨(mR s.2.1 (jv d)).2.2.1.1≠4 then((0,0),8)else((mR s.2.1 (jv d)).2.1,0))else((mR s.2.1 (jv d)).2.2.1,0)
def aaP(d:aF)(o:ce)(s:bG)(hn:d.2≤9223372036854775807):Ct prog 157 [.tv aZ d,.tv bt o,.tv dg s] (Qp (fG d o s)):=by
 refine Yk func157 ntmps157 fun w0 ok0=>?_;refine Z24 ?_ ?_<;>intro h2
 ·try simp at h2
  refine Y9 ?_;refine zG Z Z (fun hg=>gc (.gd Z hg) (.b Z) zo (tk PA)) (zG rfl rfl (fun hg=>an (m4 _) (.cons (.gd rfl hg) .nil) rfl rfl) (Z4 ?_ ?_))<;>intro h3
  ·try simp at h3
   refine zR (zJ (aC JI Z gu .nil) (Y7 ?_));exact Tn
  try simp at h3
  refine Y5 ?_;refine zJ (i9 (.b Z) (.b Z) zo (qG zo hn zo)) (O0 ?_ ?_)<;>intro h6;exact Te;try simp at h6
  refine Y3 ?_;have hb:=h6.2;refine je (Y3 ?_);refine ca (av ju eZ (.b Z) (.b Z) (J1 h6.1).symm zg) (Y5 ?_);refine ca (av ju eZ (.b Z) (.b Z) (J1 h6.1).symm zg) (Lc ?_);refine YK (fc _ _) ?_;refine Y5 ?_;refine zG Z Z (fun hg=>an (fc _ _) (.cons (.gd Z hg) (.cons (.gd Z hg) .nil)) Z Z) (Y5 ?_);refine zG Z Z (fun hg=>oA s8 Z Z s9 (.tv (.gd Z hg)) (.tv (.gd Z hg))) (Z3 ?_ ?_)<;>intro h9;exact Tf;try simp at h9
  refine wz ?_ ?_<;>intro h11;exact SP;try simp at h11
  refine Y7 ?_;refine zQ [6,7] [6] (aa (am ?_));exact Tn
 try simp at h2
 refine PI ?_ ?_<;>intro h6;exact Te;try simp at h6
 refine Y3 ?_;have hb:=h6.2;refine je (Y3 ?_);refine ca (av ju eZ (.b Z) (.b Z) (J1 h6.1).symm zg) (Y5 ?_);refine ca (av ju eZ (.b Z) (.b Z) (J1 h6.1).symm zg) (Lc ?_);refine YK (fc _ _) ?_;refine Y5 ?_;refine zG Z Z (fun hg=>an (fc _ _) (.cons (.gd Z hg) (.cons (.gd Z hg) .nil)) Z Z) (Y5 ?_);refine zG Z Z (fun hg=>oA s8 Z Z s9 (.tv (.gd Z hg)) (.tv (.gd Z hg))) (Z3 ?_ ?_)<;>intro h9;exact Tf;try simp at h9
 refine wz ?_ ?_<;>intro h11;exact SP;try simp at h11
 refine Qh ?_;exact Tn
def aR(op:Int)(l:List ce):ce×Bool:=match l with
 | [a]=>if op=10 then(a,eT a.1)else if op=25 then((1,0),a.1==1)else if op=31∨op=32 then((2,0),a.1==5)else((0,0),false)
 | [a,b]=>if op=11∨op=12 then(a,a==b&&eT a.1)else if op=13∨op=14∨op=15 then ei op a.1 b.1 else if op=16 then(a,a.1==3&&b.1==3)
  else if op=17∨op=18 then(a,a==b&&(eT a.1||a.1==5))else if op=19∨op=20 then((1,0),a==b)else if op=21∨op=22 then((1,0),a==b&&(eT a.1||a.1==5))
  else if op=23∨op=24 then((1,0),a.1==1&&b.1==1)else if op=27∨op=28 then(a,a.1==5&&b.1==2)else if op=29∨op=30 then((2,0),a.1==5&&b.1==5)else((0,0),false)
 | [a,b,c]=>if op=26 then(b,a.1==1&&b==c)else((0,0),false)
 | _=>((0,0),false)
def JV(h:l.length=1):∃a,l=[a]:=by match l,h with | [a],_=>exact⟨a,rfl⟩
def qM(h:l.length=2):∃a b,l=[a,b]:=by match l,h with | [a,b],_=>exact⟨a,b,rfl⟩
def len3(h:l.length=3):∃a b c,l=[a,b,c]:=by match l,h with | [a,b,c],_=>exact⟨a,b,c,rfl⟩
def lW(op:Int)(l:List ce)(hl:(l.length:Int)=aW op):Ct prog 160 [Sx op,.tv (ag bt) l] (svB (aR op l)):=by
 refine Yk func160 ntmps160 fun w0 ok0=>?_;refine Y8 ?_;refine zJ (aC JI Z gu (.cons (rt':=(ay .i64)) Z cv (.raw (.b Z) Z) .nil)) (O0 ?_ ?_)<;>intro h3
 ·try simp at h3
  refine ac ?_;obtain⟨x,rfl⟩:=JV (l:=l) ZG;refine je (Y7 ?_);refine ca (an (iJ _) (.cons (.b Z) .nil) Z Z) (Y7 ?_);exact VJ
 try simp at h3
 refine Z6 ?_ ?_<;>intro h5
 ·try simp at h5
  refine ac ?_;obtain⟨x,rfl⟩:=JV (l:=l) ZG;refine je (MY ?_);exact VJ
 try simp at h5
 refine Z7 ?_ ?_<;>intro h7
 ·have g7:=h7;try simp at h7
  refine ak (aa ?_);refine bR Z g7 (ac ?_);exact Ta
 have g7:=h7;try simp at h7
 refine Z5 ?_ ?_<;>intro h8
 ·have g8:=h8;try simp at h8
  refine ac ?_;exact Ta
 have g8:=h8;try simp at h8
 refine Z7 ?_ ?_<;>intro h10
 ·have g10:=h10;try simp at h10
  refine ak (aa ?_);refine bR Z g10 (ac ?_);exact TW
 have g10:=h10;try simp at h10
 refine Z6 ?_ ?_<;>intro h11
 ·have g11:=h11;try simp at h11
  refine ak (aa ?_);refine bR Z g11 (ac ?_);exact TW
 have g11:=h11;try simp at h11
 refine Y3 ?_;refine zQ [0,1,4,6,8,47] [4,6] (aa ?_);refine Z0 ?_ ?_<;>intro h12
 ·have g12:=h12;try simp at h12
  refine ac ?_;exact TW
 have g12:=h12;try simp at h12
 refine Z6 ?_ ?_<;>intro h14
 ·try simp at h14
  exact Tu
 try simp at h14
 refine Z7 ?_ ?_<;>intro h16
 ·have g16:=h16;try simp at h16
  refine ak (aa ?_);refine bR Z g16 (ac ?_);exact SM
 have g16:=h16;try simp at h16
 refine Z5 ?_ ?_<;>intro h17
 ·have g17:=h17;try simp at h17
  refine ac ?_;exact SM
 have g17:=h17;try simp at h17
 refine Z7 ?_ ?_<;>intro h19
 ·have g19:=h19;try simp at h19
  refine ak (aa ?_);refine bR Z g19 (ac ?_);exact T8
 have g19:=h19;try simp at h19
 refine Z5 ?_ ?_<;>intro h20
 ·have g20:=h20;try simp at h20
  refine ac ?_;exact T8
 have g20:=h20;try simp at h20
 refine Z7 ?_ ?_<;>intro h22
 ·have g22:=h22;try simp at h22
  refine ak (aa ?_);refine bR Z g22 (ac ?_);exact SL
 have g22:=h22;try simp at h22
 refine Z5 ?_ ?_<;>intro h23
 ·have g23:=h23;try simp at h23
  refine ac ?_;exact SL
 have g23:=h23;try simp at h23
 refine Y5 ?_;refine zQ [1,4,6,8,143] [4,6] (aa ?_);refine Z0 ?_ ?_<;>intro h25
 ·have g25:=h25;try simp at h25
  refine ak (aa ?_);refine bR Z g25 (ac ?_);exact Tw
 have g25:=h25;try simp at h25
 refine Z5 ?_ ?_<;>intro h26
 ·have g26:=h26;try simp at h26
  refine ac ?_;exact Tw
 have g26:=h26;try simp at h26
 refine Z6 ?_ ?_<;>intro h28
 ·try simp at h28
  refine ac ?_;obtain⟨x,y,z,rfl⟩:=len3 (l:=l) ZG;refine je (Qh ?_);refine Nc rfl rfl (fun hg=>av dI aQ (.gd rfl hg) (.b rfl) rfl (getD_some (z:=((0,0):ce)) YS)) (Y2 ?_);refine Nc rfl rfl (fun hg=>av dI aQ (.gd rfl hg) (.b rfl) rfl (getD_some (z:=((0,0):ce)) YS)) (Y1 ?_);refine Nc Z Z (fun hg=>iM s8 Z Z s9 (.tv (.gd Z hg)) (.tv (.gd Z hg))) (Y8 ?_);exact VJ
 try simp at h28
 refine Z7 ?_ ?_<;>intro h30
 ·have g30:=h30;try simp at h30
  refine ak (aa ?_);refine bR Z g30 (ac ?_);obtain⟨x,y,rfl⟩:=qM (l:=l) ZG;refine je (Qh ?_);refine Nc rfl rfl (fun hg=>av dI aQ (.gd rfl hg) (.b rfl) rfl (getD_some (z:=((0,0):ce)) YS)) (dy ?_);exact VJ
 have g30:=h30;try simp at h30
 refine Z5 ?_ ?_<;>intro h31
 ·have g31:=h31;try simp at h31
  exact Tu
 have g31:=h31;try simp at h31
 refine Z7 ?_ ?_<;>intro h33
 ·have g33:=h33;try simp at h33
  refine ak (aa ?_);refine bR Z g33 (ac ?_);exact Th
 have g33:=h33;try simp at h33
 refine Z5 ?_ ?_<;>intro h34
 ·have g34:=h34;try simp at h34
  refine ac ?_;exact Th
 have g34:=h34;try simp at h34
 refine Z7 ?_ ?_<;>intro h36
 ·have g36:=h36;try simp at h36
  refine ak (aa ?_);refine bR Z g36 (ac ?_);exact T5
 have g36:=h36;try simp at h36
 refine Y3 ?_;refine zQ [1,4,212] [4] (aa ?_);refine Z0 ?_ ?_<;>intro h37
 ·have g37:=h37;try simp at h37
  refine ac ?_;exact T5
 have g37:=h37;try simp at h37
 refine ak (aJ (aa (zR (zJ (aC JI Z gu .nil) (Y5 ?_)))));exact VJ
def cn(d:aF)(l:List ce)(s:bG):ce×Int:=
 if 1≤d.1∧d.1≤5 then fS d.2 d.1 s else if d.1=6 then ke d.2 s else if d.1=7 then dS d.2 s.2.2.1 s else if d.1=8 then dS d.2 s.2.2.2.1 s
 else if d.1=9 then((5,0),0)else if d.1=33∨d.1=34 then fG d (l[0]?.getD (0,0)) s else if 35≤d.1∧d.1≤39 then cp d s
 else if(14≤d.1∧d.1≤16)∧iX d.2=false then((0,0),3)else if(aR d.1 l).2=false then((0,0),8)else((aR d.1 l).1,0)
def abH(d:aF)(l:List ce)(s:bG)(hn:d.2≤9223372036854775807)(hl:(l.length:Int)=aW d.1):Ct prog 116 [.tv aZ d,.tv (ag bt) l,.tv dg s] (Qp (cn d l s)):=by
 refine Yk func116 ntmps116 fun w0 ok0=>?_;refine Z22 ?_ ?_<;>intro h2
 ·try simp at h2
  exact Vc
 try simp at h2
 refine Z6 ?_ ?_<;>intro h4
 ·try simp at h4
  exact Vc
 try simp at h4
 refine Z6 ?_ ?_<;>intro h6
 ·try simp at h6
  exact Vc
 try simp at h6
 refine Z6 ?_ ?_<;>intro h8
 ·try simp at h8
  exact Vc
 try simp at h8
 refine Z6 ?_ ?_<;>intro h10
 ·try simp at h10
  exact Vc
 try simp at h10
 refine Z6 ?_ ?_<;>intro h12
 ·try simp at h12
  refine Y5 ?_;refine YK (aen _ _ hn) ?_;exact Vt
 try simp at h12
 refine Z6 ?_ ?_<;>intro h14
 ·try simp at h14
  refine Y7 ?_;refine YK (oV _ _ _) ?_;exact U8
 try simp at h14
 refine Z6 ?_ ?_<;>intro h16
 ·try simp at h16
  refine Y7 ?_;refine YK (oV _ _ _) ?_;exact Vt
 try simp at h16
 refine Z6 ?_ ?_<;>intro h18
 ·try simp at h18
  refine zR (zJ (aC JI Z gu (.cons (rt':=(ay .i64)) Z cv (.raw (.b Z) Z) .nil)) (Y7 ?_));exact Vz
 try simp at h18
 refine Z7 ?_ ?_<;>intro h20
 ·have g20:=h20;try simp at h20
  refine ak (aa ?_);refine bR Z g20 (ac ?_);exact TM
 have g20:=h20;try simp at h20
 refine Z5 ?_ ?_<;>intro h21
 ·have g21:=h21;try simp at h21
  refine ac ?_;exact TM
 have g21:=h21;try simp at h21
 refine Z7 ?_ ?_<;>intro h23
 ·have g23:=h23;try simp at h23
  refine ak (aa ?_);refine bR Z g23 (ac ?_);exact Vd
 have g23:=h23;try simp at h23
 refine Z6 ?_ ?_<;>intro h24
 ·have g24:=h24;try simp at h24
  refine ak (aa ?_);refine bR Z g24 (ac ?_);exact Vd
 have g24:=h24;try simp at h24
 refine Z6 ?_ ?_<;>intro h25
 ·have g25:=h25;try simp at h25
  refine ak (aa ?_);refine bR Z g25 (ac ?_);exact Vd
 have g25:=h25;try simp at h25
 refine Z6 ?_ ?_<;>intro h26
 ·have g26:=h26;try simp at h26
  refine ak (aa ?_);refine bR Z g26 (ac ?_);refine Y3 ?_;refine YK (j8 _ _) ?_;exact U8
 have g26:=h26;try simp at h26
 refine Z5 ?_ ?_<;>intro h27
 ·have g27:=h27;try simp at h27
  refine Y4 ?_;refine YK (j8 _ _) ?_;exact Vt
 have g27:=h27;try simp at h27
 refine Z7 ?_ ?_<;>intro h29
 ·have g29:=h29;try simp at h29
  refine ak (aa ?_);refine bR Z g29 (ac ?_);refine Y3 ?_;exact SW
 have g29:=h29;try simp at h29
 refine Z6 ?_ ?_<;>intro h30
 ·have g30:=h30;try simp at h30
  refine ak (aa ?_);refine bR Z g30 (ac ?_);refine Y3 ?_;refine YK (m4 _) ?_;refine Z3 ?_ ?_<;>intro h32
  ·try simp at h32
   refine zR (zJ (aC JI Z gu .nil) (Y7 ?_));exact Vz
  try simp at h32
  refine Y8 ?_;refine YK (lW _ _ hl) ?_;refine Ks ?_ ?_<;>intro h35;exact U7;try simp at h35
  refine Y7 ?_;refine zQ [6,7] [6] (aa (am ?_));exact Vz
 have g30:=h30;try simp at h30
 refine Z5 ?_ ?_<;>intro h31
 ·have g31:=h31;try simp at h31
  refine Y4 ?_;exact SW
 have g31:=h31;try simp at h31
 refine Y8 ?_;refine YK (lW _ _ hl) ?_;refine Ks ?_ ?_<;>intro h35;exact U7;try simp at h35
 refine Qh ?_;exact Vz
def svTI(R:ce×Int×Int):SV:=.tup3 (.tv bt R.1) (Sx R.2.1) (Sx R.2.2)
def w9{R:ce×Int×Int}{c:Int}(h:(a,b,c)=R):SV.tup3 (SV.of bt a) (Sx b) (Sx c)=svTI R:=Mc
def nA(d:aF)(st:List ce):Nat:=(st.length-aW d.1).toNat
def nz(s:bG):List aF→Nat→List ce→ce×Int×Int
 | [],_,st=>(st[0]?.getD (0,0),0,0)
 | d::r,i,st=>if d.2≠0∧fd d.1=false then((0,0),i,2)
  else if(cn d (st.drop (nA d st)) s).2≠0 then((0,0),i,(cn d (st.drop (nA d st)) s).2)
  else nz s r (i+1) (st.take (nA d st)++[(cn d (st.drop (nA d st)) s).1])
def fF(e:List aF)(s:bG):ce×Int×Int:=if(bK e).2.2≠0 then((0,0),(bK e).2.1,(bK e).2.2)else nz s e 0 []
def Q9(e:List aF)(k n:Nat):Prop:=∃rs,ir (bK e).1 k rs∧rs.length=n
def abL{k n:Nat}(h:(bK e).2.2=0)(hk:k<e.length)(hh:Q9 e k n):0≤aW e[k].1∧aW e[k].1≤n∧n≤12+3∧Q9 e (k+1) ((n-aW e[k].1).toNat+1):=by obtain⟨rs,h1,rfl⟩:=hh;obtain⟨_,_,_,_,hops⟩:=ep h;obtain⟨h0,rs',h2,h3,frm,h4,_,_,h5⟩:=hops k hk;have:=qA h2 h1;subst this;have:=ot e[k].1;simp only[PS]at h5;exact⟨h0,h3,So,_,h4,QE⟩
def abS{n:Nat}(h:(bK e).2.2=0)(hh:Q9 e e.length n):n=1:=by
 obtain⟨rs,h1,rfl⟩:=hh;obtain⟨_,h0,_,⟨rs',h2,h3⟩,_⟩:=ep h;have:=qA h2 h1;subst this;cases rs' with
 | nil=>have h2:(e.length:Int)=0:=h2;omega
 | cons a r=>simp at h3⊢;exact h3
def Z11(e:List aF)(s:bG)(hn:∀d∈e,d.2≤9223372036854775807):Ct prog 69 [.tv (ag aZ) e,.tv dg s] (svTI (fF e s)):=by
 refine Yk func69 ntmps69 fun w0 ok0=>?_;refine fT 0 Z (fun hl0=>?_);refine dy ?_;refine YK (uh _) ?_;refine zM Z (zJ (eS (.b Z)) (zJ (eR (.b Z)) (zJ (eQ (.b Z)) (Jk ?_ ?_))))<;>intro h2
 ·try simp at h2
  refine zR (zJ (aC JI Z gu .nil) (Y9 ?_));exact db results69 (aq aQ Z Z Z (Lens.id bt)) (ar Z) (ar Z) ⟨Z,Z,Z⟩ (w9 (by unfold fF;rw[Cg h2]))
 try simp at h2
 refine J4 ?_;refine jF 70 10 bt Z Z Z ?_;refine bf (ι:=(Nat×List ce)) (fun(k,st)=>⟨[(3,Sy 3 dg),(4,Sy 4 bt),(10,.own 70 bt.n 0 st.length),(27,.tv (ag aZ) e),(28,Sx e.length),(29,Sx ((k:Nat)))],[(3,⟨dg,[s]⟩),(4,⟨bt,[(0,0)]⟩),(70,⟨bt,st⟩)]⟩) (fun(k,st)=>k≤e.length∧Q9 e k st.length∧nz s (e.drop k) k st=fF e s) (fun(k,st)=>e.length-k) (0,[]) (⟨P8 _,⟨[],Z,Z⟩,by unfold fF;rw[zE (by simp[h2])];rfl⟩) (fun a w hi=>(zI hi)) ?_;rintro⟨k,st⟩⟨hk,hh,hp⟩;refine Z6 ?_ ?_<;>intro h6
 ·try simp at h6
  refine Y5 ?_;obtain⟨ha0,ha1,ha2,hh2⟩:=abL h2 h6 hh;refine Ki ?_;refine zG Z Z (fun hg=>an (Dt _) (.cons (.gd Z hg) .nil) Z Z) (Z4 ?_ ?_)<;>intro h8
  ·try simp at h8
   refine zR (zJ (aC JI Z gu .nil) (Qh ?_));refine b8 (ax (al ?_));exact db results69 (aq aQ Z Z Z (Lens.id bt)) (ar Z) (ar Z) ⟨Z,Z,Z⟩ (w9 (by rw[←hp,qv h6,nz,Cg h8]))
  try simp at h8
  refine Y8 ?_;refine YK (kj _) ?_;refine Y5 ?_;have hx:0≤(st.length:Int)-aW e[k].1:=zo;refine je (Y3 ?_);refine ca (hJ dI aQ (.b Z) ⟨_,_,(.b Z),(J1 hx).symm⟩ Z zo zo) (Y1 ?_);refine ca (rc (abH _ _ _ (hn _ (aA _)) QE) (.cons (.b rfl) rfl (.own (.b rfl) rfl aaW (.cons (.b rfl) rfl .nil))) (pB (qy (gE (fj _) (fj _))) fh)) (Qh ?_);have el:(st.drop (st.length-aW e[k].1).toNat).take (st.length-(st.length-aW e[k].1).toNat)=st.drop (nA e[k] st):=by rw[fV Sp];rfl
  refine Z5 ?_ ?_<;>intro h12;simp at h12;rw[el]at h12;refine zR (zJ (aC JI Z gu .nil) (dy ?_));refine b8 (ax (al ?_));exact db results69 (aq aQ Z Z Z (Lens.id bt)) (ar Z) (ar Z) ⟨Z,Z,Z⟩ (w9 (by simp only[N1,el];rw[←hp,qv h6,nz,zE (fun q=>by rw[h8 q.1]at q;exact absurd q.2 Sp),Cg h12]));simp at h12;rw[el]at h12;refine ak (aa ?_);refine n5 5 mo zk zk (zS (ai (.b Z)) (zS (ai (.b Z)) (zS (hJ dI aQ (.b Z) Z ⟨_,_,(.b Z),(J1 hx).symm⟩ zo zo) (zS (ah aQ (.b Z) Z Z (Lens.id _)) (zS (bP (rt:=bt) dI aQ JI Z (.cons (.tv (.b Z)) .nil) Z Z) (AS.nil)))))) Z Z (bX [3,4,27,28,29] dI aQ JI Z QW (.b Z) Z PJ (.tv (.b rfl)) Fj PJ rfl (.cons rfl (.cons rfl (.cons rfl (.cons rfl (.cons rfl .nil))))) rfl) (zS (a8 (.b rfl)) (AS.nil)) ?_;refine Y5 ?_;refine zQ [3,4,10,27,28,29] [3,4,70] ?_;exact aE (fun a w hi=>⟨(k+1,st.take (nA e[k] st)++[(cn e[k] (st.drop (nA e[k] st)) s).1]),ac5,⟨So,by rw[show(st.take (nA e[k] st)++[(cn e[k] (st.drop (nA e[k] st)) s).1]).length=(st.length-aW e[k].1).toNat+1 by simp[nA];omega];exact hh2,by rw[←hp,qv h6,nz,zE (fun q=>by rw[h8 q.1]at q;exact absurd q.2 Sp),zE (by simp[h12])]⟩,Sub.inv ⟨(by repeat(first|exact au|refine ap rfl (by first|rfl|exact congrArg (SV.own 70 bt.n 0) (by simp[nA];omega)) ?_)),(by repeat(first|exact aw|refine ao rfl (by first|rfl|(exact congrArg (HB.mk bt) (by simp only[N1,Pv,Nat.sub_zero,el];rfl))) ?_))⟩ hi⟩)
 try simp at h6
 refine Y6 ?_;have hk2:k=e.length:=So;subst hk2;have h1:=abS h2 hh;refine ab (zM Z (zJ (bk dI aQ (.b Z) (.b Z) (show(0:Int)=((0:Nat):Int)from Z) zh) ?_));refine bi _ Z _ Z Z (ah aQ (.b Z) Z zg (Lens.id _)) ?_;refine Y6 ?_;exact db results69 (aq aQ Z Z Z (Lens.id bt)) (ar Z) (ar Z) ⟨Z,Z,Z⟩ (w9 (by rw[←hp,KD (Kl _),nz,RY zo];rfl))
end Go.Eng
namespace Go.Proofs
open Go.Shelf
def Tryz.lays134_ren:Go.Shelf.Ren:=⟨fun|134=>281|129=>171|n=>n,fun|53=>280|3=>3|4=>4|46=>234|5=>5|9=>9|n=>n,fun|n=>n⟩
def Tryz.lays134:Go.Proofs.Lays.n134 Tryz.prog Tryz.lays134_ren:={
 mixed:=by kernel_rfl
 f129:=Tryz.func171.trans (congrArg some (by kernel_rfl))
 f134:=Tryz.func281.trans (congrArg some (by kernel_rfl))
 t3:=Tryz.underlying3
 a3:=Tryz.isAgg3
 z3:=Tryz.sizeOf3
 v3:=Tryz.zeroValue3
 t4:=Tryz.underlying4
 a4:=Tryz.isAgg4
 z4:=Tryz.sizeOf4
 v4:=Tryz.zeroValue4
 t5:=Tryz.underlying5
 a5:=Tryz.isAgg5
 z5:=Tryz.sizeOf5
 v5:=Tryz.zeroValue5
 t9:=Tryz.underlying9
 a9:=Tryz.isAgg9
 z9:=Tryz.sizeOf9
 v9:=Tryz.zeroValue9
 t46:=Tryz.underlying234
 a46:=Tryz.isAgg234
 z46:=Tryz.sizeOf234
 v46:=Tryz.zeroValue234
 t53:=Tryz.underlying280
 a53:=Tryz.isAgg280
 z53:=Tryz.sizeOf280
 v53:=Tryz.zeroValue280}
def Tryz.lays144_ren:Go.Shelf.Ren:=⟨fun|144=>222|143=>244|219=>261|217=>277|225=>278|224=>279|267=>280|266=>293|314=>294|n=>n,fun|9=>9|4=>4|3=>3|5=>5|46=>234|146=>378|51=>278|n=>n,fun|1=>0|n=>n⟩
def Tryz.lays144:Go.Proofs.Lays.n144 Tryz.prog Tryz.lays144_ren:={
 mixed:=by kernel_rfl
 f143:=Tryz.func244.trans (congrArg some (by kernel_rfl))
 f144:=Tryz.func222.trans (congrArg some (by kernel_rfl))
 f217:=Tryz.func277.trans (congrArg some (by kernel_rfl))
 f219:=Tryz.func261.trans (congrArg some (by kernel_rfl))
 f224:=Tryz.func279.trans (congrArg some (by kernel_rfl))
 f225:=Tryz.func278.trans (congrArg some (by kernel_rfl))
 f266:=Tryz.func293.trans (congrArg some (by kernel_rfl))
 f267:=Tryz.func280.trans (congrArg some (by kernel_rfl))
 f314:=Tryz.func294.trans (congrArg some (by kernel_rfl))
 t3:=Tryz.underlying3
 a3:=Tryz.isAgg3
 z3:=Tryz.sizeOf3
 v3:=Tryz.zeroValue3
 t4:=Tryz.underlying4
 a4:=Tryz.isAgg4
 z4:=Tryz.sizeOf4
 v4:=Tryz.zeroValue4
 t5:=Tryz.underlying5
 a5:=Tryz.isAgg5
 z5:=Tryz.sizeOf5
 v5:=Tryz.zeroValue5
 t9:=Tryz.underlying9
 a9:=Tryz.isAgg9
 z9:=Tryz.sizeOf9
 v9:=Tryz.zeroValue9
 t46:=Tryz.underlying234
 a46:=Tryz.isAgg234
 z46:=Tryz.sizeOf234
 v46:=Tryz.zeroValue234
 t51:=Tryz.underlying278
 a51:=Tryz.isAgg278
 z51:=Tryz.sizeOf278
 v51:=Tryz.zeroValue278
 t146:=Tryz.underlying378
 a146:=Tryz.isAgg378
 z146:=Tryz.sizeOf378
 v146:=Tryz.zeroValue378
 g1:=by kernel_rfl}
def Tryz.lays189_ren:Go.Shelf.Ren:=⟨fun|189=>76|125=>120|257=>119|128=>170|129=>171|294=>161|295=>162|296=>163|297=>164|298=>165|299=>166|216=>167|300=>168|301=>169|328=>210|329=>211|330=>212|331=>213|332=>214|215=>215|343=>243|n=>n,fun|28=>37|3=>3|46=>234|0=>0|51=>278|53=>280|4=>4|183=>271|182=>270|131=>209|5=>5|9=>9|218=>317|222=>321|228=>345|229=>173|n=>n,fun|n=>n⟩
def Tryz.lays189:Go.Proofs.Lays.n189 Tryz.prog Tryz.lays189_ren:={
 mixed:=by kernel_rfl
 f125:=Tryz.func120.trans (congrArg some (by kernel_rfl))
 f128:=Tryz.func170.trans (congrArg some (by kernel_rfl))
 f129:=Tryz.func171.trans (congrArg some (by kernel_rfl))
 f189:=Tryz.func76.trans (congrArg some (by kernel_rfl))
 f215:=Tryz.func215.trans (congrArg some (by kernel_rfl))
 f216:=Tryz.func167.trans (congrArg some (by kernel_rfl))
 f257:=Tryz.func119.trans (congrArg some (by kernel_rfl))
 f294:=Tryz.func161.trans (congrArg some (by kernel_rfl))
 f295:=Tryz.func162.trans (congrArg some (by kernel_rfl))
 f296:=Tryz.func163.trans (congrArg some (by kernel_rfl))
 f297:=Tryz.func164.trans (congrArg some (by kernel_rfl))
 f298:=Tryz.func165.trans (congrArg some (by kernel_rfl))
 f299:=Tryz.func166.trans (congrArg some (by kernel_rfl))
 f300:=Tryz.func168.trans (congrArg some (by kernel_rfl))
 f301:=Tryz.func169.trans (congrArg some (by kernel_rfl))
 f328:=Tryz.func210.trans (congrArg some (by kernel_rfl))
 f329:=Tryz.func211.trans (congrArg some (by kernel_rfl))
 f330:=Tryz.func212.trans (congrArg some (by kernel_rfl))
 f331:=Tryz.func213.trans (congrArg some (by kernel_rfl))
 f332:=Tryz.func214.trans (congrArg some (by kernel_rfl))
 f343:=Tryz.func243.trans (congrArg some (by kernel_rfl))
 t0:=Tryz.underlying0
 a0:=Tryz.isAgg0
 z0:=Tryz.sizeOf0
 v0:=Tryz.zeroValue0
 t3:=Tryz.underlying3
 a3:=Tryz.isAgg3
 z3:=Tryz.sizeOf3
 v3:=Tryz.zeroValue3
 t4:=Tryz.underlying4
 a4:=Tryz.isAgg4
 z4:=Tryz.sizeOf4
 v4:=Tryz.zeroValue4
 t5:=Tryz.underlying5
 a5:=Tryz.isAgg5
 z5:=Tryz.sizeOf5
 v5:=Tryz.zeroValue5
 t9:=Tryz.underlying9
 a9:=Tryz.isAgg9
 z9:=Tryz.sizeOf9
 v9:=Tryz.zeroValue9
 t28:=Tryz.underlying37
 a28:=Tryz.isAgg37
 z28:=Tryz.sizeOf37
 v28:=Tryz.zeroValue37
 t46:=Tryz.underlying234
 a46:=Tryz.isAgg234
 z46:=Tryz.sizeOf234
 v46:=Tryz.zeroValue234
 t51:=Tryz.underlying278
 a51:=Tryz.isAgg278
 z51:=Tryz.sizeOf278
 v51:=Tryz.zeroValue278
 t53:=Tryz.underlying280
 a53:=Tryz.isAgg280
 z53:=Tryz.sizeOf280
 v53:=Tryz.zeroValue280
 t131:=Tryz.underlying209
 a131:=Tryz.isAgg209
 z131:=Tryz.sizeOf209
 v131:=Tryz.zeroValue209
 t182:=Tryz.underlying270
 a182:=Tryz.isAgg270
 z182:=Tryz.sizeOf270
 v182:=Tryz.zeroValue270
 t183:=Tryz.underlying271
 a183:=Tryz.isAgg271
 z183:=Tryz.sizeOf271
 v183:=Tryz.zeroValue271
 t218:=Tryz.underlying317
 a218:=Tryz.isAgg317
 z218:=Tryz.sizeOf317
 v218:=Tryz.zeroValue317
 t222:=Tryz.underlying321
 a222:=Tryz.isAgg321
 z222:=Tryz.sizeOf321
 v222:=Tryz.zeroValue321
 t228:=Tryz.underlying345
 a228:=Tryz.isAgg345
 z228:=Tryz.sizeOf345
 v228:=Tryz.zeroValue345
 t229:=Tryz.underlying173
 a229:=Tryz.isAgg173
 z229:=Tryz.sizeOf173
 v229:=Tryz.zeroValue173}
def Tryz.lays264_ren:Go.Shelf.Ren:=⟨fun|264=>265|n=>n,fun|53=>280|46=>234|n=>n,fun|n=>n⟩
def Tryz.lays264:Go.Proofs.Lays.n264 Tryz.prog Tryz.lays264_ren:={
 mixed:=by kernel_rfl
 f264:=Tryz.func265.trans (congrArg some (by kernel_rfl))
 t46:=Tryz.underlying234
 a46:=Tryz.isAgg234
 z46:=Tryz.sizeOf234
 v46:=Tryz.zeroValue234
 t53:=Tryz.underlying280
 a53:=Tryz.isAgg280
 z53:=Tryz.sizeOf280
 v53:=Tryz.zeroValue280}
def Tryz.laysNm220_ren:Go.Shelf.Ren:=⟨fun|20=>77|n=>n,fun|22=>37|3=>3|4=>4|0=>0|n=>n,fun|n=>n⟩
def Tryz.laysNm220:Go.Proofs.Lays2.n20 Tryz.prog Tryz.laysNm220_ren:={
 mixed:=by kernel_rfl
 f20:=Tryz.func77.trans (congrArg some (by kernel_rfl))
 t0:=Tryz.underlying0
 a0:=Tryz.isAgg0
 z0:=Tryz.sizeOf0
 v0:=Tryz.zeroValue0
 t3:=Tryz.underlying3
 a3:=Tryz.isAgg3
 z3:=Tryz.sizeOf3
 v3:=Tryz.zeroValue3
 t4:=Tryz.underlying4
 a4:=Tryz.isAgg4
 z4:=Tryz.sizeOf4
 v4:=Tryz.zeroValue4
 t22:=Tryz.underlying37
 a22:=Tryz.isAgg37
 z22:=Tryz.sizeOf37
 v22:=Tryz.zeroValue37
 i3:=by kernel_rfl}
def Tryz.bits_LeadingZeros64(x:Int)(w:World)(h0:0≤x)(h1:x≤18446744073709551615):
 Calls Tryz.prog 281 #[.int .u64 x] w fun e w'=>e=.returned (.int .i64 (64-(Lib.bitLen x.toNat:Int)))∧w'=w:=Any.bits_LeadingZeros64 Tryz.lays134 x w h0 h1
open Go.RowKit Go.Lib in
def Tryz.strings_Contains_one(s:ByteArray)(c:UInt8)(w:World):
 Calls Tryz.prog 222 #[.string s,.string ⟨#[c]⟩] w fun e w'=>e=.returned (.bool (decide (0≤Lib.indexByte s.data.toList c)))∧w'=w:=Any.strings_Contains_one Tryz.lays144 s c w
open Go.Sort Go.RowKit in
def Tryz.slices_Sort_int(blk off cap:Nat)(zs:List Int)(w:World)(hH:Holds (Value.int .i64) w blk off zs.toArray)(hblk:blk<w.heap.size)(hsz:zs.length<4611686018427387904):
 Calls Tryz.prog 76 #[.slice (some ⟨blk,off,none⟩) zs.length cap] w fun e w'=>
  e=.returned (.tuple #[])∧∃n os,w'=grow (putRow (Value.int .i64) (Sort.ahead w n) blk off (zs.mergeSort fun x y=>decide (x≤y)).toArray) os:=Any.slices_Sort_int Tryz.lays189 blk off cap zs w hH hblk hsz
open Go.RowKit Go.Lib in
def Tryz.bits_Mul64(x y:Nat)(hx:x<18446744073709551616)(hy:y<18446744073709551616)(w:World):
 Calls Tryz.prog 265 #[.int .u64 x,.int .u64 y] w fun e w'=>e=.returned (.tuple #[.int .u64 ((x*y/18446744073709551616:Nat):Int),.int .u64 ((x*y%18446744073709551616:Nat):Int)])∧w'=w:=Any.bits_Mul64 Tryz.lays264 x y hx hy w
open Go.RowKit Go.Lib Go.Sort in
def Tryz.slices_Compact_int(blk off cap:Nat)(zs:List Int)(w:World)(hH:Holds (Value.int .i64) w blk off zs.toArray)(hsz:zs.length≤9223372036854775807)(hcap:zs.length≤cap):
 Calls Tryz.prog 77 #[.slice (some ⟨blk,off,none⟩) zs.length cap] w fun e w'=>e=.returned (.slice (some ⟨blk,off,none⟩) (Lib.compact zs).length cap)∧∃q,w'=putRow (Value.int .i64) (Sort.ahead w q) blk off (Lib.compact zs++List.replicate (zs.length-(Lib.compact zs).length) 0).toArray:=Any.slices_Compact_int Tryz.laysNm220 blk off cap zs w hH hsz hcap
open Go.RowKit Go.Lib Go.Sort in
def Tryz.slices_Compact_int_empty(a:Option Addr)(cap:Nat)(w:World):
 Calls Tryz.prog 77 #[.slice a 0 cap] w fun e w'=>e=.returned (.slice a 0 cap)∧w'=w:=Any.slices_Compact_int_empty Tryz.laysNm220 a cap w
open Go.RowKit Go.Sort in
def Tryz.slices_Sort_int_none(p:Option Addr)(cap:Nat)(w:World):
 Calls Tryz.prog 76 #[.slice p 0 cap] w fun e w'=>e=.returned (.tuple #[])∧w'=w:=Any.slices_Sort_int_none Tryz.lays189 p cap w
end Go.Proofs
namespace Go.Eng
open Go.Proofs Tryz
variable{α:Type}{P:α→Prop}{a:Int}{b:Bool}{en:List dN}{f:ba→Bool}{i k n:Nat}{l rs:List ba}{near:List Int}{p:Nat→Bool}{s:aL}{t:ce}{ts:List bS}{xs:List α}
def resL:List (List UInt8):=[[105,102],[116,104,101,110],[101,108,115,101],[111,114],[97,110,100],[110,111,116],[116,114,117,101],[102,97,108,115,101],[116,111,100,97,121],[115,104,97,114,101],[100,105,118],[114,111,117,110,100],[109,105,110],[109,97,120],[112,108,117,115],[109,111,110,116,104,115],[100,97,121,115],[121,101,97,114,115],[121,101,97,114],[109,111,110,116,104],[116,97,98],[98,97,110,100],[99,111,117,110,116],[115,117,109],[97,108,108],[97,110,121],[109,111,115,116],[101,110,117,109],[116,97,98,108,101],[114,111,119],[115,99,111,112,101],[109,101,109,98,101,114,115],[105,110,112,117,116],[100,101,102],[114,117,108,101],[111,102],[111,118,101,114],[112,114,105,111],[102,114,111,109],[116,111],[101,110,100],[119,104,101,110],[105,115],[115,114,99],[98,111,111,108],[105,110,116],[109,111,110,101,121],[114,97,116,101],[100,97,116,101],[100,111,119,110],[117,112],[122,101,114,111],[97,119,97,121],[104,97,108,102],[101,118,101,110]]
def LG(s:List UInt8):Bool:=resL.contains s
def Z14(s:List UInt8):Ct prog 134 [.raw (e6 s)] (.raw (.bool (LG s))):=by
 refine Yk func134 ntmps134 fun w0 ok0=>?_;refine MY ?_;iterate 54 (
  refine zR (zJ (dV Qf (.b Z) (.b Z)) (zY Z (aa ?_)))
  refine Z0 ?_ ?_<;>intro h
  ·have g:=h
   have hx:LG s=true:=by simp at h;subst h;rfl
   refine ak (aa ?_)
   refine bR Z g (ac ?_)
   refine Y7 ?_
   exact z1 results134 Z (rb hx.symm)
  simp at h)
 refine ab (zJ (dV Qf (.b Z) (.b Z)) (zY Z (aa ?_)));refine Z0 ?_ ?_<;>intro h;have hx:LG s=true:=by simp at h;subst h;rfl
 refine Y8 ?_;exact z1 results134 Z (rb hx.symm);simp at h;refine Y9 ?_;exact z1 results134 Z (rb (by symm;unfold LG resL;simp[*]))
def CM(s:List UInt8):Bool:=((((s != [])&&Bs (s.getD 0 0))&&((PK s:Int)==(s.length:Int)))&&decide ((s.length:Int)≤16))&&!LG s
def id_ok0(s:List UInt8)(hl:s.length≤9223372036854775807):Ct prog 95 [.raw (e6 s)] (.raw (.bool (CM s))):=by refine Yk func95 ntmps95 fun w0 ok0=>?_;refine Y8 ?_;refine zJ (lY Qf (.b Z) (.b Z)) (Y2 ?_);refine zG rfl rfl (fun hg=>nj Qf (.gd rfl hg) (.b rfl) (show(0:Int)=((0:Nat):Int)from rfl) (getD_some (z:=(0:UInt8)) (by cases s with|nil=>simp at hg|cons a r=>simp))) (zG rfl rfl (fun hg=>an (EP _) (.cons (.gd rfl hg) .nil) rfl rfl) (Y3 ?_));refine zG Z Z (fun hg=>an (Z16 _ hl) (.cons (.gd Z hg) .nil) Z Z) (Y1 ?_);refine zG Z Z (fun hg=>fI Qf (.gd Z hg)) (Y4 ?_);refine zG Z Z (fun hg=>fI Qf (.gd Z hg)) (Y4 ?_);refine zG Z Z (fun hg=>an (Z14 _) (.cons (.gd Z hg) .nil) Z Z) (Y6 ?_);exact z1 results95 rfl (rb (by first|rfl|(unfold CM;cases s<;>simp)))
def tbZ(s:List UInt8)(c:UInt8):Ct prog 222 [.raw (e6 s),.raw (e6 [c])] (.raw (.bool (decide (0≤Lib.indexByte s c)))):=
 ⟨cJ func222 rfl zk,fun w ok0 vs hok ⟨v,vr,e,h1,v2,vr2,e2,h2,h3⟩=>by have h1:v=e6 s:=h1;have h2:v2=e6 [c]:=h2;have h3:vr2=[]:=h3;subst h1 h2 h3 e2 e;refine(Go.Proofs.Tryz.strings_Contains_one ⟨s.toArray⟩ c w).mono ?_;rintro e w' ⟨rfl,rfl⟩;exact⟨_,Z,(Go.Eng.Below.refl _ _).toX,Z⟩⟩
def Qs(b:UInt8):Bool:=decide (b.toNat<32)||decide (126<b.toNat)
def DI(s:List UInt8):Bool:=!(decide (64<s.length)||decide (0≤Lib.indexByte s 34))&&!s.any Qs
def src_ok(s:List UInt8):Ct prog 188 [.raw (e6 s)] (.raw (.bool (DI s))):=by
 refine Yk func188 ntmps188 fun w0 ok0=>?_;refine Y9 ?_;refine zJ (fI Qf (.b Z)) (Y3 ?_);refine zG Z Z (fun hg=>an (tbZ _ _) (.cons (.gd Z hg) (.cons (.b Z) .nil)) Z Z) (Z3 ?_ ?_)<;>intro h1;have h1:(decide (64<s.length)||decide (0≤Lib.indexByte s 34))=true:=by simp at h1⊢;omega
 refine Y7 ?_;exact z1 results188 Z (rb (by unfold DI;rw[h1];rfl));have h1:(decide (64<s.length)||decide (0≤Lib.indexByte s 34))=false:=by simp at h1⊢;omega
 have hl:s.length≤64:=CY;refine Y6 ?_;refine zJ (fI Qf (.b Z)) (zM Z (zZ (az ?_)));refine bf (ι:=Nat) (fun k=>⟨[(0,.raw (e6 s)),(12,Sx ((s.length:Int))),(13,Sx ((k:Nat)))],[]⟩) (fun k=>k≤s.length∧∀i,(h:i<s.length)→i<k→Qs s[i]=false) (fun k=>s.length-k) 0 (⟨P8 _,fun i h g=>So⟩) (fun a w hi=>(zI hi)) ?_;rintro k ⟨hk,hy⟩;refine Z6 ?_ ?_<;>intro h4;have h4:k<s.length:=Kb;refine Lc ?_;refine bi _ rfl _ rfl rfl (nj Qf (.b rfl) (.b rfl) rfl (RY aaa)) ?_;refine Y4 ?_;refine zG rfl rfl (fun hg=>nj Qf (.gd rfl hg) (.gd rfl hg) rfl (getD_some (z:=(0:UInt8)) aaa)) (Z4 ?_ ?_)<;>intro h6;have h6:Qs s[k]=true:=Zz;refine Y8 ?_;refine b8 (ax (al ?_));exact z1 results188 Z (rb (by unfold DI;rw[Oo.2 ⟨_,aA h4,h6⟩];simp));have h6:Qs s[k]=false:=Zz;have hy1:∀i,(h:i<s.length)→i<k+1→Qs s[i]=false:=fun i hi g=>by by_cases e:i=k;subst e;exact h6;exact hy i hi zo
 refine Y7 ?_;exact ZU;have h4:k=s.length:=Kb;refine dy ?_;exact z1 results188 Z (rb (by unfold DI;rw[h1,show s.any Qs=false from afq.2 (fun x hx=>by obtain⟨i,hi,rfl⟩:=Fe.1 hx;rw[hy i hi zo];decide)];rfl))
def By(s:List UInt8)(hl:s.length≤9223372036854775807):Ct prog 95 [.raw (e6 s)] (.raw (.bool (CM s))):=id_ok0 s zo
def TbO(x:dN)(c:List UInt8):Ct prog 136 [.tv dl x,.eptr du c] (.raw (.bool (decide (x.1=c)))):=by refine Yk func136 ntmps136 fun w0 ok0=>?_;refine dy ?_;refine zJ (dV Qf (.b Z) (.b Z)) (zY Z (aa (am ?_)));exact z1 results136 rfl (rb aaH)
def aep(x:bS)(c:List UInt8):Ct prog 138 [.tv b9 x,.eptr du c] (.raw (.bool (decide (x.1=c)))):=by refine Yk func138 ntmps138 fun w0 ok0=>?_;refine dy ?_;refine zJ (dV Qf (.b Z) (.b Z)) (zY Z (aa (am ?_)));exact z1 results138 rfl (rb aaH)
def aeq(x:aL)(c:aL):Ct prog 140 [.tv bw x,.eptr bw c] (.raw (.bool (decide (x.1=c.1)))):=by refine Yk func140 ntmps140 fun w0 ok0=>?_;refine zb ?_;refine zJ (dV Qf (.b Z) (.b Z)) (zY Z (aa (am ?_)));exact z1 results140 rfl (rb aaH)
def aer(x:dG)(c:dG):Ct prog 184 [.tv dm x,.eptr dm c] (.raw (.bool (decide (x.1=c.1)))):=by refine Yk func184 ntmps184 fun w0 ok0=>?_;refine zb ?_;refine zJ (dV Qf (.b Z) (.b Z)) (zY Z (aa (am ?_)));exact z1 results184 rfl (rb aaH)
def aes(x:ba)(c:ba):Ct prog 187 [.tv ct x,.eptr ct c] (.raw (.bool (decide (x.1=c.1)))):=by refine Yk func187 ntmps187 fun w0 ok0=>?_;refine zb ?_;refine zJ (dV Qf (.b Z) (.b Z)) (zY Z (aa (am ?_)));exact z1 results187 rfl (rb aaH)
def Qn(l:List dN)(nm:List UInt8):Bool:=l.any (fun x=>decide (x.1=nm))
def hasT(l:List bS)(nm:List UInt8):Bool:=l.any (fun x=>decide (x.1=nm))
def CR(l:List dN)(nm:List UInt8):Ct prog 96 [.tv (ag dl) l,.raw (e6 nm)] (.raw (.bool (Qn l nm))):=by refine Yk func96 ntmps96 fun w0 ok0=>?_;refine zR (zJ (kX (rt:=du) (.raw (.b Z) Z)) (zY Z (aa (zR (zM Z (zJ (j7 (A:=dl) (B:=cq) (aS:=[.eptr du nm]) (φ:=fun _=>True) (fun x=>decide (x.1=nm)) (cJ func136 Z zk) (fun x _=>TbO x nm) (.cons (.b Z) .nil) Z) (YK (bst _ _) ?_)))))));refine zY Z (aa (am ?_));exact z1 results96 Z (Z)
def Ij(l:List bS)(nm:List UInt8):Ct prog 97 [.tv (ag b9) l,.raw (e6 nm)] (.raw (.bool (hasT l nm))):=by refine Yk func97 ntmps97 fun w0 ok0=>?_;refine zR (zJ (kX (rt:=du) (.raw (.b Z) Z)) (zY Z (aa (zR (zM Z (zJ (j7 (A:=b9) (B:=cq) (aS:=[.eptr du nm]) (φ:=fun _=>True) (fun x=>decide (x.1=nm)) (cJ func138 Z zk) (fun x _=>aep x nm) (.cons (.b Z) .nil) Z) (YK (chA _ _) ?_)))))));refine zY Z (aa (am ?_));exact z1 results97 Z (Z)
def Nq(l:List dG)(nm:List UInt8):Bool:=l.any (fun x=>decide (x.1=nm))
def Af(en:List dN)(f:dG)(a b:List dG):Int:=if(!CM f.1)=true then 2 else if(Nq a f.1||Nq b f.1)=true then 7 else if(!aP f.2 en)=true then 8 else 0
def IS(l:bZ)(f:dG)(a b:List dG)(hl:f.1.length≤9223372036854775807):Ct prog 141 [.tv bl l,.tv dm f,.tv (ag dm) a,.tv (ag dm) b] (Sx (Af l.1 f a b)):=by refine Yk func141 ntmps141 fun w0 ok0=>?_;refine Y3 ?_;refine zJ (kX (rt:=dm) (.tv (.b Z))) (zY Z (aa (zR (zJ (j7 (A:=dm) (B:=cq) (aS:=[.eptr dm f]) (φ:=fun _=>True) (fun x=>decide (x.1=f.1)) (cJ func184 Z zk) (fun x _=>aer x f) (.cons (.b Z) .nil) Z) (Y9 ?_)))));refine zJ (an (By _ zo) (.cons (.b Z) .nil) Z Z) (Z4 ?_ ?_)<;>intro h2;skip;refine Y8 ?_;exact z1 results141 Z (ri (by unfold Af;rw[Cg h2]));skip;refine Y4 ?_;refine YK (Bz _ _) ?_;refine Y3 ?_;refine zG Z Z (fun hg=>an (Bz _ _) (.cons (.gd Z hg) (.cons (.gd Z hg) .nil)) Z Z) (Z4 ?_ ?_)<;>intro h4;skip;refine Y8 ?_;exact z1 results141 Z (ri (by unfold Af Nq;rw[zE Ji,Cg h4]));skip;refine Y6 ?_;refine YK (fc _ _) ?_;refine Z4 ?_ ?_<;>intro h6;skip;refine Y8 ?_;exact z1 results141 Z (ri (by unfold Af Nq;rw[zE Ji,zE OX,Cg h6]));skip;refine Y9 ?_;exact z1 results141 Z (ri (by unfold Af Nq;rw[zE Ji,zE OX,zE FH]))
def tY(e:List aF)(sg:bG)(t:ce):Int:=if((fF e sg).2.2 != 0)=true then(fF e sg).2.2 else if((fF e sg).1 != t)=true then 8 else 0
def Da(e:List aF)(sg:bG)(t:ce)(hn:∀d∈e,d.2≤9223372036854775807):Ct prog 189 [.tv (ag aZ) e,.tv dg sg,.tv bt t] (Sx (tY e sg t)):=by refine Yk func189 ntmps189 fun w0 ok0=>?_;refine dy ?_;refine YK (Z11 _ _ hn) ?_;refine zM Z (zJ (eS (.b Z)) (zJ (eR (.b Z)) (zJ (eQ (.b Z)) (sm ?_ ?_))))<;>intro h2;skip;refine Y8 ?_;exact z1 results189 Z (ri (by unfold tY;rw[Cg h2]));skip;refine Y7 ?_;refine zJ (oA s8 Z Z s9 (.tv (.b Z)) (.tv (.b Z))) (zZ ?_);refine Z0 ?_ ?_<;>intro h4;skip;refine Y7 ?_;exact z1 results189 Z (ri (by unfold tY;rw[zE Ji,Cg h4]));skip;refine Y8 ?_;exact z1 results189 Z (ri (by unfold tY;rw[zE Ji,zE OX]))
abbrev Rg:=Int×Int
def jt(r:Rg):Bool:=decide (0≤r.1)&&decide (r.1≤r.2)&&decide (r.2≤109573)
def CS(r:Rg):Bool:=jt r&&decide (r.1<r.2)
def fm(r:Rg)(d:Int):Bool:=jt r&&decide (r.1≤d)&&decide (d<r.2)
def zc(a b:Rg):Rg×Bool:=
 if CS a=false∨CS b=false then((0,0),false)else if(if b.2<a.2 then b.2 else a.2)≤(if a.1<b.1 then b.1 else a.1)then((0,0),false)
 else((if a.1<b.1 then b.1 else a.1,if b.2<a.2 then b.2 else a.2),true)


def fa(f:ba→Bool)(l:List ba)(i:Nat):Bool:=match l[i]? with|some r=>f r|none=>false
def Bd(l:List ba)(i:Nat):Int:=match l[i]? with|some r=>r.2.2.1|none=>0
def cI(f:ba→Bool)(l:List ba)(k:Nat):List Nat:=(List.range k).filter (fa f l)
def iG(f:ba→Bool)(l:List ba)(k:Nat):List Int:=(cI f l k).map (fun i:Nat=>(i:Int))
def Q4(near:List Int)(k:Nat)(p:Int):Int:=if 0≤p∧p<k then near.getD p.toNat 0 else -1
def kZ(f:ba→Bool)(l:List ba):Nat→List Int
 | 0=>[]
 | k+1=>kZ f l k++[if fa f l k=true then((cI f l k).length:Int)else Q4 (kZ f l k) k (Bd l k)]
def O1(f:ba→Bool)(l:List ba)(k:Nat):Int:=Q4 (kZ f l k) k (Bd l k)
def mO(f:ba→Bool)(l:List ba)(k:Nat):List Int:=(cI f l k).map (O1 f l)
def nX(h:i<l.length):fa f l i=f l[i]:=by simp[fa,h]
def pf(h:i<l.length):Bd l i=l[i].2.2.1:=by simp[Bd,h]
def Bp(h:fa f l i=true):i<l.length:=by unfold fa at h;split at h;rename_i e;exact(Y0.1 e).1;cases h
def pt(f:ba→Bool)(l:List ba)(k:Nat):cI f l (k+1)=cI f l k++if fa f l k=true then[k]else[]:=by unfold cI;rw[Jp,NZ];by_cases h:fa f l k=true<;>simp[h]
def li(f:ba→Bool)(l:List ba)(k:Nat):(cI f l k).length≤k:=by unfold cI;have:=FQ (fa f l) (List.range k);simpa using this
def n6:i∈cI f l k↔i<k∧fa f l i=true:=by simp[cI]
def mA(f:ba→Bool)(l:List ba)(k:Nat):(iG f l k).length=(cI f l k).length:=by simp[iG]
def yn(f:ba→Bool)(l:List ba)(k:Nat):(mO f l k).length=(cI f l k).length:=by simp[mO]
def Bk(f:ba→Bool)(l:List ba):∀k,(kZ f l k).length=k
 | 0=>rfl
 | k+1=>by rw[kZ,Yl,Bk f l k];rfl
def aet(h:fa f l k=true):iG f l (k+1)=iG f l k++[(k:Int)]:=by unfold iG;rw[pt,Cg h,ll];rfl
def Nl(h:¬fa f l k=true):iG f l (k+1)=iG f l k:=by unfold iG;rw[pt,zE h,Nk]
def aeu(h:fa f l k=true):mO f l (k+1)=mO f l k++[O1 f l k]:=by unfold mO;rw[pt,Cg h,ll];rfl
def LY(h:¬fa f l k=true):mO f l (k+1)=mO f l k:=by unfold mO;rw[pt,zE h,Nk]
def abY(h:fa f l k=true):kZ f l (k+1)=kZ f l k++[((cI f l k).length:Int)]:=by rw[kZ,Cg h]
def HL(h:¬fa f l k=true):kZ f l (k+1)=kZ f l k++[O1 f l k]:=by rw[kZ,zE h];rfl
def AB(near:List Int)(n:Nat):List Int:=near++List.replicate (n-near.length) 0
def acO(h:near.length≤n):(AB near n).length=n:=by simp[AB];omega
def rg{x:Int}(hk:near.length=k)(h:k<n):(AB near n).set (0+k) x=AB (near++[x]) n:=by unfold AB;obtain⟨d,hd⟩:∃d,n-near.length=d+1:=⟨n-near.length-1,So⟩;rw[N1,afp _ _ zo,hd,show k-near.length=0 by omega];rw[List.replicate_succ,List.set_cons_zero,Yl,F3,show n-(near.length + [x].length)=d by simp;omega];rfl
def Z21{x y:Int}(hk:near.length=k)(h:k<n):((AB near n).set (0+k) x).set (0+k) y=AB (near++[y]) n:=by rw[List.set_set,rg hk h]
def ty9(h:k<near.length):(AB near n)[0+k]?=some (near.getD k 0):=by unfold AB;rw[N1,NH h,zy,RY h];rfl
def fD(d date:Int)(r:ba):Bool:=decide (r.2.1=d)&&fm r.2.2.2.2.1 date
def fA(date:Int)(r:ba):Bool:=fm r.2.2.2.2.1 date
def Ax(f:ba→Bool)(l:List ba)(k:Nat):List Int:=(cI f l k).map (fun i=>match l[i]? with|some r=>r.2.2.2.1|none=>0)
def nxt(r:Rg):Ct prog 121 [.tv cL r] (.raw (.bool (jt r))):=by exact VU
def Sk(r:Rg)(d:Int):Ct prog 81 [.tv cL r,Sx d] (.raw (.bool (fm r d))):=by refine Yk func81 ntmps81 fun w0 ok0=>?_;refine Y9 ?_;refine YK (nxt _) ?_;exact Wu
def R8{P:Program}{cx:Cx}{st:St}{rt:RT α}{t:Nat}(h:bg st.slots t=some (.raw (.slice none 0 0))):xA P cx st (.tmp t) (.tv (ag rt) []):=fun β a w hi=>by obtain⟨v,h1,h2⟩:=ar h β a w hi;have h2:v=.slice none 0 0:=h2;subst h2;exact⟨_,h1,r6⟩
def BO(l:List (List UInt8))(hlm:l.length≤1000000):Ct prog 111 [.tv (ag du) l] (.tv (ag du) l):=by refine Yk func111 ntmps111 fun w0 ok0=>?_;refine Y9 ?_;refine y4 3 Z (fun A cap hA=>?_);refine zJ (pi m1 (.b Z) (.b Z)) (zZ ?_);refine Z0 ?_ ?_<;>intro h1;have hl:l=[]:=hA (JQ.1 h1);refine Y7 ?_;exact cQ results111 (R8 Z) Z (by rw[hl]);skip;refine ak (aa (zR (zO (kC (rt:=du) (ds:=[]) m1 Md z9 Z .nil Z Z Z Z Z) (zM Z (zV [] m1 Md z9 by9 Z Z (.tv (.b Z)) ?_)))));refine Y4 ?_;refine e8 (rt:=du) 5 2 (bQ 5 _) Z Z Sp (a6 5 _) (bm 5 _) ?_;exact z1 results111 Z (congrArg (SV.tv (ag du)) Sp)
def nq(l:List aF)(hlm:l.length≤1000000):Ct prog 101 [.tv (ag aZ) l] (.tv (ag aZ) l):=by refine Yk func101 ntmps101 fun w0 ok0=>?_;refine Y9 ?_;refine y4 3 Z (fun A cap hA=>?_);refine zJ (pi cU (.b Z) (.b Z)) (zZ ?_);refine Z0 ?_ ?_<;>intro h1;have hl:l=[]:=hA (JQ.1 h1);refine Y7 ?_;exact cQ results101 (R8 Z) Z (by rw[hl]);skip;refine ak (aa (zR (zO (kC (rt:=aZ) (ds:=[]) cU bE eP Z .nil Z Z Z Z Z) (zM Z (zV [] cU bE eP mH Z Z (.tv (.b Z)) ?_)))));refine Y4 ?_;refine e8 (rt:=aZ) 5 2 (bQ 5 _) Z Z Sp (a6 5 _) (bm 5 _) ?_;exact z1 results101 Z (congrArg (SV.tv (ag aZ)) Sp)
def su(l:List dG)(hlm:l.length≤1000000):Ct prog 100 [.tv (ag dm) l] (.tv (ag dm) l):=by refine Yk func100 ntmps100 fun w0 ok0=>?_;refine Y9 ?_;refine y4 3 Z (fun A cap hA=>?_);refine zJ (pi gp (.b Z) (.b Z)) (zZ ?_);refine Z0 ?_ ?_<;>intro h1;have hl:l=[]:=hA (JQ.1 h1);refine Y7 ?_;exact cQ results100 (R8 Z) Z (by rw[hl]);skip;refine ak (aa (zR (zO (kC (rt:=dm) (ds:=[]) gp jM Qt Z .nil Z Z Z Z Z) (zM Z (zV [] gp jM Qt by92 Z Z (.tv (.b Z)) ?_)))));refine Y4 ?_;refine e8 (rt:=dm) 5 2 (bQ 5 _) Z Z Sp (a6 5 _) (bm 5 _) ?_;exact z1 results100 Z (congrArg (SV.tv (ag dm)) Sp)
def tbR(x:ba)(d date:Int):Ct prog 88 [.tv ct x,.eptr (ay .i64) d,.eptr (ay .i64) date] (.raw (.bool (fD d date x))):=by refine Yk func88 ntmps88 fun w0 ok0=>?_;refine J4 ?_;refine zG Z Z (fun hg=>an (Sk _ _) (.cons (.gd Z hg) (.cons (.gd Z hg) .nil)) Z Z) (Y5 ?_);exact z1 results88 rfl (rb aaz)
def aev(x:ba)(d date:Int):Ct prog 80 [.tv ct x,.eptr (ay .i64) d,.eptr (ay .i64) date] (.raw (.bool (fD d date x))):=by refine Yk func80 ntmps80 fun w0 ok0=>?_;refine J4 ?_;refine zG Z Z (fun hg=>an (Sk _ _) (.cons (.gd Z hg) (.cons (.gd Z hg) .nil)) Z Z) (Y5 ?_);exact z1 results80 rfl (rb aaz)
def aew(x:ba)(date:Int):Ct prog 224 [.tv ct x,.eptr (ay .i64) date] (.raw (.bool (fA date x))):=by refine Yk func224 ntmps224 fun w0 ok0=>?_;refine dy ?_;refine YK (Sk _ _) ?_;refine zY Z (aa (am ?_));exact z1 results224 rfl (rb (by first|rfl|(unfold fA;rfl)))
def pS(l:List ba)(f:ba→Bool)(hlm:l.length≤1000000):Ct prog 79 [.tv (ag ct) l,.tv (ov prog ct cq (fun _=>True)) f] (.tup2 (.tv (ag (ay .i64)) (iG f l l.length)) (.tv (ag (ay .i64)) (mO f l l.length))):=by
 refine Yk func79 ntmps79 fun w0 ok0=>?_;refine J4 ?_;refine zO (fM bT Sj z3 Z J7 (.b Z) (.b Z) zo Kw rfl rfl rfl) (zb ?_);refine jF 70 6 (ay .i64) Z Z Z ?_;refine jF 71 7 (ay .i64) Z Z Z ?_;refine bf (ι:=Nat) (fun k=>⟨[(1,.tv (ov prog ct cq (fun _=>True)) f),(6,.own 70 (ay .i64).n 0 (iG f l k).length),(7,.own 71 (ay .i64).n 0 (mO f l k).length),(8,.own 14 (ay .i64).n 0 l.length),(15,.tv (ag ct) l),(16,Sx l.length),(17,Sx ((k:Nat)))],[(70,⟨ay .i64,iG f l k⟩),(71,⟨ay .i64,mO f l k⟩),(14,⟨ay .i64,(AB (kZ f l k) l.length)⟩)]⟩) (fun k=>k≤l.length) (fun k=>l.length-k) 0 (P8 _) (fun a w hi=>(zI hi)) ?_;rintro k hk;have q1:=mA f l k;have q2:=yn f l k;have q3:=li f l k;have q4:=Bk f l k;have q5:=acO (near:=kZ f l k) (n:=l.length) zo;refine Z6 ?_ ?_<;>intro h4;simp at h4;have hka:=nX (f:=f) h4;have hpa:=pf h4;refine Z33 ?_ ?_<;>intro h7;have h7:0≤l[k].2.2.1∧l[k].2.2.1<(k:Int):=fQ;have ha:O1 f l k=(kZ f l k).getD l[k].2.2.1.toNat 0:=by unfold O1 Q4;rw[hpa,Cg h7]
 have hgt:=ty9 (near:=kZ f l k) (n:=l.length) (k:=l[k].2.2.1.toNat) zo;refine Y4 ?_;refine zJ (bk bT Sj (.b Z) (.b Z) (J1 h7.1).symm zh) (zJ (ah Sj (.b Z) Z hgt (Lens.id _)) (Y9 ?_));refine gV _ Z (bH Sj (.b Z) Z zg (Lens.id _) (.raw (.b Z) Z)) ?_;refine Y6 ?_;refine zJ (ml (.b Z) (.tv (.b Z)) trivial) (zZ ?_);refine Z0 ?_ ?_<;>intro h10;exact SJ;have h10:¬fa f l k=true:=by rw[hka,h10];simp
 have hf1:=Nl h10;have hf2:=LY h10;have hf3:=HL h10;rw[ha]at hf3;refine Y6 ?_;refine zQ [1,6,7,8,15,16,17] [14,70,71] ?_;exact S1;have h7:¬(0≤l[k].2.2.1∧l[k].2.2.1<(k:Int)):=by intro q;simp[q.1]at h7;omega
 have ha:O1 f l k = -1:=by unfold O1 Q4;rw[hpa,zE h7]
 refine Y8 ?_;refine gV _ Z (bH Sj (.b Z) Z zg (Lens.id _) (.raw (.b Z) Z)) ?_;refine Y6 ?_;refine zJ (ml (.b Z) (.tv (.b Z)) trivial) (zZ ?_);refine Z0 ?_ ?_<;>intro h10;exact SJ;have h10:¬fa f l k=true:=by rw[hka,h10];simp
 have hf1:=Nl h10;have hf2:=LY h10;have hf3:=HL h10;rw[ha]at hf3;refine Y7 ?_;exact S1;simp at h4;refine Y6 ?_;obtain rfl:k=l.length:=So;refine Y8 ?_;refine e8 (rt:=ay .i64) 70 4 (bQ 70 _) Z Z Sp (a6 70 _) (bm 70 _) ?_;refine e8 (rt:=ay .i64) 71 5 (bQ 71 _) Z Z Sp (a6 71 _) (bm 71 _) ?_;exact z2 results79 Z Z acZ
def aex(s:aL)(d date:Int)(hlm:s.2.2.2.2.length≤1000000):Ct prog 44 [.tv bw s,Sx d,Sx date] (.tv (ag (ay .i64)) (iG (fD d date) s.2.2.2.2 s.2.2.2.2.length)):=by refine Yk func44 ntmps44 fun w0 ok0=>?_;refine Y3 ?_;refine zJ (kX (rt:=ay .i64) (.raw (.b Z) Z)) (zJ (kX (rt:=ay .i64) (.raw (.b Z) Z)) (Y7 ?_));refine zJ (j7 (A:=ct) (B:=cq) (aS:=[.eptr (ay .i64) d,.eptr (ay .i64) date]) (φ:=fun _=>True) (fD d date) (cJ func88 Z zk) (fun x _=>tbR x d date) (.cons (.b Z) (.cons (.b Z) .nil)) Z) (zJ (an (pS _ _ zo) (.cons (.b Z) (.cons (.b Z) .nil)) Z Z) (Lc ?_));exact z1 results44 Z (Z)
def Ck(f:ba→Bool)(l:List ba)(n k:Nat):List Int:=((cI f l n).take k).map (fun i=>match l[i]? with|some r=>r.2.2.2.1|none=>0)
def aey{r:ba}(h:k<(cI f l n).length)(hr:l[(cI f l n)[k]]?=some r):Ck f l n (k+1)=Ck f l n k++[r.2.2.2.1]:=by unfold Ck;rw[px h,ll];simp[hr]
def abZ:(Ck f l n k).length≤k:=by unfold Ck;simp;omega
def priK_n(f:ba→Bool)(l:List ba)(n:Nat):Ck f l n (cI f l n).length=Ax f l n:=by unfold Ck Ax;rw[FR]<;>rfl
def EU(h:k<(cI f l n).length):(iG f l n)[k]?=some (((cI f l n)[k]:Nat):Int):=by unfold iG;simp[h]
def sj(h:k<(cI f l n).length){h':k<(iG f l n).length}:(iG f l n)[k]' h'=(((cI f l n)[k]:Nat):Int):=by have:=EU h;rw[RY h']at this;injection this
def jH(h:k<(cI f l n).length):(cI f l n)[k]<l.length:=Bp (n6.1 (aA h)).2
def AQ(s:aL)(d date:Int)(hlm:s.2.2.2.2.length≤100000):Ct prog 29 [.tv bw s,Sx d,Sx date] (.tup3 (.tv (ag (ay .i64)) (iG (fD d date) s.2.2.2.2 s.2.2.2.2.length)) (.tv (ag (ay .i64)) (mO (fD d date) s.2.2.2.2 s.2.2.2.2.length)) (.tv (ag (ay .i64)) (Ax (fD d date) s.2.2.2.2 s.2.2.2.2.length))):=by refine Yk func29 ntmps29 fun w0 ok0=>?_;refine Y3 ?_;refine zJ (kX (rt:=ay .i64) (.raw (.b Z) Z)) (zJ (kX (rt:=ay .i64) (.raw (.b Z) Z)) (Y9 ?_));refine zJ (j7 (A:=ct) (B:=cq) (aS:=[.eptr (ay .i64) d,.eptr (ay .i64) date]) (φ:=fun _=>True) (fD d date) (cJ func80 Z zk) (fun x _=>aev x d date) (.cons (.b Z) (.cons (.b Z) .nil)) Z) (zJ (an (pS _ _ zo) (.cons (.b Z) (.cons (.b Z) .nil)) Z Z) (Lc ?_));have q1:=mA (fD d date) s.2.2.2.2 s.2.2.2.2.length;have q2:=li (fD d date) s.2.2.2.2 s.2.2.2.2.length;refine Y7 ?_;refine jF 70 11 (ay .i64) Z Z Z ?_;refine bf (ι:=Nat) (fun k=>⟨[(3,Sy 3 bw),(9,.tv (ag (ay .i64)) (iG (fD d date) s.2.2.2.2 s.2.2.2.2.length)),(10,.tv (ag (ay .i64)) (mO (fD d date) s.2.2.2.2 s.2.2.2.2.length)),(11,.own 70 (ay .i64).n 0 (Ck (fD d date) s.2.2.2.2 s.2.2.2.2.length k).length),(21,.tv (ag (ay .i64)) (iG (fD d date) s.2.2.2.2 s.2.2.2.2.length)),(22,Sx ((iG (fD d date) s.2.2.2.2 s.2.2.2.2.length).length)),(23,Sx ((k:Nat)))],[(3,⟨bw,[s]⟩),(70,⟨ay .i64,(Ck (fD d date) s.2.2.2.2 s.2.2.2.2.length k)⟩)]⟩) (fun k=>k≤(cI (fD d date) s.2.2.2.2 s.2.2.2.2.length).length) (fun k=>(cI (fD d date) s.2.2.2.2 s.2.2.2.2.length).length-k) 0 (P8 _) (fun a w hi=>(zI hi)) ?_;rintro k hk;have q3:=abZ (f:=(fD d date)) (l:=s.2.2.2.2) (n:=s.2.2.2.2.length) (k:=k);refine Z6 ?_ ?_<;>intro h4;have h4:k<(cI (fD d date) s.2.2.2.2 s.2.2.2.2.length).length:=Kb;have g1:=EU h4;have g2:=jH h4;have hs:=aey h4 (RY g2);refine J4 ?_;refine bi _ Z _ Z Z (av fy dh (.b Z) (.b Z) (sj h4) zg) ?_;refine Y2 ?_;refine zJ (bP (rt:=(ay .i64)) bT Sj z3 Z (.cons (.raw (.b Z) Z) .nil) Z Z) (zV [3,9,10,21,22,23] bT Sj z3 J7 Z Z (.tv (.b Z)) ?_);exact Xh;simp at h4;refine Y6 ?_;obtain rfl:k=(cI (fD d date) s.2.2.2.2 s.2.2.2.2.length).length:=So;rw[priK_n];refine Qh ?_;refine e8 (rt:=ay .i64) 70 8 (bQ 70 _) Z Z Sp (a6 70 _) (bm 70 _) ?_;exact db results29 (ar Z) (ar Z) (ar Z) ⟨Z,Z,Z⟩ acZ
abbrev ixS(s:aL)(d t:Int):=cI (fD d t) s.2.2.2.2 s.2.2.2.2.length
def rz(l:List dG):List ce:=l.map (fun f=>f.2)
def Rw{β:Type}(f:α→β){l:List α}(h:k<l.length):(l.take (k+1)).map f=(l.take k).map f++[f l[k]]:=by exact Xd
def Rx{β:Type}(f:α→β)(l:List α)(k:Nat):((l.take k).map f).length≤l.length:=QE
def wW(l:bZ)(s:aL):Option aL:=if 0≤s.2.1 then l.2.2[s.2.1.toNat]? else none
def Cr(l:bZ)(s:aL):List ce:=match wW l s with|some m=>rz m.2.2.2.1|none=>[]
def tz(l:bZ)(s:aL):bG:=(l.1,l.2.1,rz s.2.2.1,rz s.2.2.2.1,Cr l s,(wW l s).isSome)
def F6{l:bZ}(h:0≤s.2.1∧s.2.1<l.2.2.length):wW l s=some (l.2.2[s.2.1.toNat]'zo):=by unfold wW;rw[Cg h.1,RY]
def Cs{l:bZ}(h:¬(0≤s.2.1∧s.2.1<l.2.2.length)):wW l s=none:=by unfold wW;split;rw[jp];omega;rfl
def CW(l:List dG)(hl:l.length≤1000000):Ct prog 110 [.tv (ag dm) l] (.tv (ag bt) (rz l)):=by
 refine Yk func110 ntmps110 fun w0 ok0=>?_;refine E0 ?_;refine jF 70 3 bt Z Z Z ?_;refine bf (ι:=Nat) (fun k=>⟨[(3,.own 70 bt.n 0 ((l.take k).map (fun f:dG=>f.2)).length),(6,.tv (ag dm) l),(7,Sx l.length),(8,Sx ((k:Nat)))],[(70,⟨bt,((l.take k).map (fun f:dG=>f.2))⟩)]⟩) (fun k=>k≤l.length) (fun k=>l.length-k) 0 (P8 _) (fun a w hi=>(zI hi)) ?_;rintro k hk;have hal:=Rx (fun f:dG=>f.2) l k;refine Z6 ?_ ?_<;>intro h3;have h3:k<l.length:=Av;have hs:=Rw (fun f:dG=>f.2) h3;refine J4 ?_;refine zJ (bP (rt:=bt) dI aQ JI Z (.cons (.tv (.b Z)) .nil) Z Z) (zV [6,7,8] dI aQ JI QW Z Z (.tv (.b Z)) ?_);exact Xg;simp at h3;obtain rfl:k=l.length:=So;refine zb ?_;rw[FR]at *
 refine e8 (rt:=bt) 70 2 (bQ 70 _) Z Z Sp (a6 70 _) (bm 70 _) ?_;exact z1 results110 Z (congrArg (SV.tv (ag bt)) aaD)
def nr(l:List dN)(hl:l.length≤1000000)(hE:∀e∈l,e.2.length≤1000000):Ct prog 67 [.tv (ag dl) l] (.tv (ag dl) (l)):=by
 refine Yk func67 ntmps67 fun w0 ok0=>?_;refine E0 ?_;refine jF 70 3 dl Z Z Z ?_;refine bf (ι:=Nat) (fun k=>⟨[(3,.own 70 dl.n 0 ((l.take k).map (fun e:dN=>e)).length),(6,.tv (ag dl) l),(7,Sx l.length),(8,Sx ((k:Nat)))],[(70,⟨dl,((l.take k).map (fun e:dN=>e))⟩)]⟩) (fun k=>k≤l.length) (fun k=>l.length-k) 0 (P8 _) (fun a w hi=>(zI hi)) ?_;rintro k hk;have hal:=Rx (fun e:dN=>e) l k;refine Z6 ?_ ?_<;>intro h3;have h3:k<l.length:=Av;have hs:=Rw (fun e:dN=>e) h3;have hcl:=hE _ (aA h3);refine zb ?_;refine n5 8 mo zk zk (zS (ai (.b Z)) (zS (aj rC (.b Z)) (zS (ah Md (.b Z) Z Z r8) (zS (aj iC (.b Z)) (zS (ah o9 (.b Z) Z Z jk) (zS (an (BO _ hcl) (.cons (.b Z) .nil) Z Z) (zS (aC Dn Z pl156 (.cons (rt':=du) Z r8 (.raw (.b Z) Z) (.cons (rt':=(ag du)) Z jk (.tv (.b Z)) .nil))) (zS (bP (rt:=dl) mc iR Dn Z (.cons (.tv (.b Z)) .nil) Z Z) (AS.nil))))))))) Z Z (bX [6,7,8] mc iR Dn Z RV (.b Z) Z PJ (.tv (.b rfl)) Fj PJ rfl (.cons rfl (.cons rfl (.cons rfl .nil))) rfl) (zS (a8 (.b rfl)) (AS.nil)) ?_;refine Y6 ?_;exact aaJ;simp at h3;obtain rfl:k=l.length:=So;refine zb ?_;rw[FR]at *
 refine e8 (rt:=dl) 70 2 (bQ 70 _) Z Z Sp (a6 70 _) (bm 70 _) ?_;exact z1 results67 Z (congrArg (SV.tv (ag dl)) (by rw[Pv,FR];simp))
def acH(l:bZ)(i:Nat)(hi:i<l.2.2.length)(hS:∀s∈l.2.2,s.2.2.1.length≤1000000∧s.2.2.2.1.length≤1000000):Ct prog 66 [.tv bl l,Sx (i:Nat)] (.tv dg (tz l l.2.2[i])):=by refine Yk func66 ntmps66 fun w0 ok0=>?_;have hsi:=hS _ (aA hi);refine Ki ?_;refine je (Y6 ?_);refine ca (an (CW _ zo) (.cons (.b Z) .nil) Z Z) (Y2 ?_);refine ca (an (CW _ zo) (.cons (.b Z) .nil) Z Z) (ca (aC z86 Z pl86 (.cons (rt':=(ag dl)) Z ql (.tv (.b Z)) (.cons (rt':=(ag b9)) Z tI (.tv (.b Z)) (.cons (rt':=(ag bt)) Z Mw (.tv (.b Z)) (.cons (rt':=(ag bt)) Z Mv (.tv (.b Z)) .nil))))) (Y3 ?_));refine O0 ?_ ?_<;>intro h3;have h3:0≤l.2.2[i].2.1∧l.2.2[i].2.1<l.2.2.length:=Av;have hmm:=hS _ (aA (show l.2.2[i].2.1.toNat<l.2.2.length by omega));refine Y6 ?_;refine bi _ Z _ Z Z (av ga dO (.b Z) (.b Z) (J1 h3.1).symm zg) ?_;refine Y2 ?_;refine zJ (an (CW _ zo) (.cons (.b Z) .nil) Z Z) (J4 ?_);exact V9;have h3:¬(0≤l.2.2[i].2.1∧l.2.2[i].2.1<l.2.2.length):=Av;refine Y9 ?_;exact V9
noncomputable def dB (p:Prop):Bool:=@decide p (Classical.propDecidable p)
def we{p:Prop}:dB p=true↔p:=by unfold dB;exact @decide_eq_true_iff p (Classical.propDecidable p)
def QN{p:Prop}(h:p):dB p=true:=we.2 h
def Aa{p:Prop}(h:¬p):dB p=false:=by rw[Bool.eq_false_iff];exact fun q=>h (we.1 q)
def SmE(e:dN):Prop:=e.1.length≤80∧e.2.length≤20∧∀m∈e.2,m.length≤80
def SmR(r:ba):Prop:=r.1.length≤80∧r.2.2.2.2.2.2.2.length≤80∧r.2.2.2.2.2.1.length≤50∧r.2.2.2.2.2.2.1.length≤50
def IJ(f:dG):Prop:=f.1.length≤80
def SmS(s:aL):Prop:=(s.1.length≤80∧s.2.2.1.length≤14∧s.2.2.2.1.length≤14∧s.2.2.2.2.length≤60)∧(∀f∈s.2.2.1,IJ f)∧(∀f∈s.2.2.2.1,IJ f)∧∀r∈s.2.2.2.2,SmR r
def SmT(t:bS):Prop:=t.1.length≤80
def vF(ts:List bS):Nat:=(ts.map (fun t=>t.2.2.2.length)).sum
def wV(ts:List aL):Nat:=(ts.map (fun t=>t.2.2.2.2.length)).sum
def WL(l:bZ):Prop:=(∀t∈l.2.1,t.2.2.2.length≤140737488351232)∧∀s∈l.2.2,s.2.2.2.2.length≤140737488351232
def SmL(l:bZ):Prop:=(l.1.length≤9∧l.2.1.length≤9∧l.2.2.length≤5)∧(∀e∈l.1,SmE e)∧((∀t∈l.2.1,SmT t)∧vF l.2.1≤150)∧(∀s∈l.2.2,SmS s)∧wV l.2.2≤60
def vu(xs:List α):∀x∈xs.take 0,P x:=Sp
def lu(h:k<xs.length)(h1:∀x∈xs.take k,P x)(h2:P xs[k]):∀x∈xs.take (k+1),P x:=by intro x hx;rw[px h,Nx,J0]at hx;rcases hx with hx|rfl;exact h1 x hx;exact h2
def nh(h:xs.length≤k)(h1:∀x∈xs.take k,P x):∀x∈xs,P x:=by rw[fV h]at h1;exact h1
def AR(h:k<ts.length):vF (ts.take (k+1))=vF (ts.take k)+ts[k].2.2.2.length:=by unfold vF;rw[px h,ll,List.sum_append];simp
def Ha(ts:List bS)(k:Nat):vF (ts.take k)≤vF ts:=by unfold vF;have:=congrArg (fun x=>(x.map (fun t:bS=>t.2.2.2.length)).sum) (N4 k ts);simp only[ll,List.sum_append]at this;omega
def adg{ts:List aL}(h:k<ts.length):wV (ts.take (k+1))=wV (ts.take k)+ts[k].2.2.2.2.length:=by unfold wV;rw[px h,ll,List.sum_append];simp
def adi(ts:List aL)(k:Nat):wV (ts.take k)≤wV ts:=by unfold wV;have:=congrArg (fun x=>(x.map (fun t:aL=>t.2.2.2.2.length)).sum) (N4 k ts);simp only[ll,List.sum_append]at this;omega
def Z12(s:aL):Ct prog 64 [.tv bw s] (.raw (.bool (dB (SmS s)))):=by refine Yk func64 ntmps64 fun w0 ok0=>?_;refine dy ?_;refine zJ (fI Qf (.b Z)) (rZ ?_ ?_)<;>intro h1;have h1:¬(s.1.length≤80∧s.2.2.1.length≤14∧s.2.2.2.1.length≤14∧s.2.2.2.2.length≤60):=CY;refine Y7 ?_;exact z1 results64 Z (rb ((Aa (fun q=>h1 q.1)).symm));have h1:s.1.length≤80∧s.2.2.1.length≤14∧s.2.2.2.1.length≤14∧s.2.2.2.2.length≤60:=CY;refine Y9 ?_;refine bf (ι:=Nat) (fun k=>⟨[(1,Sy 1 bw),(3,Sx ((k:Nat)))],[(1,⟨bw,[s]⟩)]⟩) (fun k=>k≤s.2.2.1.length∧∀x∈s.2.2.1.take k,IJ x) (fun k=>s.2.2.1.length-k) 0 (⟨P8 _,vu _⟩) (fun a w hi=>(zI hi)) ?_;rintro k ⟨hk,hp⟩;refine wz ?_ ?_<;>intro h4;simp at h4;refine zb ?_;refine zJ (fI Qf (.b Z)) (Z3 ?_ ?_)<;>intro h6;have h6:¬IJ s.2.2.1[k]:=ZF;refine Y8 ?_;refine b8 (ax (al ?_));exact z1 results64 Z (rb ((Aa (fun q=>h6 (q.2.1 _ (aA h4)))).symm));have h6:IJ s.2.2.1[k]:=ZF;exact W0;simp at h4;have e1:=nh zo hp;refine zb ?_;refine bf (ι:=Nat) (fun k=>⟨[(1,Sy 1 bw),(4,Sx ((k:Nat)))],[(1,⟨bw,[s]⟩)]⟩) (fun k=>k≤s.2.2.2.1.length∧∀x∈s.2.2.2.1.take k,IJ x) (fun k=>s.2.2.2.1.length-k) 0 (⟨P8 _,vu _⟩) (fun a w hi=>(zI hi)) ?_;rintro k ⟨hk,hp⟩;refine wz ?_ ?_<;>intro h9;simp at h9;refine zb ?_;refine zJ (fI Qf (.b Z)) (Z3 ?_ ?_)<;>intro h11;have h11:¬IJ s.2.2.2.1[k]:=ZD;refine Y8 ?_;refine b8 (ax (al ?_));exact z1 results64 Z (rb ((Aa (fun q=>h11 (q.2.2.1 _ (aA h9)))).symm));have h11:IJ s.2.2.2.1[k]:=ZD;refine Y8 ?_;exact aE (fun a w hi=>⟨k+1,zj,(⟨So,lu h9 hp h11⟩),(zI hi)⟩);simp at h9;have e2:=nh zo hp;refine zb ?_;refine bf (ι:=Nat) (fun k=>⟨[(1,Sy 1 bw),(5,Sx ((k:Nat)))],[(1,⟨bw,[s]⟩)]⟩) (fun k=>k≤s.2.2.2.2.length∧∀x∈s.2.2.2.2.take k,SmR x) (fun k=>s.2.2.2.2.length-k) 0 (⟨P8 _,vu _⟩) (fun a w hi=>(zI hi)) ?_;rintro k ⟨hk,hp⟩;refine wz ?_ ?_<;>intro h14;simp at h14;refine MY ?_;refine zQ [1,5,6] [1,6] (aa (zR ?_));refine Y2 ?_;refine zJ (fI Qf (.b Z)) (Y4 ?_);refine zG Z Z (fun hg=>fI Qf (.gd Z hg)) (PI ?_ ?_)<;>intro h17;have h17:¬SmR s.2.2.2.2[k]:=ZB;refine Y8 ?_;refine b8 (ax (al ?_));exact z1 results64 Z (rb ((Aa (fun q=>h17 (q.2.2.2 _ (aA h14)))).symm));have h17:SmR s.2.2.2.2[k]:=ZB;refine Y8 ?_;exact aE (fun a w hi=>⟨k+1,zj,(⟨So,lu h14 hp h17⟩),(zI hi)⟩);simp at h14;have e3:=nh zo hp;refine dy ?_;exact z1 results64 Z (rb ((QN (⟨h1,e1,e2,e3⟩)).symm))
def Yl3f(l:bZ)(hw:WL l):Ct prog 19 [.tv bl l] (.raw (.bool (dB (SmL l)))):=by
 refine Yk func19 ntmps19 fun w0 ok0=>?_;refine Z27 ?_ ?_<;>intro h1;have h1:¬(l.1.length≤9∧l.2.1.length≤9∧l.2.2.length≤5):=CY;refine Y7 ?_;exact z1 results19 Z (rb ((Aa (fun q=>h1 q.1)).symm));have h1:l.1.length≤9∧l.2.1.length≤9∧l.2.2.length≤5:=CY;refine E0 ?_;refine bf (ι:=Nat) (fun k=>⟨[(1,Sy 1 bl),(3,Sx 0),(4,Sx 0),(5,Sx ((k:Nat)))],[(1,⟨bl,[l]⟩)]⟩) (fun k=>k≤l.1.length∧∀x∈l.1.take k,SmE x) (fun k=>l.1.length-k) 0 (⟨P8 _,vu _⟩) (fun a w hi=>(zI hi)) ?_;rintro k ⟨hk,hp⟩;refine wz ?_ ?_<;>intro h6;simp at h6;refine MY ?_;refine zJ (fI Qf (.b Z)) (Y5 ?_);refine zG rfl rfl (fun hg=>av mc iR (.gd rfl hg) (.gd rfl hg) rfl (getD_some (z:=(([],[]):dN)) YS)) (Z7 ?_ ?_)<;>intro h8;have h8:¬((l.1[k]'h6).1.length≤80∧(l.1[k]'h6).2.length≤20):=aaq;refine Y9 ?_;refine b8 (ax (al ?_));exact z1 results19 Z (rb ((Aa (fun q=>h8 ⟨(q.2.1 _ (aA h6)).1,(q.2.1 _ (aA h6)).2.1⟩)).symm));have h8:(l.1[k]'h6).1.length≤80∧(l.1[k]'h6).2.length≤20:=aaq;refine Y8 ?_;refine bf (ι:=Nat) (fun j=>⟨[(1,Sy 1 bl),(3,Sx 0),(4,Sx 0),(5,Sx ((k:Nat))),(6,Sx ((j:Nat)))],[(1,⟨bl,[l]⟩)]⟩) (fun j=>j≤(l.1[k]'h6).2.length∧∀x∈(l.1[k]'h6).2.take j,x.length≤80) (fun j=>(l.1[k]'h6).2.length-j) 0 (⟨P8 _,vu _⟩) (fun a w hi=>(zI hi)) ?_;rintro j ⟨hj,hq⟩;refine Po ?_ ?_<;>intro h11;have h11:j<(l.1[k]'h6).2.length:=aas;refine Lc ?_;refine zD Md Z (zJ (fI Qf (.b Z)) (Z3 ?_ ?_))<;>intro h13;have h13:¬((l.1[k]'h6).2[j]).length≤80:=abA;refine Y8 ?_;refine b8 (ax (ax (al (b8 (ax (al ?_))))));exact z1 results19 Z (rb ((Aa (fun q=>h13 ((q.2.1 _ (aA h6)).2.2 _ (aA h11)))).symm));have h13:((l.1[k]'h6).2[j]).length≤80:=abA;refine Y8 ?_;exact aE (fun a w hi=>⟨j+1,zj,(⟨So,lu h11 hq h13⟩),(zI hi)⟩);have h11:¬j<(l.1[k]'h6).2.length:=aas;have e0:=nh zo hq;refine dy ?_;exact aE (fun a w hi=>⟨k+1,zj,(⟨So,lu h6 hp ⟨h8.1,h8.2,e0⟩⟩),(zI hi)⟩);simp at h6;have e1:=nh zo hp;refine Y9 ?_;refine zQ [1,3,4,7] [1] (aa (az ?_));refine bf (ι:=Nat) (fun k=>⟨[(1,Sy 1 bl),(3,Sx (vF (l.2.1.take k))),(4,Sx 0),(7,Sx ((k:Nat)))],[(1,⟨bl,[l]⟩)]⟩) (fun k=>k≤l.2.1.length∧(∀x∈l.2.1.take k,SmT x)∧vF (l.2.1.take k)≤150) (fun k=>l.2.1.length-k) 0 (⟨P8 _,⟨vu _,by simp[vF]⟩⟩) (fun a w hi=>(zI hi)) ?_;rintro k ⟨hk,hp⟩;have hmx:∀t∈l.2.1,t.2.2.2.length≤9223372036854775000∨True:=fun _ _=>.inr trivial;refine wz ?_ ?_<;>intro h16;simp at h16;have hst:=AR h16;have hwk:=hw.1 _ (aA h16);refine Y26 ?_;refine zJ (fI Qf (.b Z)) (Z7 ?_ ?_)<;>intro h19;have h19:¬((l.2.1[k]).1.length≤80∧vF (l.2.1.take k)+(l.2.1[k]).2.2.2.length≤150):=aae;refine Y8 ?_;refine b8 (ax (al ?_));exact z1 results19 Z (rb ((Aa (fun q=>h19 ⟨q.2.2.1.1 _ (aA h16),by have:=Ha l.2.1 (k+1);rw[hst]at this;have:=q.2.2.1.2;omega⟩)).symm));have h19:(l.2.1[k]).1.length≤80∧vF (l.2.1.take k)+(l.2.1[k]).2.2.2.length≤150:=aae;refine Y8 ?_;exact aE (fun a w hi=>⟨k+1,zo,⟨So,lu h16 hp.1 h19.1,by rw[hst];exact h19.2⟩,Sub.inv ⟨Yi,YW⟩ hi⟩);simp at h16;have e2:=nh zo hp.1;have e3:=hp.2;rw[fV zo]at e3;refine zb ?_;refine bf (ι:=Nat) (fun k=>⟨[(1,Sy 1 bl),(4,Sx (wV (l.2.2.take k))),(8,Sx ((k:Nat)))],[(1,⟨bl,[l]⟩)]⟩) (fun k=>k≤l.2.2.length∧(∀x∈l.2.2.take k,SmS x)∧wV (l.2.2.take k)≤60) (fun k=>l.2.2.length-k) 0 (⟨P8 _,⟨vu _,by simp[wV]⟩⟩) (fun a w hi=>(zI hi)) ?_;rintro k ⟨hk,hp⟩;refine wz ?_ ?_<;>intro h22;simp at h22;have hst:=adg h22;have hwk:=hw.2 _ (aA h22);refine Y26 ?_;refine zG rfl rfl (fun hg=>av ga dO (.gd rfl hg) (.gd rfl hg) rfl (getD_some (z:=(([],(0,([],([],[])))):aL)) YS)) (Y1 ?_);refine zG Z Z (fun hg=>an (Z12 _) (.cons (.gd Z hg) .nil) Z Z) (Z4 ?_ ?_)<;>intro h25;have h25:¬(wV (l.2.2.take k)+(l.2.2[k]).2.2.2.2.length≤60∧SmS (l.2.2[k])):=by intro q;have:=QN q.2;simp[RY h22,this]at h25;omega
 refine Y8 ?_;refine b8 (ax (al ?_));exact z1 results19 Z (rb ((Aa (fun q=>h25 ⟨by have:=adi l.2.2 (k+1);rw[hst]at this;have:=q.2.2.2.2;omega,q.2.2.2.1 _ (aA h22)⟩)).symm));have h25:wV (l.2.2.take k)+(l.2.2[k]).2.2.2.2.length≤60∧SmS (l.2.2[k]):=by simp[RY h22]at h25;exact⟨So,we.1 h25.2⟩
 refine Y8 ?_;exact aE (fun a w hi=>⟨k+1,zo,⟨So,lu h22 hp.1 h25.2,by rw[hst];exact h25.1⟩,Sub.inv ⟨Yi,YW⟩ hi⟩);simp at h22;have e4:=nh zo hp.1;have e5:=hp.2;rw[fV zo]at e5;refine dy ?_;exact z1 results19 Z (rb ((QN (⟨h1,e1,⟨e2,e3⟩,e4,e5⟩)).symm))
def DF{t:bS}(h:t∈ts):t.2.2.2.length≤vF ts:=by obtain⟨i,hi,rfl⟩:=LW h;have h1:=Ha ts (i+1);rw[AR hi]at h1;omega
def WfE(e:dN):Prop:=e.1.length≤9223372036854775807∧e.2.length≤1000000∧∀m∈e.2,m.length≤9223372036854775807
def WfR(r:ba):Prop:=r.1.length≤9223372036854775807∧r.2.2.2.2.2.2.2.length≤9223372036854775807
def WfF(f:dG):Prop:=f.1.length≤9223372036854775807
def WfS(s:aL):Prop:=(s.1.length≤9223372036854775807∧s.2.2.1.length≤14∧s.2.2.2.1.length≤14∧s.2.2.2.2.length≤100)∧(∀f∈s.2.2.1,WfF f)∧(∀f∈s.2.2.2.1,WfF f)∧∀r∈s.2.2.2.2,WfR r
def WfT(t:bS):Prop:=t.1.length≤9223372036854775807
def FX(l:bZ):Prop:=(l.1.length≤1000000∧l.2.1.length≤1000000∧l.2.2.length≤1000000)∧(∀e∈l.1,WfE e)∧(∀t∈l.2.1,WfT t∧t.2.2.2.length≤1000)∧∀s∈l.2.2,WfS s
def SmL.wf{l:bZ}(h:SmL l):FX l:=by obtain⟨⟨h1,h2,h3⟩,hE,⟨hT,hT2⟩,hS,_⟩:=h;refine⟨⟨So,So,So⟩,fun e he=>?_,fun t ht=>⟨?_,?_⟩,fun s hs=>?_⟩;have:=hE e he;exact⟨abu,abi,fun m hm=>by have:=this.2.2 m hm;omega⟩;have:t.1.length≤80:=hT t ht;show t.1.length≤_;omega;have:=DF ht;omega;obtain⟨⟨q1,q2,q3,q4⟩,k1,k2,k3⟩:=hS s hs;refine⟨⟨So,q2,q3,So⟩,fun f hf=>?_,fun f hf=>?_,fun r hr=>?_⟩;have:f.1.length≤80:=k1 f hf;show f.1.length≤_;omega;have:f.1.length≤80:=k2 f hf;show f.1.length≤_;omega;have:=k3 r hr;exact⟨abu,abi⟩
def qu(n:Nat)(p:Nat→Bool):Option Nat:=(List.range n).find? p
def jK(h:k<n)(hp:p k=true)(hl:∀j,j<k→p j=false):qu n p=some k:=by unfold qu;rw[List.find?_range_eq_some];exact⟨hp,PW,fun j hj=>by rw[hl j hj];rfl⟩
def mU(hl:∀j,j<n→p j=false):qu n p=none:=by unfold qu;rw[List.find?_range_eq_none];intro j hj;rw[hl j hj];rfl
def oH(h:qu n p=none):∀j,j<n→p j=false:=by unfold qu at h;rw[List.find?_range_eq_none]at h;intro j hj;have:=h j hj;simpa using this
def n9(hl:∀j,j<k→p j=false)(h:p k=false):∀j,j<k+1→p j=false:=fun j hj=>by by_cases e:j=k;subst e;exact h;exact hl j zo
def De(ms:List (List UInt8))(i:Nat):Int:=if(!CM (ms[i]?.getD []))=true then 2 else if(ms.take i).any (fun y=>decide (ms[i]?.getD []=y))=true then 7 else 0
def tZ(l:List dN)(k:Nat)(e:dN):Int×Int:=
 if(!CM e.1)=true then(2,0)else if Qn (l.take k) e.1=true then(7,0)else if e.2.length=0 then(5,0)else if 16<e.2.length then(4,116)else
 match qu e.2.length (fun i=>De e.2 i != 0)with
 | some i=>(De e.2 i,100+(i:Int))
 | none=>(0,0)
def rdf(l:bZ)(k:Nat)(e:dN)(hsm:WfE e)(hk:k≤l.1.length)(hl:l.1.length≤1000000):Ct prog 93 [.tv bl l,Sx (k:Nat),.tv dl e] (.tup2 (.raw (.int .i64 (tZ l.1 k e).1)) (.raw (.int .i64 (tZ l.1 k e).2))):=by
 refine Yk func93 ntmps93 fun w0 ok0=>?_;have hsm1:=hsm.1;refine Lc ?_;refine zJ (an (By _ zo) (.cons (.b Z) .nil) Z Z) (Z4 ?_ ?_)<;>intro h1;skip;refine Y9 ?_;exact z2 results93 Z Z (by unfold tZ;rw[Cg h1]);skip;refine ac ?_;refine Y4 ?_;refine GP (iS mc iR (.b Z) Z ⟨_,_,(.b Z),Z⟩ zo zo) (Y2 ?_);refine GP (an (CR _ _) (.cons (.b Z) (.cons (.b Z) .nil)) Z Z) (Y2 ?_);refine aa ?_;refine Z0 ?_ ?_<;>intro h3;rw[Pv]at h3;refine Y9 ?_;exact z2 results93 Z Z (by unfold tZ;rw[zE M5,Cg h3]);rw[Pv]at h3;refine Z9 ?_ ?_<;>intro h5;have h5:e.2.length=0:=by simp at h5;simp[h5]
 refine Y9 ?_;exact z2 results93 Z Z (by unfold tZ;rw[zE M5,zE Oy,Cg h5]);have h5:¬e.2.length=0:=by simp at h5;simp[h5]
 refine Z9 ?_ ?_<;>intro h7;have h7:16<e.2.length:=Od;refine Y9 ?_;exact z2 results93 Z Z (by unfold tZ;rw[zE M5,zE Oy,zE h5,Cg h7]);have h7:¬16<e.2.length:=Od;refine MY ?_;refine bf (ι:=Nat) (fun i=>⟨[(5,Sy 5 dl),(34,.tv (ag du) e.2),(35,Sx e.2.length),(36,Sx ((i:Nat)))],[(5,⟨dl,[e]⟩)]⟩) (fun i=>i≤e.2.length∧∀j,j<i→(De e.2 j != 0)=false) (fun i=>e.2.length-i) 0 (⟨P8 _,fun j hj=>So⟩) (fun a w hi=>(zI hi)) ?_;rintro i ⟨hi0,hno⟩;refine Z6 ?_ ?_<;>intro h10;have h10:i<e.2.length:=Qk;have hsi:=hsm.2.2 _ (aA h10);have hgi:e.2[i]?.getD []=e.2[i]:=by rw[RY h10];rfl
 refine pA ?_;refine zJ (an (By _ zo) (.cons (.b Z) .nil) Z Z) (Z3 ?_ ?_)<;>intro h12;have hb:De e.2 i=2:=by unfold De;rw[hgi,Cg h12]
 refine zb ?_;refine b8 (ax (al ?_));exact VR;skip;refine Y7 ?_;refine zJ (iS m1 Md (.b Z) Z ⟨_,_,(.b Z),Z⟩ zo zo) (zM Z (YK (Y18 _ _) ?_));refine zZ ?_;refine Z0 ?_ ?_<;>intro h14;rw[Pv]at h14;have hb:De e.2 i=7:=by unfold De;rw[hgi,zE Oz,Cg h14]
 refine Y6 ?_;refine zQ [6,7] [] (aa (am (ax (al (b8 (ax (al ?_)))))));exact VR;rw[Pv]at h14;have hb:De e.2 i=0:=by unfold De;rw[hgi,zE Oz,zE (by rw[h14];decide)]
 refine Y7 ?_;exact aE (fun a w hi=>⟨i+1,zj,(⟨So,n9 hno (by rw[hb];rfl)⟩),(zI hi)⟩);have h10:i=e.2.length:=Re;refine zb ?_;exact z2 results93 Z Z (by unfold tZ;rw[zE M5,zE Oy,zE h5,zE h7,mU (by rw[←h10];exact hno)])
def wR(l:List dN):Int×Int×Int×Int:=if 8<l.length then(4,1,8,0)else
 match qu l.length (fun i=>(tZ l i (l[i]?.getD ([],[]))).1 != 0)with
 | some i=>((tZ l i (l[i]?.getD ([],[]))).1,1,(i:Int),(tZ l i (l[i]?.getD ([],[]))).2)
 | none=>(0,0,0,0)
def upM(l:bZ)(hsm:∀e∈l.1,WfE e)(hl:l.1.length≤1000000):Ct prog 50 [.tv bl l] (.tv cm (wR l.1)):=by refine Yk func50 ntmps50 fun w0 ok0=>?_;refine Ks ?_ ?_<;>intro h1;have h1:8<l.1.length:=CY;refine zR (zJ (aC Jn Z Az (.cons (rt':=(ay .i64)) Z gY (.raw (.b Z) Z) (.cons (rt':=(ay .i64)) Z vW (.raw (.b Z) Z) (.cons (rt':=(ay .i64)) Z vV (.raw (.b Z) Z) .nil)))) (Y5 ?_));exact cQ results50 (aq hO Z Z Z (Lens.id cm)) Z (congrArg (SV.tv cm) (by unfold wR;rw[Cg h1]));have h1:¬8<l.1.length:=CY;refine zb ?_;refine bf (ι:=Nat) (fun k=>⟨[(1,Sy 1 bl),(2,Sy 2 cm),(13,.tv (ag dl) l.1),(14,Sx l.1.length),(15,Sx ((k:Nat)))],[(1,⟨bl,[l]⟩),(2,⟨cm,[(0,0,0,0)]⟩)]⟩) (fun k=>k≤l.1.length∧∀j,j<k→((tZ l.1 j (l.1[j]?.getD ([],[]))).1 != 0)=false) (fun k=>l.1.length-k) 0 (⟨P8 _,fun j hj=>So⟩) (fun a w hi=>(zI hi)) ?_;rintro k ⟨hk,hno⟩;refine Z6 ?_ ?_<;>intro h4;have h4:k<l.1.length:=Yo;have hse:=hsm _ (aA h4);have hge:l.1[k]?.getD ([],[])=l.1[k]:=aaI;refine E0 ?_;refine zJ (an (rdf _ _ _ hse zo hl) (.cons (.b Z) (.cons (.b Z) (.cons (.b Z) .nil))) Z Z) (sm ?_ ?_)<;>intro h7;have h7:¬(tZ l.1 k l.1[k]).1=0:=fQ;refine Y5 ?_;refine zJ (aC Jn Z Az (.cons (rt':=(ay .i64)) Z gY (.raw (.b Z) Z) (.cons (rt':=(ay .i64)) Z vW (.raw (.b Z) Z) (.cons (rt':=(ay .i64)) Z vV (.raw (.b Z) Z) (.cons (rt':=(ay .i64)) Z Gc (.raw (.b Z) Z) .nil))))) (Y6 ?_);refine b8 (ax (al ?_));exact cQ results50 (aq hO Z Z Z (Lens.id cm)) Z (congrArg (SV.tv cm) (by unfold wR;rw[zE h1,jK h4 (by rw[hge];simpa using h7) hno];simp only[hge]));have h7:(tZ l.1 k l.1[k]).1=0:=fQ;exact WF;have h4:k=l.1.length:=Kb;refine Y7 ?_;refine zJ (aC Jn Z Az .nil) (Y4 ?_);exact cQ results50 (aq hO Z Z Z (Lens.id cm)) Z (congrArg (SV.tv cm) (by unfold wR;rw[zE h1,mU aby]))
def wY(rs:List ba)(k:Nat)(d:Int):Nat:=((rs.take k).filter (fun o=>decide (o.2.1=d))).length
def cntD_t{d:Int}(h:k<rs.length)(e:rs[k].2.1=d):wY rs (k+1) d=wY rs k d+1:=by exact WQ
def cntD_f{d:Int}(h:k<rs.length)(e:¬rs[k].2.1=d):wY rs (k+1) d=wY rs k d:=by exact WQ
def ovL(rs:List ba)(k:Nat)(d:Int):wY rs k d≤k:=by unfold wY;exact wb (FQ _ _) QE
def YB:ba:=([],0,0,0,(0,0),[],[],[])
def PV:dG:=([],(0,0))
def nf(s:aL)(k:Nat)(sg:bG):Int:=
 if(!CM (s.2.2.2.2[k]?.getD YB).1)=true then 2 else
 if(s.2.2.2.2.take k).any (fun x=>decide (x.1=(s.2.2.2.2[k]?.getD YB).1))=true then 7 else
 if(s.2.2.2.2[k]?.getD YB).2.1<0∨(s.2.2.2.1.length:Int)≤(s.2.2.2.2[k]?.getD YB).2.1 then 6 else
 if(s.2.2.2.2[k]?.getD YB).2.2.1≠-1∧((s.2.2.2.2[k]?.getD YB).2.2.1<0∨(k:Int)≤(s.2.2.2.2[k]?.getD YB).2.2.1∨(s.2.2.2.2[(s.2.2.2.2[k]?.getD YB).2.2.1.toNat]?.getD YB).2.1≠(s.2.2.2.2[k]?.getD YB).2.1)then 9 else
 if(s.2.2.2.2[k]?.getD YB).2.2.2.1<0∨9<(s.2.2.2.2[k]?.getD YB).2.2.2.1 then 3 else
 if(s.2.2.2.2[k]?.getD YB).2.2.2.2.1.1<0∨(s.2.2.2.2[k]?.getD YB).2.2.2.2.1.2≤(s.2.2.2.2[k]?.getD YB).2.2.2.2.1.1∨109573<(s.2.2.2.2[k]?.getD YB).2.2.2.2.1.2 then 3 else
 if 8≤wY s.2.2.2.2 k (s.2.2.2.2[k]?.getD YB).2.1 then 4 else
 if(!DI (s.2.2.2.2[k]?.getD YB).2.2.2.2.2.2.2)=true then 2 else
 if 0<(s.2.2.2.2[k]?.getD YB).2.2.2.2.2.1.length∧tY (s.2.2.2.2[k]?.getD YB).2.2.2.2.2.1 sg (1,0)≠0 then tY (s.2.2.2.2[k]?.getD YB).2.2.2.2.2.1 sg (1,0)else
 tY (s.2.2.2.2[k]?.getD YB).2.2.2.2.2.2.1 sg (s.2.2.2.1[(s.2.2.2.2[k]?.getD YB).2.1.toNat]?.getD PV).2
def GC{sg:bG}(h:nf s k sg=0):0<(s.2.2.2.2[k]?.getD YB).2.2.2.2.2.1.length→tY (s.2.2.2.2[k]?.getD YB).2.2.2.2.2.1 sg (1,0)=0:=by
 intro hp;unfold nf at h;iterate 8 (split at h;· cases h)
 split at h;rename_i c;exact h;rename_i c;exact Classical.byContradiction fun q=>c ⟨hp,q⟩
def kpK(s:aL)(k:Nat)(sg:bG)(hk:k<s.2.2.2.2.length)(hl:s.2.2.2.2.length≤1000000)(hsm:WfR s.2.2.2.2[k])(hn1:∀d∈s.2.2.2.2[k].2.2.2.2.2.1,d.2≤9223372036854775807)(hn2:∀d∈s.2.2.2.2[k].2.2.2.2.2.2.1,d.2≤9223372036854775807):Ct prog 142 [.tv bw s,Sx (k:Nat),.tv dg sg] (Sx (nf s k sg)):=by
 refine Yk func142 ntmps142 fun w0 ok0=>?_;have hgr:s.2.2.2.2[k]?.getD YB=s.2.2.2.2[k]:=by rw[RY hk];rfl
 have hs1:=hsm.1;have hs2:=hsm.2;refine E0 ?_;refine uK 7 7 (bQ 7 _) Z Z (a6 7 _) (bm 7 _) ?_;refine Qh ?_;refine zJ (iS fy dh (.b Z) Z ⟨_,_,(.b Z),Z⟩ zo zo) (Y5 ?_);refine bf (ι:=Nat) (fun j=>⟨[(1,Sx ((k:Nat))),(3,Sy 3 bw),(5,Sy 5 dg),(7,.eptr ct s.2.2.2.2[k]),(8,Sx ((wY s.2.2.2.2 j s.2.2.2.2[k].2.1:Nat))),(20,.tv (ag ct) (s.2.2.2.2.take k)),(21,Sx ((s.2.2.2.2.take k).length)),(22,Sx ((j:Nat)))],[(3,⟨bw,[s]⟩),(5,⟨dg,[sg]⟩)]⟩) (fun j=>j≤k) (fun j=>k-j) 0 (P8 _) (fun a w hi=>(zI hi)) ?_;rintro j hj;have hcl:=ovL s.2.2.2.2 j s.2.2.2.2[k].2.1;have htl:(s.2.2.2.2.take k).length=k:=QE;refine Z6 ?_ ?_<;>intro h4;have h4:j<k:=Kb;have h4b:j<s.2.2.2.2.length:=So;refine rZ ?_ ?_<;>intro h6;have hs:=cntD_t (d:=s.2.2.2.2[k].2.1) h4b O3;refine dy ?_;exact UJ;have hs:=cntD_f (d:=s.2.2.2.2[k].2.1) h4b O3;refine Y7 ?_;exact UJ;have h4:k=j:=Kb;subst h4;refine dy ?_;refine zJ (an (By _ zo) (.cons (.b Z) .nil) Z Z) (Z4 ?_ ?_)<;>intro h9;skip;refine Y8 ?_;exact z1 results142 Z (ri (by unfold nf;rw[hgr,Cg h9]));skip;refine Y5 ?_;refine zJ (iS fy dh (.b Z) Z ⟨_,_,(.b Z),Z⟩ zo zo) (zJ (j7 (A:=ct) (B:=cq) (aS:=[.eptr ct s.2.2.2.2[k]]) (φ:=fun _=>True) (fun x=>decide (x.1=s.2.2.2.2[k].1)) (cJ func187 Z zk) (fun x _=>aes x s.2.2.2.2[k]) (.cons (.b Z) .nil) Z) (YK (rwA _ _) ?_));refine zY Z (aa ?_);refine Z0 ?_ ?_<;>intro h11;rw[Pv]at h11;refine Y8 ?_;exact z1 results142 Z (ri (by unfold nf;rw[hgr,zE Gp,Cg h11]));rw[Pv]at h11;refine PI ?_ ?_<;>intro h13;have h13:s.2.2.2.2[k].2.1<0∨(s.2.2.2.1.length:Int)≤s.2.2.2.2[k].2.1:=abA;refine zR (zA Z (zQ [6] [] (aa (am (ax (al ?_))))));exact z1 results142 Z (ri (by unfold nf;rw[hgr,zE Gp,zE JM,Cg h13]));have h13:¬(s.2.2.2.2[k].2.1<0∨(s.2.2.2.1.length:Int)≤s.2.2.2.2[k].2.1):=abA;refine ac ?_;refine Y8 ?_;refine JJ Z Z (fun hg=>ai (.gd Z hg)) (Y5 ?_);refine JJ Z Z (fun hg=>ai (.gd Z hg)) (Y4 ?_);refine jdw Z Z (fun hg=>av fy dh (.gd Z hg) (.gd Z hg) (show s.2.2.2.2[k].2.2.1=((s.2.2.2.2[k].2.2.1.toNat:Nat):Int)by simp at hg;omega) (getD_some (l:=s.2.2.2.2) (i:=s.2.2.2.2[k].2.2.1.toNat) (z:=YB) PA)) (Y9 ?_);refine aa ?_;refine Z0 ?_ ?_<;>intro h15;have h15:s.2.2.2.2[k].2.2.1≠-1∧(s.2.2.2.2[k].2.2.1<0∨(k:Int)≤s.2.2.2.2[k].2.2.1∨(s.2.2.2.2[s.2.2.2.2[k].2.2.1.toNat]?.getD YB).2.1≠s.2.2.2.2[k].2.1):=by refine⟨abB,?_⟩;by_cases q1:s.2.2.2.2[k].2.2.1<0;exact .inl q1;by_cases q2:(k:Int)≤s.2.2.2.2[k].2.2.1;exact .inr (.inl q2);refine .inr (.inr ?_);simp[q1,q2]at h15;exact h15.2
 refine Y8 ?_;exact z1 results142 Z (ri (by unfold nf;rw[hgr,zE Gp,zE JM,zE h13,Cg h15]));have h15:¬(s.2.2.2.2[k].2.2.1≠-1∧(s.2.2.2.2[k].2.2.1<0∨(k:Int)≤s.2.2.2.2[k].2.2.1∨(s.2.2.2.2[s.2.2.2.2[k].2.2.1.toNat]?.getD YB).2.1≠s.2.2.2.2[k].2.1)):=by rintro⟨q0,q⟩;by_cases q1:s.2.2.2.2[k].2.2.1<0;simp[q0,q1]at h15;by_cases q2:(k:Int)≤s.2.2.2.2[k].2.2.1;simp[q0,q1,q2]at h15;rcases q with q|q|q;exact q1 q;exact q2 q;simp[q0,q1,q2]at h15;exact q h15
 refine sm ?_ ?_<;>intro h17;have h17:s.2.2.2.2[k].2.2.2.1<0∨9<s.2.2.2.2[k].2.2.2.1:=KN;refine Y8 ?_;exact z1 results142 Z (ri (by unfold nf;rw[hgr,zE Gp,zE JM,zE h13,zE h15,Cg h17]));have h17:¬(s.2.2.2.2[k].2.2.2.1<0∨9<s.2.2.2.2[k].2.2.2.1):=KN;refine Z24 ?_ ?_<;>intro h19;have h19:s.2.2.2.2[k].2.2.2.2.1.1<0∨s.2.2.2.2[k].2.2.2.2.1.2≤s.2.2.2.2[k].2.2.2.2.1.1∨109573<s.2.2.2.2[k].2.2.2.2.1.2:=by simp at h19;omega
 refine Y8 ?_;exact z1 results142 Z (ri (by unfold nf;rw[hgr,zE Gp,zE JM,zE h13,zE h15,zE h17,Cg h19]));have h19:¬(s.2.2.2.2[k].2.2.2.2.1.1<0∨s.2.2.2.2[k].2.2.2.2.1.2≤s.2.2.2.2[k].2.2.2.2.1.1∨109573<s.2.2.2.2[k].2.2.2.2.1.2):=by simp at h19;omega
 refine Z7 ?_ ?_<;>intro h21;have h21:8≤wY s.2.2.2.2 k s.2.2.2.2[k].2.1:=by simp at h21;omega
 refine Y8 ?_;exact z1 results142 Z (ri (by unfold nf;rw[hgr,zE Gp,zE JM,zE h13,zE h15,zE h17,zE h19,Cg h21]));have h21:¬(8≤wY s.2.2.2.2 k s.2.2.2.2[k].2.1):=by simp at h21;omega
 refine Y4 ?_;refine YK (src_ok _) ?_;refine Z4 ?_ ?_<;>intro h23;skip;refine Y8 ?_;exact z1 results142 Z (ri (by unfold nf;rw[hgr,zE Gp,zE JM,zE h13,zE h15,zE h17,zE h19,zE h21,Cg h23]));skip;refine Jk ?_ ?_<;>intro h25;have h25:0<s.2.2.2.2[k].2.2.2.2.2.1.length:=by simp at h25;omega
 refine Y5 ?_;refine zJ (aC JI Z gu (.cons (rt':=(ay .i64)) Z cv (.raw (.b Z) Z) .nil)) (zJ (an (Da _ _ _ (by assumption)) (.cons (.b Z) (.cons (.b Z) (.cons (.b Z) .nil))) Z Z) (Z9 ?_ ?_))<;>intro h27;have h27:tY s.2.2.2.2[k].2.2.2.2.2.1 sg (1,0)≠0:=Eu;refine Y8 ?_;exact z1 results142 Z (ri (by unfold nf;rw[hgr,zE Gp,zE JM,zE h13,zE h15,zE h17,zE h19,zE h21,zE aci,Cg ⟨h25,h27⟩]));have h27:¬(tY s.2.2.2.2[k].2.2.2.2.2.1 sg (1,0)≠0):=Eu;refine dy ?_;refine GP (av gp jM (.b Z) (.b Z) (show s.2.2.2.2[k].2.1=((s.2.2.2.2[k].2.1.toNat:Nat):Int)by omega) zg) (Y2 ?_);refine GP (an (Da _ _ _ (by assumption)) (.cons (.b Z) (.cons (.b Z) (.cons (.b Z) .nil))) Z Z) (Y2 ?_);refine aa (am ?_);exact T9;have h25:¬0<s.2.2.2.2[k].2.2.2.2.2.1.length:=by simp at h25;first|omega|simp[h25]
 refine dy ?_;refine GP (av gp jM (.b Z) (.b Z) (show s.2.2.2.2[k].2.1=((s.2.2.2.2[k].2.1.toNat:Nat):Int)by omega) zg) (Y2 ?_);refine GP (an (Da _ _ _ (by assumption)) (.cons (.b Z) (.cons (.b Z) (.cons (.b Z) .nil))) Z Z) (Y2 ?_);refine zK [6] [] (aa (am ?_));exact T9

def svRB(p:Rg×Bool):SV:=.tup2 (.tv cL p.1) (.raw (.bool p.2))
def B3{p:Rg×Bool}{a:Rg}(h:(a,b)=p):SV.tup2 (SV.of cL a) (.raw (.bool b))=svRB p:=Mc
def pD(r:Rg):Ct prog 121 [.tv cL r] (.raw (.bool (jt r))):=by exact VU
def IL(r:Rg):Ct prog 219 [.tv cL r] (.raw (.bool (CS r))):=by refine Yk func219 ntmps219 fun w0 ok0=>?_;refine Y9 ?_;refine YK (pD _) ?_;refine dy ?_;exact z1 results219 rfl (rb (by first|rfl|(simp[CS];done)|(rw[MZ];simp[CS];omega)))
def oh(r:Rg)(d:Int):Ct prog 81 [.tv cL r,Sx d] (.raw (.bool (fm r d))):=by refine Yk func81 ntmps81 fun w0 ok0=>?_;refine Y9 ?_;refine YK (pD _) ?_;exact Wu
def zRs(a b:Rg):Ct prog 179 [.tv cL a,.tv cL b] (svRB (zc a b)):=by
 refine Yk func179 ntmps179 fun w0 ok0=>?_;refine zb ?_;refine YK (IL _) ?_;refine Y3 ?_;refine zG Z Z (fun hg=>an (IL _) (.cons (.gd Z hg) .nil) Z Z) (Z4 ?_ ?_)<;>intro h1;have k1:CS a=false∨CS b=false:=LF;refine zR (zJ (aC Kj Z Cn .nil) (Y6 ?_));exact aI results179 (aq jN Z Z Z (Lens.id cL)) (ar Z) ⟨Z,Z⟩ (B3 (by unfold zc;rw[Cg k1]));have k1:¬(CS a=false∨CS b=false):=LF;refine Y8 ?_;refine zJ (mQ (.b Z) (.b Z)) (Y4 ?_);refine zJ (yu (.b Z) (.b Z)) (zJ (aC Kj Z Cn (.cons (rt':=(ay .i64)) Z ip (.raw (.b Z) Z) (.cons (rt':=(ay .i64)) Z gN (.raw (.b Z) Z) .nil))) (Po ?_ ?_))<;>intro h4
 ·try simp at h4
  refine zR (zJ (aC Kj Z Cn .nil) (Y6 ?_));exact aI results179 (aq jN Z Z Z (Lens.id cL)) (ar Z) ⟨Z,Z⟩ (B3 (by unfold zc;rw[zE k1,Cg Yo]))
 try simp at h4
 refine Qh ?_;exact aI results179 (aq jN Z Z Z (Lens.id cL)) (ar Z) ⟨Z,Z⟩ (B3 (by unfold zc;rw[zE k1,zE (Int.not_le.2 h4)]))
def wP(a b:dA):Bool:=(zc a.1 b.1).2&&decide ((if a.2.1<b.2.1 then b.2.1 else a.2.1)<(if b.2.2.1<a.2.2.1 then b.2.2.1 else a.2.2.1))
def gw(date key:Int)(x:dA):Bool:=fm x.1 date&&decide (x.2.1≤key)&&decide (key<x.2.2.1)
def dF(f:dA→Bool):List dA→Nat→Int×Bool
 | [],_=>(0,false)
 | x::l,k=>if f x=true then((k:Int),true)else dF f l (k+1)
def svIB(p:Int×Bool):SV:=.tup2 (Sx p.1) (.raw (.bool p.2))
def B4{p:Int×Bool}(h:(a,b)=p):SV.tup2 (Sx a) (.raw (.bool b))=svIB p:=Mc
def Rk(p:Int×Int×Bool):SV:=.tup3 (Sx p.1) (Sx p.2.1) (.raw (.bool p.2.2))
def md{p:Int×Int×Bool}{b:Int}{c:Bool}(h:(a,b,c)=p):SV.tup3 (Sx a) (Sx b) (.raw (.bool c))=Rk p:=Mc
def cpS(a b:dA):Ct prog 131 [.tv dD a,.tv dD b] (.raw (.bool (wP a b))):=by refine Yk func131 ntmps131 fun w0 ok0=>?_;refine MY ?_;refine YK (zRs _ _) ?_;refine J4 ?_;refine zG Z Z (fun hg=>mQ (.gd Z hg) (.gd Z hg)) (Y4 ?_);refine zG Z Z (fun hg=>yu (.gd Z hg) (.gd Z hg)) (Y4 ?_);refine aa (am ?_);exact z1 results131 rfl (rb (by first|rfl|(unfold wP;rfl)|(simp[wP];done)))
def E9(l:List dA)(f:dA→Bool):Ct prog 129 [.tv (ag dD) l,.tv (ov prog dD cq (fun _=>True)) f] (svIB (dF f l 0)):=by refine Yk func129 ntmps129 fun w0 ok0=>?_;refine fT 0 Z (fun hl0=>?_);refine Qy ?_;refine bf (ι:=Nat) (fun k=>⟨[(1,.tv (ov prog dD cq (fun _=>True)) f),(8,.tv (ag dD) l),(9,Sx l.length),(10,Sx ((k:Nat)))],[]⟩) (fun k=>k≤l.length∧dF f (l.drop k) k=dF f l 0) (fun k=>l.length-k) 0 (⟨P8 _,Z⟩) (fun a w hi=>(zI hi)) ?_;rintro k ⟨p1,p2⟩;refine Z6 ?_ ?_<;>intro h2;simp at h2;have hd:=qv h2;refine Ki ?_;refine zJ (ml (.b Z) (.tv (.b Z)) trivial) (zZ ?_);refine Z0 ?_ ?_<;>intro h4;skip;refine Qh ?_;refine b8 (ax (al ?_));exact z2 results129 Z Z (B4 (by rw[←p2,hd,dF,Cg h4]));skip;refine Y7 ?_;exact aE (fun a w hi=>⟨k+1,zj,(⟨So,by rw[←p2,hd,dF,zE (by rw[h4];simp)]⟩),(zI hi)⟩);simp at h2;refine zb ?_;exact z2 results129 Z Z (B4 (by rw[←p2,KD zo];rfl))
def lkc_ok(x:dA)(date key:Int):Ct prog 253 [.tv dD x,.eptr (ay .i64) date,.eptr (ay .i64) key] (.raw (.bool (gw date key x))):=by refine Yk func253 ntmps253 fun w0 ok0=>?_;refine dy ?_;refine YK (oh _ _) ?_;refine J4 ?_;exact z1 results253 rfl (rb (by first|rfl|(unfold gw;rfl)|(simp[gw];done)))
def vdc_ok(x r:dA):Ct prog 130 [.tv dD x,.eptr dD r] (.raw (.bool (wP x r))):=by refine Yk func130 ntmps130 fun w0 ok0=>?_;refine Qh ?_;refine YK (cpS _ _) ?_;refine zY Z (aa (am ?_));exact z1 results130 Z Z
def aez(t:bS)(date key:Int):Ct prog 239 [.tv b9 t,Sx date,Sx key] (svIB (dF (gw date key) t.2.2.2 0)):=by refine Yk func239 ntmps239 fun w0 ok0=>?_;refine Y3 ?_;refine zJ (kX (rt:=ay .i64) (.raw (.b Z) Z)) (zJ (kX (rt:=ay .i64) (.raw (.b Z) Z)) (Y8 ?_));refine zJ (j7 (A:=dD) (B:=cq) (φ:=fun _=>True) (gw date key) (cJ func253 Z zk) (fun x _=>lkc_ok x date key) (.cons (.b Z) (.cons (.b Z) .nil)) Z) (YK (E9 _ _) ?_);refine Y7 ?_;exact z2 results239 Z Z (B4 Z)

def wU(bad:dA→Bool)(l:List dA):Nat→Int×Int
 | 0=>(0,0)
 | d+1=>if bad (l.getD (l.length-(d+1)) ((0,0),0,0,0))=true then(((l.length-(d+1):Nat):Int),3)
  else if(dF (fun x=>wP x (l.getD (l.length-(d+1)) ((0,0),0,0,0))) (l.take (l.length-(d+1))) 0).2=true then(((l.length-(d+1):Nat):Int),11)else wU bad l d
def rO{bad:dA→Bool}{l:List dA}{j:Nat}(h:j<l.length):wU bad l (l.length-j)=if bad l[j]=true then((j:Int),3)else if(dF (fun x=>wP x l[j]) (l.take j) 0).2=true then((j:Int),11)else wU bad l (l.length-(j+1)):=by obtain⟨d,hd⟩:∃d,l.length-j=d+1:=⟨l.length-j-1,So⟩;have e:l.length-(d+1)=j:=So;rw[hd,wU,e,zy,RY h,show l.length-(j+1)=d by omega];rfl
def R4(t:ce)(en:List dN):Bool:=if 1≤t.1∧t.1≤5 then decide (t.2=0)else if t.1=6 then decide (0≤t.2)&&decide (t.2<en.length)else false
def RX(R:Int×Int):SV:=.tup2 (Sx R.1) (Sx R.2)
def Sc{R:Int×Int}{b:Int}(h:(a,b)=R):SV.tup2 (Sx a) (Sx b)=RX R:=Mc
def f6(en:List dN)(k:Int):Int:=((en[k.toNat]?.getD ([],[])).2.length:Int)
def R6(t:ce)(en:List dN):Int×Int:=
 if R4 t en=false then(0,-1)else if t.1=1 then(0,1)else if t.1=2 then(-1000000000000,1000000000000)else if t.1=3 then(-1000000000000000,1000000000000000)
 else if t.1=4 then(-1000000000,1000000000)else if t.1=5 then(0,109572)else(0,f6 en t.2-1)
def aeA:AG (ag dl) (fun en=>en.length≤9223372036854775807∧∀x∈en,True∧(x.2.length≤9223372036854775807∧∀y∈x.2,True)):=qz (BD u9 (qz u9))
def abR(h:R4 t en=true)(h1:¬t.1=1)(h2:¬t.1=2)(h3:¬t.1=3)(h4:¬t.1=4)(h5:¬t.1=5):t.1=6∧0≤t.2∧t.2<en.length:=by unfold R4 at h;rw[zE zo]at h;split at h;rename_i h6;simp at h;exact⟨h6,h⟩;cases h
def II(t:ce)(en:List dN)(n:Int):Bool:=decide ((R6 t en).1≤n)&&decide (n≤(R6 t en).2)
def Ox(x:dA):Bool:=(!(jt x.1)||decide (x.1.1=x.1.2))||decide (x.2.1≥x.2.2.1)
def QZ(t:bS)(en:List dN)(x:dA):Bool:=(!(II t.2.1 en x.2.1)||!(II t.2.1 en (x.2.2.1-1)))||!(II t.2.2.1 en x.2.2.2)
def wh(t:bS)(en:List dN)(x:dA):Bool:=Ox x||QZ t en x
def o5(t:bS)(en:List dN):Int×Int:=if 64<t.2.2.2.length then(64,4)else if(!(R4 t.2.1 en)||!(R4 t.2.2.1 en))=true then(-1,8)else wU (wh t en) t.2.2.2 t.2.2.2.length
def OI(x:dA):Prop:=-9223372036854775808≤x.2.1∧x.2.2.1≤9223372036854775807
def Ig{n:Int}:II t en n=true↔(R6 t en).1≤n∧n≤(R6 t en).2:=by simp[II]
def Nj{n:Int}:II t en n=false↔n<(R6 t en).1∨(R6 t en).2<n:=by rw[←Bool.not_eq_true,Ig];omega
def R7(t:ce)(en:List dN):Ct prog 74 [.tv bt t,.tv (ag dl) en] (.raw (.bool (R4 t en))):=by
 refine Yk func74 ntmps74 fun w0 ok0=>?_;refine fT 1 Z (fun hl0=>?_);refine rZ ?_ ?_<;>intro h2
 ·have g2:=h2;try simp at h2
  refine ak (aa ?_);refine bR Z g2 (ac ?_);exact Ub
 have g2:=h2;try simp at h2
 refine Z6 ?_ ?_<;>intro h3
 ·have g3:=h3;try simp at h3
  refine ak (aa ?_);refine bR Z g3 (ac ?_);exact Ub
 have g3:=h3;try simp at h3
 refine Z6 ?_ ?_<;>intro h4
 ·have g4:=h4;try simp at h4
  refine ak (aa ?_);refine bR Z g4 (ac ?_);exact Ub
 have g4:=h4;try simp at h4
 refine Z6 ?_ ?_<;>intro h5
 ·have g5:=h5;try simp at h5
  refine ak (aa ?_);refine bR Z g5 (ac ?_);exact Ub
 have g5:=h5;try simp at h5
 refine Z5 ?_ ?_<;>intro h6
 ·have g6:=h6;try simp at h6
  refine dy ?_;exact Uk
 have g6:=h6;try simp at h6
 refine Z6 ?_ ?_<;>intro h8
 ·try simp at h8
  refine Ki ?_;exact Uk
 try simp at h8
 refine Y9 ?_;exact Uk
def Sm(t:ce)(en:List dN):Ct prog 75 [.tv bt t,.tv (ag dl) en] (RX (R6 t en)):=by
 refine Yk func75 ntmps75 fun w0 ok0=>?_;refine M1 1 aeA Z (fun hf=>?_);have hl0:=hf.1;refine zb ?_;refine YK (R7 _ _) ?_;refine Z3 ?_ ?_<;>intro h1
 ·try simp at h1
  refine Y8 ?_;exact z2 results75 rfl rfl (Sc XV)
 try simp at h1
 refine PI ?_ ?_<;>intro h4
 ·try simp at h4
  exact VB
 try simp at h4
 refine Z6 ?_ ?_<;>intro h6
 ·try simp at h6
  exact VB
 try simp at h6
 refine Z6 ?_ ?_<;>intro h8
 ·try simp at h8
  exact VB
 try simp at h8
 refine Z6 ?_ ?_<;>intro h10
 ·try simp at h10
  exact VB
 try simp at h10
 refine Z6 ?_ ?_<;>intro h12
 ·try simp at h12
  exact VB
 try simp at h12
 refine Y4 ?_;obtain⟨v6,v7,v8⟩:=abR h1 h4 h6 h8 h10 h12;have hm:=(hf.2 (en[t.2.toNat]'zo) (aA _)).2.1;refine Y4 ?_;refine GP (av mc iR (.b Z) (.b Z) (J1 v7).symm zg) (Y7 ?_);refine aa (am ?_);exact z2 results75 Z Z (Sc (by unfold R6;rw[zE Kz,zE h4,zE h6,zE h8,zE h10,zE h12];unfold f6;rw[RY zo];rfl))
def acq(t:bS)(en:List dN)(hK:∀x∈t.2.2.2,OI x):Ct prog 94 [.tv b9 t,.tv (ag dl) en] (RX (o5 t en)):=by
 refine Yk func94 ntmps94 fun w0 ok0=>?_;refine PI ?_ ?_<;>intro h1;simp at h1;refine Y8 ?_;exact z2 results94 Z Z (Sc (by unfold o5;rw[Cg zo]));simp at h1;refine Y8 ?_;refine YK (R7 _ _) ?_;refine Y5 ?_;refine zG Z Z (fun hg=>an (R7 _ _) (.cons (.gd Z hg) (.cons (.gd Z hg) .nil)) Z Z) (Z4 ?_ ?_)<;>intro h3;have h3:(!(R4 t.2.1 en)||!(R4 t.2.2.1 en))=true:=h3;refine Y8 ?_;exact z2 results94 Z Z (Sc (by unfold o5;rw[zE zo,Cg h3]));have h3:(!(R4 t.2.1 en)||!(R4 t.2.2.1 en))=false:=h3;refine Y7 ?_;refine YK (Sm _ _) ?_;refine zb ?_;refine YK (Sm _ _) ?_;refine pA ?_;refine bf (ι:=Nat) (fun k=>⟨[(2,Sy 2 b9),(6,Sx ((R6 t.2.1 en).1)),(7,Sx ((R6 t.2.1 en).2)),(8,Sx ((R6 t.2.2.1 en).1)),(9,Sx ((R6 t.2.2.1 en).2)),(45,.tv (ag dD) t.2.2.2),(46,Sx t.2.2.2.length),(47,Sx ((k:Nat)))],[(2,⟨b9,[t]⟩)]⟩) (fun k=>k≤t.2.2.2.length∧wU (wh t en) t.2.2.2 (t.2.2.2.length-k)=wU (wh t en) t.2.2.2 t.2.2.2.length) (fun k=>t.2.2.2.length-k) 0 (⟨P8 _,Z⟩) (fun a w hi=>(zI hi)) ?_;rintro k ⟨p1,p2⟩;refine Z6 ?_ ?_<;>intro h8;simp at h8;have hk:=hK _ (aA h8);unfold OI at hk;refine E0 ?_;refine YK (pD _) ?_;refine Y4 ?_;refine zG Z Z (fun hg=>ah Sj (.gd Z hg) Z Z (Lens.comp mT ip)) (Y2 ?_);refine zG Z Z (fun hg=>ah Sj (.gd Z hg) Z Z (Lens.comp mT gN)) (Jf ?_ ?_)<;>intro h10;have h10:Ox (t.2.2.2[k])=true:=h10;have hb:wh t en (t.2.2.2[k])=true:=by unfold wh;rw[h10];rfl
 exact V3;have h10:Ox (t.2.2.2[k])=false:=h10;have k10:(t.2.2.2[k]).2.1<(t.2.2.2[k]).2.2.1:=by simp[Ox]at h10;omega
 refine Z31 ?_ ?_<;>intro h12;have hb:wh t en (t.2.2.2[k])=true:=by
  have q:II t.2.1 en (t.2.2.2[k]).2.1=false∨II t.2.1 en ((t.2.2.2[k]).2.2.1-1)=false:=by rw[Nj,Nj];simp at h12;omega
  unfold wh QZ;rcases q with q|q<;>rw[q]<;>simp
 exact V3;have k12:II t.2.1 en (t.2.2.2[k]).2.1=true∧II t.2.1 en ((t.2.2.2[k]).2.2.1-1)=true:=by rw[Ig,Ig];simp at h12;omega
 refine O0 ?_ ?_<;>intro h14;have hb:wh t en (t.2.2.2[k])=true:=by
  have q:II t.2.2.1 en (t.2.2.2[k]).2.2.2=false:=by rw[Nj];simp at h14;omega
  unfold wh QZ;rw[q];simp
 refine Y5 ?_;refine zQ [4,5] [] (aa (am (al (ax (al (b8 (ax (al ?_))))))));exact z2 results94 Z Z (Sc Zi);have hb:wh t en (t.2.2.2[k])=false:=by
  have q:II t.2.2.1 en (t.2.2.2[k]).2.2.2=true:=by rw[Ig];simp at h14;omega
  unfold wh QZ;rw[h10,k12.1,k12.2,q];rfl
 refine Y3 ?_;refine uK 11 11 (bQ 11 _) Z Z (a6 11 _) (bm 11 _) ?_;refine Y4 ?_;refine zJ (iS dY fe (.b Z) Z ⟨_,_,(.b Z),Z⟩ zo zo) (zJ (j7 (A:=dD) (B:=cq) (aS:=[.eptr dD (t.2.2.2[k]'h8)]) (φ:=fun _=>True) (fun x=>wP x (t.2.2.2[k]'h8)) (cJ func130 Z zk) (fun x _=>vdc_ok x (t.2.2.2[k]'h8)) (.cons (.b Z) .nil) Z) (YK (E9 _ _) ?_));refine Y6 ?_;rw[Pv];refine Z6 ?_ ?_<;>intro h17;skip;refine Qh ?_;refine b8 (ax (al ?_));exact z2 results94 Z Z (Sc (by unfold o5;rw[zE zo,zE JB,←p2,rO h8,zE (by rw[hb];simp),Cg h17]));skip;refine Y7 ?_;exact aE (fun a w hi=>⟨k+1,zj,(⟨So,by rw[←p2,rO h8,zE (by rw[hb];simp),zE (by rw[h17];simp)]⟩),(zI hi)⟩);simp at h8;refine zb ?_;exact z2 results94 Z Z (Sc (by unfold o5;rw[zE zo,zE JB,←p2,show t.2.2.2.length-k=0 by omega];rfl))
def GY{bad:dA→Bool}{l:List dA}:∀d,0≤(wU bad l d).1∧(wU bad l d).1≤l.length
 | 0=>by simp[wU]
 | d+1=>by have h:=GY (bad:=bad) (l:=l) d;unfold wU;split;simp only;omega;split;simp only;omega;exact h
def acx(t:bS)(en:List dN):-1≤(o5 t en).1∧(o5 t en).1≤64+t.2.2.2.length:=by unfold o5;split;simp only;omega;split;simp only;omega;have:=GY (bad:=wh t en) (l:=t.2.2.2) t.2.2.2.length;omega
def Pr:bS:=([],(0,0),(0,0),[])
def mG(l:bZ)(k:Nat)(t:bS):Int×Int:=
 if(!CM t.1)=true then(2,0)else if(Qn l.1 t.1||hasT (l.2.1.take k) t.1)=true then(7,0)else
 if((o5 t l.1).2 != 0)=true then((o5 t l.1).2,if((o5 t l.1).1 != -1)=true then 100+(o5 t l.1).1 else 0)else(0,0)
def lq(l:bZ):Int×Int×Int×Int:=if 8<l.2.1.length then(4,2,8,0)else
 match qu l.2.1.length (fun i=>(mG l i (l.2.1[i]?.getD Pr)).1 != 0)with
 | some i=>((mG l i (l.2.1[i]?.getD Pr)).1,2,(i:Int),(mG l i (l.2.1[i]?.getD Pr)).2)
 | none=>(0,0,0,0)
def acP(l:bZ)(hsm:∀t∈l.2.1,WfT t)(hK:∀t∈l.2.1,∀x∈t.2.2.2,OI x)(hR:∀t∈l.2.1,t.2.2.2.length≤1000)(hl:l.2.1.length≤1000000):Ct prog 51 [.tv bl l] (.tv cm (lq l)):=by
 refine Yk func51 ntmps51 fun w0 ok0=>?_;refine Ks ?_ ?_<;>intro h1;have h1:8<l.2.1.length:=CY;refine zR (zJ (aC Jn Z Az (.cons (rt':=(ay .i64)) Z gY (.raw (.b Z) Z) (.cons (rt':=(ay .i64)) Z vW (.raw (.b Z) Z) (.cons (rt':=(ay .i64)) Z vV (.raw (.b Z) Z) .nil)))) (Y5 ?_));exact cQ results51 (aq hO Z Z Z (Lens.id cm)) Z (congrArg (SV.tv cm) (by unfold lq;rw[Cg h1]));have h1:¬8<l.2.1.length:=CY;refine zb ?_;refine bf (ι:=Nat) (fun k=>⟨[(1,Sy 1 bl),(2,Sy 2 cm),(14,.tv (ag b9) l.2.1),(15,Sx l.2.1.length),(16,Sx ((k:Nat)))],[(1,⟨bl,[l]⟩),(2,⟨cm,[(0,0,0,0)]⟩)]⟩) (fun k=>k≤l.2.1.length∧∀j,j<k→((mG l j (l.2.1[j]?.getD Pr)).1 != 0)=false) (fun k=>l.2.1.length-k) 0 (⟨P8 _,fun j hj=>So⟩) (fun a w hi=>(zI hi)) ?_;rintro k ⟨hk,hno⟩;refine Z6 ?_ ?_<;>intro h4;have h4:k<l.2.1.length:=Yo;have hse:=hsm _ (aA h4);have hse1:l.2.1[k].1.length≤9223372036854775807:=hse;have hK1:=hK _ (aA h4);have hrl:=hR _ (aA h4);have hbd:=acx l.2.1[k] l.1;have hge:l.2.1[k]?.getD Pr=l.2.1[k]:=aaI;refine pA ?_;refine zJ (aC Jn Z Az (.cons (rt':=(ay .i64)) Z vW (.raw (.b Z) Z) (.cons (rt':=(ay .i64)) Z vV (.raw (.b Z) Z) .nil))) (Y9 ?_);refine YK (acq _ _ hK1) ?_;refine MY ?_;refine zJ (an (By _ zo) (.cons (.b Z) .nil) Z Z) (Z4 ?_ ?_)<;>intro h8;have hb:mG l k l.2.1[k]=(2,0):=by unfold mG;rw[Cg h8]
 refine sm ?_ ?_<;>intro h16;exact UW;exact Vy;skip;refine ac ?_;refine Y5 ?_;refine GP (an (CR _ _) (.cons (.b Z) (.cons (.b Z) .nil)) Z Z) (Y4 ?_);refine JJ Z Z (fun hg=>iS ju eZ (.gd Z hg) Z ⟨_,_,(.gd Z hg),Z⟩ zo zo) (Y2 ?_);refine JJ Z Z (fun hg=>an (Ij _ _) (.cons (.gd Z hg) (.cons (.gd Z hg) .nil)) Z Z) (Y3 ?_);refine aa ?_;refine Z0 ?_ ?_<;>intro h10;rw[Pv]at h10;have hb:mG l k l.2.1[k]=(7,0):=by unfold mG;rw[zE acz,Cg h10]
 refine dy ?_;refine zQ [1,2,5,14,15,16,64] [1,2,5] (aa ?_);refine Z0 ?_ ?_<;>intro h16;exact UW;exact Vy;rw[Pv]at h10;refine Z7 ?_ ?_<;>intro h12;skip;refine sm ?_ ?_<;>intro h14;have hb:mG l k l.2.1[k]=((o5 l.2.1[k] l.1).2,100+(o5 l.2.1[k] l.1).1):=by unfold mG;rw[zE acz,zE acf,Cg h12,Cg h14]
 refine Ks ?_ ?_<;>intro h16;exact UW;exact Vy;have hb:mG l k l.2.1[k]=((o5 l.2.1[k] l.1).2,0):=by unfold mG;rw[zE acz,zE acf,Cg h12,zE (by rw[h14];decide)]
 exact Tt;have hb:mG l k l.2.1[k]=(0,0):=by unfold mG;rw[zE acz,zE acf,zE Oz]
 exact Tt;have h4:k=l.2.1.length:=Kb;refine Y7 ?_;refine zJ (aC Jn Z Az .nil) (Y1 ?_);refine zQ [2] [2] (aa (am ?_));exact cQ results51 (aq hO Z Z Z (Lens.id cm)) Z (congrArg (SV.tv cm) (by unfold lq;rw[zE h1,mU aby]))
end Go.Eng
