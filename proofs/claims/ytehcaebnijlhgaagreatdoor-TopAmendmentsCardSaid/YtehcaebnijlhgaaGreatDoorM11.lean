import Derived.Test.YtehcaebnijlhgaaGreatDoorM10
set_option linter.all false
set_option maxRecDepth 100000
set_option maxHeartbeats 9000000
namespace Go.Eng
open Go.Proofs Tryz
variable{A:Option Addr}{P:Program}{args:List aN}{c e:List aF}{cs:List Value}{α:Type}{d:List (List UInt8×α)}{env:cP}{es:List (Value×α)}{i j k x:Nat}{kvs:List (List UInt8×Value)}{l:List bS}{oc par pri:List Int}{rs:List Bool}{s:bG}{t:ce}{tys:List ce}{u:Value}{v:Int}{w:World}
def kc(v:aN)(t:ce):Prop:=v.1=t.1∧v.2.1=t.2
structure OM(e:List aF)(env:cP)(s:bG):Prop where
 ins:∀k:Nat,k<s.2.2.1.length→kc (env.2.1[k]?.getD GD) (rf s.2.2.1 k)
 defs:∀i (h:i<e.length),e[i].1=8→kc (env.2.2.1[e[i].2.toNat]?.getD GD) (rf s.2.2.2.1 e[i].2)
 tabs:env.2.2.2.2.2=s.2.1
 mts:env.2.2.2.2.1=s.2.2.2.2.1
def yl{v:aN}(h:da v=true)(h6:v.1≠6):v.2.1=0:=by unfold da at h;rw[zE h6]at h;simp only[YC,Ek]at h;exact h.2
def GU{en:List dN}(h:aP t en=true)(h6:t.1≠6):t.2=0:=by unfold aP at h;by_cases c:1≤t.1∧t.1≤5;rw[Cg c]at h;exact MW h;rw[zE c,zE h6]at h;cases h
def ovS_ty{d:aF}{r:aN}{vs:List aN}(hr:kc r t)(h:(ND d t i r vs).2=0):kc (ND d t i r vs).1 t:=by
 unfold ND at h⊢;split at h;cases h;rename_i c1;rw[zE c1];split at h;cases h;rename_i c2;rw[zE c2];have ht:kc (vs[d.2.toNat]?.getD GD) t:=by
  have c2:uO (vs[d.2.toNat]?.getD GD) t=true:=by simpa using c2
  unfold uO at c2;simp at c2;exact c2.2
 split at h;rename_i c3;rw[Cg c3];split at h;cases h;rename_i c4;rw[zE c4];exact hr;rename_i c3;rw[zE c3];repeat' split
 all_goals first|exact hr|exact ht
def LZ{d:aF}{t:ce}:∀(l:List (List aN)) (i:Nat) (r:aN),kc r t→(QR d t i r l).2=0→kc (QR d t i r l).1 t
 | [],i,r,hr,_=>hr
 | vs::l,i,r,hr,h=>by rw[QR]at h⊢;split at h;rename_i c;exact absurd h c;rename_i c;rw[zE c];exact LZ l _ _ (ovS_ty hr (Classical.byContradiction c)) h
def sa{n:Int}{l:List ce}(h:dS n l s=(t,0)):0≤n∧n<l.length∧t=rf l n:=by unfold dS at h;split at h;cases(Prod.mk.inj h).2;split at h;cases(Prod.mk.inj h).2;exact⟨So,So,(Prod.mk.inj h).1.symm⟩
def rtR{d:aF}{v:aN}(he:OM e env s)(hd:d.1=8→kc (env.2.2.1[d.2.toNat]?.getD GD) (rf s.2.2.2.1 d.2))(hv:aP t s.1=true)
 (h:(1≤d.1∧d.1≤9)∨(33≤d.1∧d.1≤39)) (ha:cO d args env=(v,0)) (ht:cn d tys s=(t,0)):kc v t:=by
 obtain⟨h1,h2,h3,h4,h5,h6,h7,h8⟩:=jY ha;unfold cn at ht;unfold eL at h8;split at ht;rename_i c;rw[Cg zo]at h8;unfold fS at ht;exact WX;rename_i c1;rw[zE zo]at h8;split at ht;rename_i c;rw[Cg c]at h8;unfold ke at ht;split at ht;cases(Prod.mk.inj ht).2;exact WX;rename_i c2;rw[zE c2]at h8;split at ht;rename_i c;rw[Cg c]at h8;obtain⟨q1,q2,q3⟩:=sa ht;have:=he.ins d.2.toNat zo;rw[J1 q1]at this;rw[←h8,q3];exact this;rename_i c3;rw[zE c3]at h8;split at ht;rename_i c;rw[Cg c]at h8;obtain⟨q1,q2,q3⟩:=sa ht;rw[←h8,q3];exact hd c;rename_i c4;rw[zE c4]at h8;split at ht;rename_i c;rw[Cg c]at h8;rw[←h8,←(Prod.mk.inj ht).1];exact⟨rfl,rfl⟩;rename_i c5;rw[zE c5]at h8;split at ht;rename_i c;rw[zE zo,zE zo]at h8;unfold fG at ht;split at ht;cases(Prod.mk.inj ht).2;split at ht;cases(Prod.mk.inj ht).2;split at ht;cases(Prod.mk.inj ht).2;rename_i z;have hz:aP (mR s.2.1 (jv d)).2.1 s.1=true:=by simpa using fun q=>z (.inl q)
 split at ht;rename_i c34;rw[zE zo,Cg c34]at h8;split at ht;cases(Prod.mk.inj ht).2;rename_i z2;have e1:=(Prod.mk.inj ht).1;have k3:t.1=3:=by rw[←e1];omega
 have:=GU hv zo;rw[←h8];exact⟨k3.symm,this.symm⟩;rename_i c34;have c33:d.1=33:=So;rw[Cg c33]at h8;have e1:=(Prod.mk.inj ht).1;have e2:F4 d.2 env=mR s.2.1 (jv d):=by unfold F4 mR jv;rw[zE c34,he.tabs];rfl
 rw[e2]at h8;split at h8;rename_i z3;unfold eL at h6;rw[zE zo,zE zo,zE zo,zE zo,zE zo,zE zo,zE zo,Cg c33,e2,Cg z3]at h6;cases h6;rw[←h8,←e1];exact⟨rfl,rfl⟩;rename_i c6;split at ht;rename_i c;unfold cp at ht;split at ht;cases(Prod.mk.inj ht).2;split at ht;rename_i c35;rw[Cg c35]at h8;rw[←h8,←(Prod.mk.inj ht).1];exact⟨rfl,rfl⟩;rename_i c35;rw[zE c35,Cg zo]at h8;split at ht;exact absurd (Prod.mk.inj ht).2 ‹_›;rename_i z;have z:(dS d.2 s.2.2.2.2.1 s).2=0:=Classical.byContradiction z;split at ht;have e1:=(Prod.mk.inj ht).1;obtain⟨q1,q2,q3⟩:=sa (Prod.ext e1 z:dS d.2 s.2.2.2.2.1 s=(t,0));have e2:DU d env=t:=by unfold DU;rw[he.mts,q3];rfl
 unfold eL at h6;rw[zE zo,zE zo,zE zo,zE zo,zE zo,zE zo,Cg zo]at h6;unfold ur at h6 h8;split at h8;rename_i z2;rw[Cg z2]at h6;cases h6;rename_i z2;rw[zE z2]at h6;rw[←h8];rw[e2]at h6⊢;exact LZ _ _ _ ⟨Z,Z⟩ h6;cases(Prod.mk.inj ht).2;omega
def rmR{d:aF}{v:aN}(hv:aP t s.1=true)
 (hty:args.length=tys.length) (hty2:∀k (h:k<args.length) (h':k<tys.length),kc args[k] tys[k]) (h:¬((1≤d.1∧d.1≤9)∨(33≤d.1∧d.1≤39))) (hz:¬gP d.1) (ha:cO d args env=(v,0)) (ht:cn d tys s=(t,0)):kc v t:=by
 obtain⟨h1,h2,h3,h4,h5,h6,h7,h8⟩:=jY ha;unfold gP at hz;unfold cn at ht;rw[zE zo,zE zo,zE zo,zE zo,zE zo,zE zo,zE zo]at ht;unfold eL at h8 h6;rw[zE zo,zE zo,zE zo,zE zo,zE zo,zE zo,zE zo,zE zo,zE zo]at h8 h6;split at ht;cases(Prod.mk.inj ht).2;split at ht;cases(Prod.mk.inj ht).2;rename_i hr;have hr:(aR d.1 tys).2=true:=acu;have ht:=(Prod.mk.inj ht).1;have hk:t.1≠6→v.1=t.1→kc v t:=fun q1 q2=>⟨q2,by rw[yl h7 (by rw[q2];exact q1),GU hv q1]⟩;have ha2:∀x∈args,da x=true:=fun x hx=>Qe.1 h4 x hx;match args,tys,hty with
 | [],_,_=>exfalso;simp[aW]at h2;omega
 | [a],[ta],_=>
  have t0:=hty2 0 Sp Sp;simp only[Fk]at t0;simp only[aR]at ht hr;simp only[unV]at h8;split at ht
  ·rename_i c;rw[Cg c]at h8 hr;have hn:2≤ta.1∧ta.1≤4:=by simpa[eT]using hr
   try dsimp only at ht
   subst ht;exact hk zo (by rw[←h8];exact t0.1)
  rename_i c;rw[zE c]at h8 hr;split at ht
  ·rename_i c;rw[Cg c]at h8;try dsimp only at ht
   subst ht;exact hk Sp (by rw[←h8];rfl)
  rename_i c;rw[zE c]at h8 hr;split at ht
  ·try dsimp only at ht
   subst ht;refine hk Sp ?_;rw[←h8];split<;>rfl
  rename_i c2;rw[zE c2]at hr;cases hr
 | [a,b],[ta,tb],_=>
  have t0:=hty2 0 Sp Sp;have t1:=hty2 1 Sp Sp;simp only[Fk,List.getElem_cons_succ]at t0 t1;simp only[aR]at ht hr;simp only[biV]at h8;split at ht
  ·rename_i c;rw[Cg c]at hr;have hn:2≤ta.1∧ta.1≤4:=by simp[eT]at hr;omega
   try dsimp only at ht
   subst ht;refine hk zo ?_;rw[←h8];rcases c with c|c;rw[Cg (.inl c)];exact t0.1;rw[zE zo,Cg c];exact t0.1
  rename_i c;rw[zE c]at hr;split at ht
  ·rename_i c2;rw[Cg c2]at hr;rw[zE zo,zE zo,Cg zo]at h8;have hsc:v.1=QH d a b:=by rw[←h8];rfl
   unfold ei at ht hr;unfold QH at hsc;have hv2:=hv;split at ht
   ·rename_i c3;rw[Cg c3]at hr;have hn:ta.1=3∨ta.1=4:=by simp at hr;exact hr.2
    try dsimp only at ht
    subst ht;refine hk (by show ta.1≠6;omega) ?_;rw[hsc,zE zo,Cg c3];exact t0.1
   rename_i c3;rw[zE c3]at hr;split at ht
   ·rename_i c4;rw[Cg c4]at hr;have hn:ta.1=2∨ta.1=3:=acu;try dsimp only at ht
    subst ht;refine hk (by show ta.1≠6;omega) ?_;rw[hsc];have q:=t1.1;(repeat' split)<;>first|exact t0.1|omega
   rename_i c4;rw[zE c4]at hr;split at ht
   ·rename_i c5;try dsimp only at ht
    subst ht;refine hk Sp ?_;have q:=t1.1;rw[hsc,zE zo,zE zo,zE zo,zE zo]
   rename_i c5;rw[zE c5]at hr;cases hr
  rename_i c2;rw[zE c2]at hr;split at ht
  ·rename_i c3;rw[Cg c3]at hr;rw[zE zo,zE zo,Cg zo]at h8;have hn:ta.1=3:=abd;have hsc:v.1=QH d a b:=by rw[←h8];rfl
   unfold QH at hsc;try dsimp only at ht
   subst ht;refine hk zo ?_;rw[hsc,zE zo,zE zo,Cg c3];exact t0.1
  rename_i c3;rw[zE c3]at hr;split at ht
  ·rename_i c4;rw[Cg c4]at hr;rw[zE zo,zE zo,zE zo,Cg c4]at h8;have hn:ta=tb:=abd;try dsimp only at ht
   subst ht;rw[←h8];split;rw[hn];exact t1;exact t0
  rename_i c4;rw[zE c4]at hr;split at ht
  ·rename_i c5;try dsimp only at ht
   subst ht;refine hk Sp ?_;rw[←h8];rcases c5 with c5|c5;rw[zE zo,zE zo,zE zo,zE zo,Cg c5];rfl;rw[zE zo,zE zo,zE zo,zE zo,zE zo,Cg c5];rfl
  rename_i c5;rw[zE c5]at hr;split at ht
  ·rename_i c6;try dsimp only at ht
   subst ht;refine hk Sp ?_;rw[←h8];rcases c6 with c6|c6;rw[zE zo,zE zo,zE zo,zE zo,zE zo,zE zo,Cg c6];rfl;rw[zE zo,zE zo,zE zo,zE zo,zE zo,zE zo,zE zo,Cg c6];rfl
  rename_i c6;rw[zE c6]at hr;split at ht;omega;rename_i c7;rw[zE c7]at hr;split at ht
  ·rename_i c8;rw[Cg c8]at hr;have hn:ta.1=5:=abd;try dsimp only at ht
   subst ht;refine hk zo ?_;rw[←h8];rcases c8 with c8|c8;rw[Cg (.inr c8)];exact t0.1;rw[zE zo,zE zo,zE zo,zE zo,zE zo,zE zo,zE zo,zE zo,zE zo,zE zo,Cg c8];exact hn.symm
  rename_i c8;rw[zE c8]at hr;split at ht
  ·rename_i c9;try dsimp only at ht
   subst ht;refine hk Sp ?_;rw[←h8];rw[zE zo,zE zo,zE zo,zE zo,zE zo,zE zo,zE zo,zE zo,zE zo,zE zo,zE zo];split<;>rfl
  rename_i c9;rw[zE c9]at hr;cases hr
 | [a,b,c],[ta,tb,tc],_=>simp only[aR]at hr;rw[zE zo]at hr;cases hr
 | _::_::_::_::_,_::_::_::_::_,_=>simp[aR]at hr
def BS{F:Int→aN×Int}:∀(l:List Int) (acc:List aN),(fE F l acc).2=0→(fE F l acc).1=acc++l.map (fun o=>(F o).1)∧∀o∈l,(F o).2=0
 | [],acc,_=>by simp[fE]
 | o::l,acc,h=>by rw[fE]at h⊢;split at h;rename_i c;exact absurd h c;rename_i c;rw[zE c];obtain⟨q1,q2⟩:=BS l _ h;exact⟨by rw[q1];simp,fun x hx=>by rcases L5.1 hx with rfl|hx;exact Classical.byContradiction c;exact q2 x hx⟩
def Gq{e:List aF}{env:cP}{s:bG}{ty:Nat→ce}(hs:(bK e).2.2=0)(he:OM e env s)(hT:∀i (h:i<e.length),Q6 e s ty i h):∀(n i:Nat),i<n→i<e.length→(ze e env n (i:Int)).2=0→kc (ze e env n (i:Int)).1 (ty i)
 | n+1,i,hi,h,h0=>by
  obtain⟨_,_,_,_,_,hl,_,ho⟩:=r5 hs h;obtain⟨_,_,_,hnt,hval⟩:=hT i h;have hfm:∀o∈bV e (i:Int),(ze e env n o).2=0→kc (ze e env n o).1 (ty o.toNat):=fun o hm=>by obtain⟨k,hk,rfl⟩:=Fe.1 hm;obtain⟨q1,q2,_⟩:=ho k hk;have:=Gq (env:=env) hs he hT n (bV e (i:Int))[k].toNat zo zo;rwa [J1 q1]at this
  have hpl:=C4 (env:=env) hs (n+1) i hi h h0;rw[ze]at h0 hpl⊢;simp only[K4,RY h,YM]at h0 hpl⊢;split at h0;rename_i hz;rw[Cg hz]at hpl⊢;have h1:=rI (op:=e[i].1);unfold cn at hnt;rw[zE zo,zE zo,zE zo,zE zo,zE zo,zE zo,zE zo,zE zo]at hnt;split at hnt;cases(Prod.mk.inj hnt).2;rename_i hr;have hnt:=(Prod.mk.inj hnt).1;have hr:(aR e[i].1 ((bV e (i:Int)).map fun z=>ty z.toNat)).2=true:=acu;by_cases ha:e[i].1=23∨e[i].1=24;have har:=h1.1 ha;generalize bV e (i:Int)=l at *
  match l,hl with
  | [x,y],_=>
   simp only[zr,Fx,aR]at hnt;rw[zE zo,zE zo,zE zo,zE zo,zE zo,zE zo,Cg ha]at hnt;have hk:(nW e[i] [x,y] (ze e env n)).1.1=1:=by unfold nW at h0⊢;split at h0;cases h0;rename_i c1;rw[zE c1];split at h0;rename_i c2;exact absurd h0 c2;rename_i c2;rw[zE c2,zE zo,zE zo];rw[zE zo,zE zo]at h0;split at h0;rename_i c3;rw[Cg c3];obtain⟨q1,q2,q3,q4⟩:=vp (Classical.byContradiction c2);rw[q4];exact q2;rename_i c3;rw[zE c3];obtain⟨q1,q2,q3,q4⟩:=vp h0;rw[q4];exact q2
   rw[←hnt];exact⟨hk,yl hpl zo⟩
  | [],hl=>simp at hl;omega
  | [_],hl=>simp at hl;omega
  | _::_::_::_,hl=>simp at hl;omega
  have h26:e[i].1=26:=So;have har:=h1.2 h26;generalize bV e (i:Int)=l at *
  match l,hl with
  | [x,y,z],_=>
   simp only[zr,Fx,aR]at hnt hr;rw[Cg h26]at hnt hr;have hyz:ty y.toNat=ty z.toNat:=by simp at hr;exact hr.2
   unfold nW at h0⊢;split at h0;cases h0;rename_i c1;rw[zE c1];split at h0;rename_i c2;exact absurd h0 c2;rename_i c2;rw[zE c2];split at h0;rename_i c3;rw[Cg c3];have:=hfm y Sp h0;rw[←hnt];exact this;rename_i c3;rw[zE c3,Cg h26];have:=hfm z Sp h0;rw[←hnt];show kc _ (ty y.toNat);rw[hyz];exact this
  | [],hl=>simp at hl;omega
  | [_],hl=>simp at hl;omega
  | [_,_],hl=>simp at hl;omega
  | _::_::_::_::_,hl=>simp at hl;omega
  rename_i hz;rw[zE hz];split at h0;rename_i c1;exact absurd h0 c1;rename_i c1;rw[zE c1];have c1:(fE (ze e env n) (bV e (i:Int)) []).2=0:=Classical.byContradiction c1;obtain⟨q1,q2⟩:=BS _ _ c1;have ea:cO e[i] (fE (ze e env n) (bV e (i:Int)) []).1 env=((cO e[i] (fE (ze e env n) (bV e (i:Int)) []).1 env).1,0):=Prod.ext rfl h0;by_cases hc:(1≤e[i].1∧e[i].1≤9)∨(33≤e[i].1∧e[i].1≤39);exact rtR he (fun c=>he.defs i h c) hval hc ea hnt;refine rmR hval (by rw[q1];simp) (fun k hk hk'=>?_) hc hz ea hnt;simp only[q1,Km,Qo];exact hfm _ (aA _) (q2 _ (aA _))
def ifC(ht:(fF e s).2.2=0)(he:OM e env s):f7 (m3 e) env (if(dM e env).2=0 then((dM e env).1,0)else(GD,(dM e env).2)) 0 []∧((dM e env).2=0→kc (dM e env).1 (fF e s).1∧da (dM e env).1=true):=by
 have hs:=im ht;obtain⟨ty,h0,hT,ety⟩:=Rb ht;refine⟨DnI hs (fun i h hz=>?_) (fun i h ha n hn h0=>?_),fun h0=>?_⟩;obtain⟨_,_,hu,_,_⟩:=hT i h;refine Classical.byContradiction fun c=>hu ⟨c,?_⟩;unfold gP at hz;unfold fd;simp;omega;obtain⟨_,_,_,_,_,hl,_,ho⟩:=r5 hs h;obtain⟨_,_,_,hnt,hval⟩:=hT i h;have har:=rI.1 ha;have hk:1<(bV e (i:Int)).length:=So;rw[RY hk,YM]at hn h0⊢;obtain⟨q1,q2,_⟩:=ho 1 hk;have:=Gq (env:=env) hs he hT n (bV e (i:Int))[1].toNat hn zo;rw[J1 q1]at this;have:=this h0;have e1:(ty (bV e (i:Int))[1].toNat).1=1:=by
  unfold cn at hnt;rw[zE zo,zE zo,zE zo,zE zo,zE zo,zE zo,zE zo,zE zo]at hnt;split at hnt;cases(Prod.mk.inj hnt).2;rename_i hr;have hr:(aR e[i].1 ((bV e (i:Int)).map fun z=>ty z.toNat)).2=true:=acu;generalize bV e (i:Int)=l at *
  match l,hl with
  | [x,y],_=>simp only[zr,Fx,aR]at hr;rw[zE zo,zE zo,zE zo,zE zo,zE zo,zE zo,Cg ha]at hr;simp at hr;exact hr.2
  | [],hl=>simp at hl;omega
  | [_],hl=>simp at hl;omega
  | _::_::_::_,hl=>simp at hl;omega
 rw[this.1,e1];have h48:=ep hs;have e1:((e.length-1:Nat):Int)=(e.length:Int)-1:=So;have hv:dM e env=ze e env e.length ((e.length:Int)-1):=by unfold dM;rw[zE zo]
 rw[hv]at h0⊢;rw[←e1]at h0⊢;rw[ety];exact⟨Gq hs he hT e.length (e.length-1) zo zo h0,C4 hs e.length (e.length-1) zo zo h0⟩
def yW(d:aF):aN:=(j3 d).getD GD
def oa(c:List aF)(at_:Nat)(d:aF):Bool:=
 decide (bO d.1)||decide (aW d.1<1)||decide ((at_:Int)<aW d.1)||!((c.drop (at_-(aW d.1).toNat)).take (aW d.1).toNat).all (fun d=>(j3 d).isSome)
  ||c.any (fun j=>decide (bO j.1∧(at_:Int)-aW d.1<j.2∧j.2≤at_))
def lz(c:List aF)(at_:Nat)(d:aF):List aN:=((c.drop (at_-(aW d.1).toNat)).take (aW d.1).toNat).map yW
def fg(c:List aF)(at_:Nat)(d:aF):aF×Int×Bool:=
 if oa c at_ d=true then((0,0),0,false)else if(cO d (lz c at_ d) mV).2≠0 then((0,0),0,false)else(oU (cO d (lz c at_ d) mV).1,aW d.1,true)
def w5(at_ m:Nat)(d:aF):aF:=if bO d.1∧(at_:Int)<d.2 then(d.1,d.2-m)else d
def kU(c:List aF)(at_ m:Nat)(l:aF):List aF:=(c.take (at_-m)++l::c.drop (at_+1)).map (w5 at_ m)
def tV(c:List aF):List aF→Nat→Option Nat
 | [],_=>none
 | d::r,i=>if(fg c i d).2.2=true then some i else tV c r (i+1)
def lk:Nat→List aF→List aF
 | 0,c=>c
 | f+1,c=>match tV c c 0 with
  | none=>c
  | some i=>lk f (kU c i (fg c i (c[i]?.getD (0,0))).2.1.toNat (fg c i (c[i]?.getD (0,0))).1)
def tu(c:List aF):Nat→Int→Int
 | 0,t=>t
 | f+1,t=>if 0≤t∧t<c.length∧(c[t.toNat]?.getD (0,0)).1=51∧t<(c[t.toNat]?.getD (0,0)).2 then tu c f (c[t.toNat]?.getD (0,0)).2 else t
def At(c:List aF)(d:aF):aF:=if bO d.1 then(d.1,tu c (c.length+1) d.2)else d
def iK(c:List aF):List aF:=c.map (At c)
def M8(rs:List Bool)(i:Nat)(d:aF):List Bool:=
 if rs[i]?.getD false=false then rs else
  if bO d.1 then(if d.1=51 then rs else rs.set (i+1) true).set d.2.toNat true else(if d.1=51 then rs else rs.set (i+1) true)
def sD:List aF→Nat→List Bool→List Bool
 | [],_,rs=>rs
 | d::r,i,rs=>sD r (i+1) (M8 rs i d)
def mL(c:List aF):List Bool:=sD c 0 ((List.replicate (c.length+1) false).set 0 true)
def iA(c:List aF):List Bool:=(List.range c.length).map fun i=>(mL c)[i]?.getD false&&!decide ((c[i]?.getD (0,0))=(51,((i+1:Nat):Int)))
def oY(k:List Bool)(x:Nat):Nat:=((k.take x).filter id).length
def w4(k:List Bool)(d:aF):aF:=if bO d.1 then(d.1,(oY k d.2.toNat:Int))else d
def fX:List aF→List Bool→List aF
 | d::c,b::k=>if b=true then d::fX c k else fX c k
 | _,_=>[]
def qZ(c:List aF):List aF:=(fX c (iA c)).map (w4 (iA c))
def tA:Nat→List aF→List aF
 | 0,c=>c
 | f+1,c=>if(iA c).all id=true then c else tA f (qZ c)
def F0(c:List aF):List aF:=tA (iK (lk c.length c)).length (iK (lk c.length c))
section
variable{S:Type}{T:aF→S→List (Bool×S)→Prop}{E:S→Prop}{pu:aN→S→S}
def CX{c:List aF}:∀(l:List aF) (i k:Nat),tV c l i=some k→∃(j:Nat) (h:j<l.length),k=i+j∧(fg c k l[j]).2.2=true
 | [],i,k,h=>by cases h
 | d::r,i,k,h=>by rw[tV]at h;split at h;rename_i q;injection h with h;subst h;exact⟨0,Sp,rfl,q⟩;obtain⟨j,hj,e,q⟩:=CX r (i+1) k h;exact⟨j+1,JP,So,acI⟩
def uR{d:aF}(h:(fg c i d).2.2=true):oa c i d=false∧(cO d (lz c i d) mV).2=0∧fg c i d=(oU (cO d (lz c i d) mV).1,aW d.1,true):=by unfold fg at h⊢;split at h;cases h;rename_i h1;rw[zE h1];split at h;cases h;rename_i h2;rw[zE h2];exact⟨LF,Classical.byContradiction h2,rfl⟩
def EvC(ht:TT T pu)(hi:i<c.length)(h:(fg c i c[i]).2.2=true){s:S}(hp:Px T E c 0 s):Px T E (kU c i (fg c i c[i]).2.1.toNat (fg c i c[i]).1) 0 s∧(kU c i (fg c i c[i]).2.1.toNat (fg c i c[i]).1).length<c.length:=by
 obtain⟨h1,h2,h3⟩:=uR h;rw[h3];obtain⟨d,hd⟩:∃d,c[i]=d:=⟨_,rfl⟩;rw[hd]at h1 h2 h3⊢;simp only;obtain⟨m,hm⟩:∃m,m=(aW d.1).toNat:=⟨_,rfl⟩;unfold oa at h1;simp only[afn,MF,Bool.not_eq_false',Qe,afq,Ek,←hm]at h1;obtain⟨⟨⟨⟨q1,q2⟩,q3⟩,q4⟩,q5⟩:=h1;have e0:cO d (lz c i d) mV=((cO d (lz c i d) mV).1,0):=Prod.ext rfl h2;generalize (cO d (lz c i d) mV).1=v at e0⊢;have hpl:=(jY e0).2.2.2.1;unfold lz at e0 hpl;rw[←hm]at e0 hpl⊢;have hl:((c.drop (i-m)).take m).length=m:=QE;have hlen:(kU c i m (oU v)).length+m=c.length:=by unfold kU;simp;omega
 refine⟨?_,So⟩;have key:=ac8 (E:=E) (code:=c) (code':=kU c i m (oU v)) (p:=i-m) (a:=m) (d:=d) (vs:=((c.drop (i-m)).take m).map yW) (v:=v) (adj:=w5 i m) ht
  (fun d=>⟨by unfold w5;split<;>rfl,fun hj=>by unfold w5;rw[zE (fun q=>hj q.1)],fun hj=>by
   unfold w5;rw[show i-m+m=i by omega]
   split
   ·rename_i z;rw[Cg z.2]
   rename_i z;rw[zE (fun q=>z ⟨hj,q⟩)]⟩)
  (fun x hx=>by
   unfold kU;rw[cr,NH QE,rD hx])
  (by
   unfold kU;rw[cr,l9 QE]
   have:i-m-(c.take (i-m)).length=0:=QE
   rw[this];simp only[afs,Lf]
   unfold w5;rw[zE (fun q=>acM v q.1)])
  (fun x hx=>by
   unfold kU;rw[cr,l9 QE]
   have:x-m-(c.take (i-m)).length=(x-i-1)+1:=QE
   rw[this,afu,KE,show i+1+(x-i-1)=x by omega])
  hlen
  (fun j hj=>by
   have hjm:j<m:=by simp at hj;omega
   have e1:((c.drop (i-m)).take m)[j]'zo=c[i-m+j]'zo:=Sp
   have q:=q4 (((c.drop (i-m)).take m)[j]'zo) (aA _)
   have hpj:=Qe.1 hpl _ (aA hj)
   rw[Qo,e1]at hpj⊢
   rw[e1]at q
   obtain⟨w,hw⟩:=Option.isSome_iff_exists.1 q
   refine⟨_,RY zo,?_,hpj⟩
   unfold yW;rw[hw];rfl)
  QE (by rw[show i-m+m=i by omega,RY hi,hd]) (fun e=>by have:=congrArg List.length e;simp at this;omega)
  (fun x j hx hj g1 g2=>by
   have:=q5 j (nL hx)
   exact this ⟨hj,So,So⟩)
  e0 q1 hp
 obtain⟨k1,k2,_⟩:=key;by_cases c0:0<i-m;exact k1 c0;have:=k2 0 (P8 _) zo s Sp;rwa [show i-m=0 by omega]at this
def uT(ht:TT T pu):∀(f:Nat) (c:List aF) (s:S),Px T E c 0 s→Px T E (lk f c) 0 s∧(lk f c).length≤c.length
 | 0,c,s,h=>⟨h,Kl _⟩
 | f+1,c,s,h=>by
  rw[lk];cases hq:tV c c 0 with
  | none=>exact⟨h,Kl _⟩
  | some i=>obtain⟨j,hj,e,q⟩:=CX c 0 i hq;have e:i=j:=So;subst e;simp only[RY hj,YM];obtain⟨k1,k2⟩:=EvC ht hj q h;obtain⟨k3,k4⟩:=uT ht f _ s k1;exact⟨k3,So⟩
def DD(c:List aF):∀(f:Nat) (t:Int),Fol c t (tu c f t)
 | 0,t=>.refl
 | f+1,t=>by rw[tu];split;rename_i h;obtain⟨h1,h2,h3,h4⟩:=h;have hl:t.toNat<c.length:=So;rw[RY hl,YM]at h3 h4⊢;exact .step h1 (by rw[RY hl];exact congrArg some (Prod.ext h3 rfl)) h4 (DD c f _);exact .refl
def vD(ht:TT T pu){s:S}(h:Px T E c 0 s):Px T E (iK c) 0 s:=by have:=adk (code':=iK c) ht (by simp[iK]) (fun x d hx hj=>aai) (fun x d hx hj=>⟨tu c (c.length+1) d.2,aai,DD c _ _⟩) h 0 .refl;simpa using this
def Fa:∀(c:List aF) (k:List Bool) (x:Nat) (d:aF),k.length=c.length→c[x]?=some d→k[x]?=some true→(fX c k)[oY k x]?=some d
 | d0::c,b::k,0,d,hl,h1,h2=>by
  simp at h1 h2;subst h1;subst h2
  simp[fX,oY]
 | d0::c,b::k,x+1,d,hl,h1,h2=>by
  simp at h1 h2
  have:=Fa c k x d FM h1 h2
  unfold oY at this⊢
  cases b<;>simp[fX,this]
def z6:∀(c:List aF) (k:List Bool),k.length=c.length→(fX c k).length=oY k c.length
 | [],[],_=>rfl
 | d::c,b::k,hl=>by have:=z6 c k FM;unfold oY at this⊢;cases b<;>simp[fX,this]
def zEn{k:List Bool}(h:x<k.length):oY k (x+1)=oY k x+if k[x]?.getD false=true then 1 else 0:=by unfold oY;rw[px h,NZ,Yl,RY h,YM];cases k[x]<;>simp
def m7(rs:List Bool)(i:Nat)(d:aF):(M8 rs i d).length=rs.length:=by unfold M8;(repeat' split)<;>simp
def ae9{d:aF}(h:rs[x]?.getD false=true):(M8 rs i d)[x]?.getD false=true:=by
 have hs:∀(l:List Bool) (j:Nat),l[x]?.getD false=true→(l.set j true)[x]?.getD false=true:=fun l j h=>by rw[Ku];split;split;rfl;rename_i e c;subst e;rw[jp zo]at h;exact h;exact h
 unfold M8;(repeat' split)<;>first|exact h|exact hs _ _ h|exact hs _ _ (hs _ _ h)
def rU:∀(l:List aF) (i:Nat) (rs:List Bool) (x:Nat),rs[x]?.getD false=true→(sD l i rs)[x]?.getD false=true
 | [],i,rs,x,h=>h
 | d::r,i,rs,x,h=>rU r (i+1) _ x (ae9 h)
def q8{d:aF}(hd:c[i]?=some d)(h:∀x,rs[x]?.getD false=true→∃s,Gd c x s):(∀x,(M8 rs i d)[x]?.getD false=true→∃s,Gd c x s):=by
 intro x hx;unfold M8 at hx;split at hx;exact h x hx;rename_i hi;have hi:rs[i]?.getD false=true:=Dq;obtain⟨s,hs⟩:=h i hi;cases hs with
 | fin _=>have:=(Y0.1 hd).1;omega
 | @step _ _ d' outs g1 g2 g3 g4=>
  rw[hd]at g1;injection g1 with g1;subst g1;have hset:∀(l:List Bool) (j:Nat),(l.set j true)[x]?.getD false=true→l[x]?.getD false=true∨x=j:=fun l j q=>by rw[Ku]at q;split at q;exact .inr zo;exact .inl q
  have n1:d.1≠51→∃s,Gd c (i+1) s:=fun q=>by rcases g2 with g|g|g|g;exact absurd g.1 q;have:=g4 (false,s-1) Of;exact⟨_,this⟩;have:=g4 (false,s-1) Of;exact⟨_,this⟩;have:=g4 _ aap;exact⟨_,this⟩
  have n2:bO d.1→∃s,Gd c d.2.toNat s:=fun q=>by rcases g2 with g|g|g|g;have:=g4 (true,s) (by rw[g.2];simp);exact⟨_,this⟩;have:=g4 (true,s-1) Of;exact⟨_,this⟩;have:=g4 (true,s) Of;exact⟨_,this⟩;have:=qC q;omega
  split at hx;rename_i hj;rcases hset _ _ hx with q|q;split at q;exact h x q;rename_i h51;rcases hset _ _ q with q|q;exact h x q;rw[q];exact n1 h51;rw[q];exact n2 hj;split at hx;exact h x hx;rename_i h51;rcases hset _ _ hx with q|q;exact h x q;rw[q];exact n1 h51
def Hz{c:List aF}:∀(l:List aF) (i:Nat) (rs:List Bool),c.drop i=l→(∀x,rs[x]?.getD false=true→∃s,Gd c x s)→(∀x,(sD l i rs)[x]?.getD false=true→∃s,Gd c x s)
 | [],i,rs,e,h=>h
 | d::r,i,rs,e,h=>by have hd:c[i]?=some d:=aaA;refine Hz r (i+1) _ ?_ (q8 hd h);have:=congrArg List.tail e;simpa using this
def wB{c:List aF}(hb:∀(x:Nat) (d:aF) (s:Nat),c[x]?=some d→Gd c x s→bO d.1→(x:Int)<d.2∧d.2≤c.length):∀(l:List aF) (i:Nat) (rs:List Bool),c.drop i=l→rs.length=c.length+1→(∀x,rs[x]?.getD false=true→∃s,Gd c x s)→
 ∀(x:Nat) (d:aF),i≤x→c[x]?=some d→(sD l i rs)[x]?.getD false=true→(d.1≠51→(sD l i rs)[x+1]?.getD false=true)∧(bO d.1→(sD l i rs)[d.2.toNat]?.getD false=true)
 | [],i,rs,e,hl,hg,x,d,hx,hd,_=>by
  have h1:c.length≤i:=Lm
  have:=(Y0.1 hd).1
  omega
 | d0::r,i,rs,e,hl,hg,x,d,hx,hd,hr=>by
  have hd0:c[i]?=some d0:=aaA
  have he:c.drop (i+1)=r:=by have:=congrArg List.tail e;simpa using this
  have hil:=(Y0.1 hd0).1
  have hgd:=q8 hd0 hg
  by_cases hxi:i=x
  ·subst hxi
   rw[hd0]at hd;injection hd with hd;subst hd
   have hback:∀(l:List aF) (j:Nat) (rs:List Bool),c.drop j=l→i<j→rs.length=c.length+1→(∀x,rs[x]?.getD false=true→∃s,Gd c x s)→(sD l j rs)[i]?.getD false=true→rs[i]?.getD false=true:=fun l=>by
    induction l with
    | nil=>intro j rs _ _ _ _ h;exact h
    | cons d1 l ih=>
     intro j rs ej hij hl hg h
     have hd1:c[j]?=some d1:=by have:=congrArg (·[0]?) ej;simpa using this
     have:=ih (j+1) (M8 rs j d1) (by have:=congrArg List.tail ej;simpa using this) zo (by rw[m7];exact hl) (q8 hd1 hg) h
     have hset:∀(l:List Bool) (y:Nat),(l.set y true)[i]?.getD false=true→i≠y→l[i]?.getD false=true:=fun l y q hy=>by
      rw[Ku,zE (fun z=>hy z.symm)]at q;exact q
     unfold M8 at this
     split at this
     ·exact this
     rename_i hj
     have hj:rs[j]?.getD false=true:=JP
     obtain⟨s,hs⟩:=hg j hj
     split at this
     ·rename_i hjj
      have q:=hset _ _ this (by have:=(hb j d1 s hd1 hs hjj).1;omega)
      split at q
      ·exact q
      exact hset _ _ q zo
     split at this
     ·exact this
     exact hset _ _ this zo
   have hri:=hback r (i+1) (M8 rs i d0) he zo (by rw[m7];exact hl) hgd hr
   have hri0:rs[i]?.getD false=true:=by
    have hset:∀(l:List Bool) (y:Nat),(l.set y true)[i]?.getD false=true→i≠y→l[i]?.getD false=true:=fun l y q hy=>by
     rw[Ku,zE (fun z=>hy z.symm)]at q;exact q
    refine Classical.byContradiction fun c0=>?_
    have c0:rs[i]?.getD false=false:=by simpa using c0
    unfold M8 at hri
    rw[Cg c0,c0]at hri;cases hri
   obtain⟨s,hs⟩:=hg i hri0
   refine⟨fun h51=>rU r (i+1) _ _ ?_,fun hj=>rU r (i+1) _ _ ?_⟩
   ·unfold M8
    rw[zE (by simp[hri0]),zE h51]
    have q:(rs.set (i+1) true)[i+1]?.getD false=true:=by rw[pw zo];rfl
    split
    ·rw[Ku]
     split
     ·split
      ·rfl
      rename_i z1 z2;rw[QC]at z2;omega
     exact q
    exact q
   obtain⟨b1,b2⟩:=hb i d0 s hd0 hs hj
   unfold M8
   rw[zE (by simp[hri0]),Cg hj]
   rw[pw (by split<;>(try simp only[QC])<;>omega)];rfl
  exact wB hb r (i+1) _ he (by rw[m7];exact hl) hgd x d zo hd hr
def CU:∀(x:Nat) (d:aF) (s:Nat),c[x]?=some d→Gd c x s→bO d.1→(x:Int)<d.2∧d.2≤c.length:=fun x d s hd h hj=>by
 cases h with
 | fin _=>have:=(Y0.1 hd).1;omega
 | @step _ _ d' outs g1 g2 g3 g4=>
  rw[hd]at g1;injection g1 with g1;subst g1;obtain⟨s',hs'⟩:∃s',(true,s')∈outs:=by rcases g2 with g|g|g|g;exact⟨s,by rw[g.2];simp⟩;exact⟨s-1,Of⟩;exact⟨s,Of⟩;have:=qC hj;omega
  have h1:=g3 _ hs' rfl;have h2:=HD (g4 _ hs');simp only[if_true]at h2;omega
def LM(hg:Gd c 0 0):(mL c)[0]?.getD false=true∧(∀x,(mL c)[x]?.getD false=true→∃s,Gd c x s)∧
 ∀(x:Nat) (d:aF),c[x]?=some d→(mL c)[x]?.getD false=true→(d.1≠51→(mL c)[x+1]?.getD false=true)∧(bO d.1→(mL c)[d.2.toNat]?.getD false=true):=by
 have h0:((List.replicate (c.length+1) false).set 0 true)[0]?.getD false=true:=Sp;have hgd:∀x,((List.replicate (c.length+1) false).set 0 true)[x]?.getD false=true→∃s,Gd c x s:=fun x hx=>by exact Wc
 exact⟨rU _ _ _ _ h0,Hz c 0 _ Z hgd,fun x d hd hr=>wB CU c 0 _ Z Sp hgd x d (P8 _) hd hr⟩
def iZ(c:List aF):(iA c).length=c.length:=by simp[iA]
def pk{d:aF}(h:c[x]?=some d):(iA c)[x]?=some ((mL c)[x]?.getD false&&!decide (d=(51,((x+1:Nat):Int)))):=by have hl:=(Y0.1 h).1;unfold iA;rw[cr,List.getElem?_range hl];simp only[Lf,h,YM]
def FW(ht:TT T pu)(hg:Gd c 0 0){s:S}(h:Px T E c 0 s):Px T E (qZ c) 0 s:=by
 obtain⟨r1,r2,r3⟩:=LM hg;have:=adm (code':=qZ c) (keep:=fun x=>(iA c)[x]?.getD false) (π:=oY (iA c)) (R:=fun x=>(mL c)[x]?.getD false=true) ht
  (fun x hx=>zEn (by rw[iZ];exact hx)) (by unfold qZ;rw[QJ,z6 _ _ (iZ c)])
  (fun x d hd hk=>by
   have hk:(iA c)[x]?.getD false=true:=hk
   rw[pk hd]at hk
   have:=Fa c (iA c) x d (iZ c) hd (by rw[pk hd];exact congrArg some hk)
   refine⟨w4 (iA c) d,by unfold qZ;rw[cr,this];rfl,by unfold w4;split<;>rfl,fun hj=>by unfold w4;rw[zE hj],fun hj _=>by unfold w4;rw[Cg hj]⟩)
  (fun x d hd hk hR=>by
   have hk:(iA c)[x]?.getD false=false:=hk
   rw[pk hd,YM,hR]at hk
   simpa using hk)
  (fun x d hd hR=>r3 x d hd hR) h r1
 simpa[oY]using this
def C0:∀(c:List aF) (k:List Bool),(fX c k).length≤c.length∧(k.length=c.length→k.all id=false→(fX c k).length<c.length)
 | [],k=>⟨by simp[fX],fun hl h=>by have:k=[]:=jC.1 FM;subst this;simp at h⟩
 | d::c,[]=>by simp[fX]
 | d::c,b::k=>by obtain⟨h1,h2⟩:=C0 c k;cases b;simp[fX];exact⟨So,by intros;omega⟩;simp[fX];exact⟨h1,fun hl=>by simpa using h2 hl⟩
def Hx(ht:TT T pu):∀(f:Nat) (c:List aF) (s:S),Gd c 0 0→Px T E c 0 s→Px T E (tA f c) 0 s
 | 0,c,s,hg,h=>h
 | f+1,c,s,hg,h=>by rw[tA];split;exact h;exact Hx ht f _ s (FW FJ hg hg) (FW ht hg h)
def D1:∀(f:Nat) (c:List aF),(tA f c).length≤c.length
 | 0,c=>Kl _
 | f+1,c=>by
  rw[tA];split;exact Kl _;have:=D1 f (qZ c);have:=(C0 c (iA c)).1;have e:(qZ c).length=(fX c (iA c)).length:=by simp[qZ]
  omega
def L2(ht:TT T pu){s:S}(hg:Gd c 0 0)(h:Px T E c 0 s):Px T E (F0 c) 0 s∧(F0 c).length≤c.length:=by obtain⟨h1,h2⟩:=uT ht c.length c s h;obtain⟨g1,_⟩:=uT (E:=fun s=>s=1) FJ c.length c 0 hg;refine⟨Hx ht _ _ _ (vD FJ g1) (vD ht h1),?_⟩;unfold F0;have:=D1 (iK (lk c.length c)).length (iK (lk c.length c));simp only[iK,QJ]at this⊢;omega
end
def DN(xs:List aN):Ct prog 61 [.tv (ag aK) xs,.tv (ag aK) xs] (.raw (.bool (true))):=by
 refine Yk func61 ntmps61 fun w0 ok0=>?_;refine fT 0 Z (fun hl0=>?_);refine Ks ?_ ?_<;>intro h1;simp at h1;try simp at h1
 refine Y9 ?_;refine bf (ι:=Nat) (fun k=>⟨[(0,.tv (ag aK) xs),(1,.tv (ag aK) xs),(5,Sx ((k:Nat)))],[]⟩) (fun k=>k≤xs.length) (fun k=>xs.length-k) 0 (P8 _) (fun a w hi=>(zI hi)) ?_;rintro k hk;refine Ks ?_ ?_<;>intro h4
 ·try simp at h4
  refine Lc ?_;refine GP (oA eq183 Z Z eg183 (.tv (.b Z)) (.tv (.b Z))) (jd0 ?_);exact Wh
 try simp at h4
 refine dy ?_;exact z1 results61 Z (Z)
def DQ(xs:List Int):Ct prog 62 [.tv (ag (ay .i64)) xs,.tv (ag (ay .i64)) xs] (.raw (.bool (true))):=by
 refine Yk func62 ntmps62 fun w0 ok0=>?_;refine fT 0 Z (fun hl0=>?_);refine Ks ?_ ?_<;>intro h1;simp at h1;try simp at h1
 refine Y9 ?_;refine bf (ι:=Nat) (fun k=>⟨[(0,.tv (ag (ay .i64)) xs),(1,.tv (ag (ay .i64)) xs),(5,Sx ((k:Nat)))],[]⟩) (fun k=>k≤xs.length) (fun k=>xs.length-k) 0 (P8 _) (fun a w hi=>(zI hi)) ?_;rintro k hk;refine Ks ?_ ?_<;>intro h4
 ·try simp at h4
  refine J4 ?_;exact Wh
 try simp at h4
 refine dy ?_;exact z1 results62 Z (Z)
def afa(m:i6):Ct prog 109 [.tv cu m,.tv cu m] (.raw (.bool (true))):=by refine Yk func109 ntmps109 fun w0 ok0=>?_;refine MY ?_;refine YK (DN _) ?_;refine Y5 ?_;refine zG Z Z (fun hg=>an (DQ _) (.cons (.gd Z hg) (.cons (.gd Z hg) .nil)) Z Z) (Y5 ?_);exact z1 results109 Z (Z)
def afb(xs:List i6):Ct prog 63 [.tv (ag cu) xs,.tv (ag cu) xs] (.raw (.bool (true))):=by
 refine Yk func63 ntmps63 fun w0 ok0=>?_;refine fT 0 Z (fun hl0=>?_);refine Ks ?_ ?_<;>intro h1;simp at h1;try simp at h1
 refine Y9 ?_;refine bf (ι:=Nat) (fun k=>⟨[(0,.tv (ag cu) xs),(1,.tv (ag cu) xs),(5,Sx ((k:Nat)))],[]⟩) (fun k=>k≤xs.length) (fun k=>xs.length-k) 0 (P8 _) (fun a w hi=>(zI hi)) ?_;rintro k hk;refine Ks ?_ ?_<;>intro h4
 ·try simp at h4
  refine Lc ?_;refine GP (an (afa _) (.cons (.b Z) (.cons (.b Z) .nil)) Z Z) (Y2 ?_);exact Wh
 try simp at h4
 refine dy ?_;exact z1 results63 Z (Z)
def DP(m:sB):Ct prog 18 [.tv cZ m,.tv cZ m] (.raw (.bool (true))):=by refine Yk func18 ntmps18 fun w0 ok0=>?_;refine MY ?_;refine YK (DN _) ?_;refine Y5 ?_;refine zG Z Z (fun hg=>an (DQ _) (.cons (.gd Z hg) (.cons (.gd Z hg) .nil)) Z Z) (Y6 ?_);refine zG Z Z (fun hg=>an (afb _) (.cons (.gd Z hg) (.cons (.gd Z hg) .nil)) Z Z) (Y5 ?_);exact z1 results18 Z (Z)
def afc(xs:List dG)(name:List UInt8):Ct prog 192 [.tv (ag dm) xs,.raw (e6 name)] (Sx (dL (fun y=>decide (y.1=name)) xs)):=by refine Yk func192 ntmps192 fun w0 ok0=>?_;refine fT 0 Z (fun hl0=>?_);refine Lc ?_;refine bf (ι:=Nat) (fun k=>⟨[(1,.raw (e6 name)),(7,.tv (ag dm) xs),(8,Sx xs.length),(9,Sx ((k:Nat)))],[]⟩) (fun k=>k≤xs.length∧∀i,(h:i<xs.length)→i<k→(fun y=>decide (y.1=name)) xs[i]=false) (fun k=>xs.length-k) 0 (⟨P8 _,fun i h g=>So⟩) (fun a w hi=>(zI hi)) ?_;rintro k ⟨hk,hno⟩;refine Z6 ?_ ?_<;>intro h2;have h2:k<xs.length:=MX;refine E0 ?_;refine zJ (dV Qf (.b Z) (.b Z)) (zZ ?_);refine Z0 ?_ ?_<;>intro h4;have h4:xs[k].1=name:=Yo;refine Y9 ?_;refine b8 (ax (al ?_));exact z1 results192 Z (congrArg (fun z=>Sx z) (jr h2 Yo hno).symm);exact UO;have h2:k=xs.length:=MX;refine dy ?_;exact z1 results192 Z (congrArg (fun z=>Sx z) (jq (fun i h=>hno i h zo)).symm)
def AX(xs:List ba)(name:List UInt8):Ct prog 193 [.tv (ag ct) xs,.raw (e6 name)] (Sx (dL (fun y=>decide (y.1=name)) xs)):=by refine Yk func193 ntmps193 fun w0 ok0=>?_;refine fT 0 Z (fun hl0=>?_);refine Lc ?_;refine bf (ι:=Nat) (fun k=>⟨[(1,.raw (e6 name)),(7,.tv (ag ct) xs),(8,Sx xs.length),(9,Sx ((k:Nat)))],[]⟩) (fun k=>k≤xs.length∧∀i,(h:i<xs.length)→i<k→(fun y=>decide (y.1=name)) xs[i]=false) (fun k=>xs.length-k) 0 (⟨P8 _,fun i h g=>So⟩) (fun a w hi=>(zI hi)) ?_;rintro k ⟨hk,hno⟩;refine Z6 ?_ ?_<;>intro h2;have h2:k<xs.length:=MX;refine E0 ?_;refine zJ (dV Qf (.b Z) (.b Z)) (zZ ?_);refine Z0 ?_ ?_<;>intro h4;have h4:xs[k].1=name:=Yo;refine Y9 ?_;refine b8 (ax (al ?_));exact z1 results193 Z (congrArg (fun z=>Sx z) (jr h2 Yo hno).symm);exact UO;have h2:k=xs.length:=MX;refine dy ?_;exact z1 results193 Z (congrArg (fun z=>Sx z) (jq (fun i h=>hno i h zo)).symm)
def yf(l:bZ)(name:List UInt8):Ct prog 191 [.tv bl l,.raw (e6 name)] (Sx (dL (fun y=>decide (y.1=name)) l.2.2)):=by
 refine Yk func191 ntmps191 fun w0 ok0=>?_;refine J4 ?_;refine fT 8 Z (fun hl0=>?_);refine bf (ι:=Nat) (fun k=>⟨[(1,.raw (e6 name)),(8,.tv (ag bw) l.2.2),(9,Sx l.2.2.length),(10,Sx ((k:Nat)))],[]⟩) (fun k=>k≤l.2.2.length∧∀i,(h:i<l.2.2.length)→i<k→(fun y=>decide (y.1=name)) l.2.2[i]=false) (fun k=>l.2.2.length-k) 0 (⟨P8 _,fun i h g=>So⟩) (fun a w hi=>(zI hi)) ?_;rintro k ⟨hk,hno⟩;refine Z6 ?_ ?_<;>intro h2;have h2:k<l.2.2.length:=MX;refine E0 ?_;refine zJ (dV Qf (.b Z) (.b Z)) (zZ ?_);refine Z0 ?_ ?_<;>intro h4;have h4:l.2.2[k].1=name:=Yo;refine Y9 ?_;refine b8 (ax (al ?_));exact z1 results191 Z (congrArg (fun z=>Sx z) (jr h2 Yo hno).symm);have h4:¬l.2.2[k].1=name:=Yo;have hno1:∀i,(h:i<l.2.2.length)→i<k+1→(fun y=>decide (y.1=name)) l.2.2[i]=false:=fun i h g=>by by_cases e:i=k;subst e;simpa using h4;exact hno i h zo
 refine Y7 ?_;exact ZS;have h2:k=l.2.2.length:=MX;refine dy ?_;exact z1 results191 Z (congrArg (fun z=>Sx z) (jq (fun i h=>hno i h zo)).symm)
def x9(l:bZ)(name:List UInt8):Ct prog 195 [.tv bl l,.raw (e6 name)] (Sx (dL (fun y=>decide (y.1=name)) l.2.1)):=by
 refine Yk func195 ntmps195 fun w0 ok0=>?_;refine J4 ?_;refine fT 8 Z (fun hl0=>?_);refine bf (ι:=Nat) (fun k=>⟨[(1,.raw (e6 name)),(8,.tv (ag b9) l.2.1),(9,Sx l.2.1.length),(10,Sx ((k:Nat)))],[]⟩) (fun k=>k≤l.2.1.length∧∀i,(h:i<l.2.1.length)→i<k→(fun y=>decide (y.1=name)) l.2.1[i]=false) (fun k=>l.2.1.length-k) 0 (⟨P8 _,fun i h g=>So⟩) (fun a w hi=>(zI hi)) ?_;rintro k ⟨hk,hno⟩;refine Z6 ?_ ?_<;>intro h2;have h2:k<l.2.1.length:=MX;refine E0 ?_;refine zJ (dV Qf (.b Z) (.b Z)) (zZ ?_);refine Z0 ?_ ?_<;>intro h4;have h4:l.2.1[k].1=name:=Yo;refine Y9 ?_;refine b8 (ax (al ?_));exact z1 results195 Z (congrArg (fun z=>Sx z) (jr h2 Yo hno).symm);have h4:¬l.2.1[k].1=name:=Yo;have hno1:∀i,(h:i<l.2.1.length)→i<k+1→(fun y=>decide (y.1=name)) l.2.1[i]=false:=fun i h g=>by by_cases e:i=k;subst e;simpa using h4;exact hno i h zo
 refine Y7 ?_;exact ZS;have h2:k=l.2.1.length:=MX;refine dy ?_;exact z1 results195 Z (congrArg (fun z=>Sx z) (jq (fun i h=>hno i h zo)).symm)
def Bw(r:lT)(d:Int):Ct prog 194 [.tv cL r,Sx d] (.raw (.bool (decide (r.1<d∧d<r.2)))):=by refine Yk func194 ntmps194 fun w0 ok0=>?_;refine Y22 ?_;exact z1 results194 Z (rb (by rw[MZ];simp))
def En(x:il)(a:bJ):Bool:=decide ((a.1=1∨a.1=2)∧a.2.2.1=x.1∧a.2.2.2.1=x.2.1)
def afd(act:List bJ)(x:il):Ct prog 15 [.tv (ag cX) act,.tv cw x] (.raw (.bool (act.any (En x)))):=by
 refine Yk func15 ntmps15 fun w0 ok0=>?_;refine fT 0 Z (fun hl0=>?_);refine MY ?_;refine bf (ι:=Nat) (fun k=>⟨[(3,Sy 3 cw),(0,.tv (ag cX) act),(5,Sx ((k:Nat)))],[(3,⟨cw,[x]⟩)]⟩) (fun k=>k≤act.length∧(act.take k).any (En x)=false) (fun k=>act.length-k) 0 (⟨P8 _,Z⟩) (fun a w hi=>(zI hi)) ?_;rintro k ⟨hk,hno⟩;refine Z9 ?_ ?_<;>intro h2;have h2:k<act.length:=MX;refine Qy ?_;refine JJ rfl rfl (fun hg=>av xZ ud (.gd rfl hg) (.gd rfl hg) rfl (getD_some (z:=((0,(0,([],([],([],([],(0,([],([],([],([],((0,0),(0,(0,0)))))))))))))):bJ)) YS)) (Y7 ?_);refine JJ rfl rfl (fun hg=>av xZ ud (.gd rfl hg) (.gd rfl hg) rfl (getD_some (z:=((0,(0,([],([],([],([],(0,([],([],([],([],((0,0),(0,(0,0)))))))))))))):bJ)) YS)) (Y4 ?_);refine JJ Z Z (fun hg=>dV Qf (.gd Z hg) (.gd Z hg)) (Y4 ?_);refine JJ rfl rfl (fun hg=>av xZ ud (.gd rfl hg) (.gd rfl hg) rfl (getD_some (z:=((0,(0,([],([],([],([],(0,([],([],([],([],((0,0),(0,(0,0)))))))))))))):bJ)) YS)) (Y4 ?_);refine JJ Z Z (fun hg=>dV Qf (.gd Z hg) (.gd Z hg)) (Y2 ?_);refine aa ?_;refine Z0 ?_ ?_<;>intro h4;have h4:En x act[k]=true:=by simp[En,RY h2]at h4⊢;exact⟨h4.1.1,h4.1.2,h4.2⟩
 refine Y8 ?_;refine b8 (ax (al ?_));exact z1 results15 Z (rb (by rw[eq_comm,Oo];exact⟨_,aA h2,h4⟩));have h4:En x act[k]=false:=by rw[←h4,MZ];simp[En,RY h2,and_assoc]
 refine Y8 ?_;exact aE (fun a w hi=>⟨k+1,zj,(⟨So,by rw[px h2,List.any_append,hno];simpa using h4⟩),(zI hi)⟩);have h2:k=act.length:=MX;refine dy ?_;exact z1 results15 Z (rb (by rw[←FR (l:=act),←h2,hno]))
def If(op:Int):Ct prog 231 [Sx op] (.raw (.bool (decide (bO op)))):=by refine Yk func231 ntmps231 fun w0 ok0=>?_;refine pA ?_;exact z1 results231 Z (rb ZJ)
def qr(op:Int):Ct prog 249 [Sx op] (.raw (.bool (decide (bO op)))):=by refine Yk func249 ntmps249 fun w0 ok0=>?_;refine pA ?_;exact z1 results249 Z (rb ZJ)
def CO(op:Int):Prop:=¬gP op∧(bO op∨0≤aW op)
instance(op:Int):Decidable (CO op):=by unfold CO;infer_instance
def afe(op:Int):Ct prog 230 [Sx op] (.raw (.bool (decide (CO op)))):=by refine Yk func230 ntmps230 fun w0 ok0=>?_;refine Z19 ?_ ?_<;>intro h2;have g2:=h2;have h2:op=23:=J3;refine ak (aa ?_);refine bR Z g2 (ac ?_);exact WG;have g2:=h2;have h2:¬op=23:=J3;refine Z6 ?_ ?_<;>intro h3;have g3:=h3;have h3:op=24:=Av;refine ak (aa ?_);refine bR Z g3 (ac ?_);exact WG;have g3:=h3;have h3:¬op=24:=Av;refine Z5 ?_ ?_<;>intro h4;have g4:=h4;have h4:op=26:=Yo;refine Y8 ?_;exact z1 results230 Z (rb ZK);have g4:=h4;have h4:¬op=26:=Yo;refine Y6 ?_;refine YK (If _) ?_;refine Y2 ?_;refine zG Z Z (fun hg=>an (kj _) (.cons (.gd Z hg) .nil) Z Z) (Y6 ?_);exact z1 results230 Z (rb (by rw[MZ];have hq:¬gP op:=by{unfold gP;omega};simp[CO,hq]))
def aff(op:Int):Ct prog 152 [Sx op] (.raw (.bool (decide (op=50∨op=52∨op=53)))):=by refine Yk func152 ntmps152 fun w0 ok0=>?_;refine KO ?_;exact z1 results152 Z (rb (by rw[MZ];simp[or_assoc]))
def afg(d:aF):Ct prog 263 [.tv aZ d] (.tup2 (.tv aK ((j3 d).getD GD)) (.raw (.bool (j3 d).isSome))):=by refine Yk func263 ntmps263 fun w0 ok0=>?_;refine rZ ?_ ?_<;>intro h2;have h2:d.1=1:=J3;refine Y4 ?_;refine zJ (aC Qg Z eq (.cons (rt':=(ay .i64)) Z bU (.raw (.b Z) Z) (.cons (rt':=(ay .i64)) Z bj (.raw (.b Z) Z) .nil))) (Y7 ?_);exact aI results263 (aq aM Z Z Z (Lens.id aK)) (ar Z) ⟨Z,Z⟩ (by rw[show j3 d=some (1,0,d.2)by unfold j3;rw[Cg zo,h2]];rfl);have h2:¬d.1=1:=J3;refine Z6 ?_ ?_<;>intro h4;have h4:d.1=2:=Yo;refine Y4 ?_;refine zJ (aC Qg Z eq (.cons (rt':=(ay .i64)) Z bU (.raw (.b Z) Z) (.cons (rt':=(ay .i64)) Z bj (.raw (.b Z) Z) .nil))) (Y7 ?_);exact aI results263 (aq aM Z Z Z (Lens.id aK)) (ar Z) ⟨Z,Z⟩ (by rw[show j3 d=some (2,0,d.2)by unfold j3;rw[Cg zo,h4]];rfl);have h4:¬d.1=2:=Yo;refine Z6 ?_ ?_<;>intro h6;have h6:d.1=3:=O3;refine Y4 ?_;refine zJ (aC Qg Z eq (.cons (rt':=(ay .i64)) Z bU (.raw (.b Z) Z) (.cons (rt':=(ay .i64)) Z bj (.raw (.b Z) Z) .nil))) (Y7 ?_);exact aI results263 (aq aM Z Z Z (Lens.id aK)) (ar Z) ⟨Z,Z⟩ (by rw[show j3 d=some (3,0,d.2)by unfold j3;rw[Cg zo,h6]];rfl);have h6:¬d.1=3:=O3;refine Z6 ?_ ?_<;>intro h8;have h8:d.1=4:=Qb;refine Y4 ?_;refine zJ (aC Qg Z eq (.cons (rt':=(ay .i64)) Z bU (.raw (.b Z) Z) (.cons (rt':=(ay .i64)) Z bj (.raw (.b Z) Z) .nil))) (Y7 ?_);exact aI results263 (aq aM Z Z Z (Lens.id aK)) (ar Z) ⟨Z,Z⟩ (by rw[show j3 d=some (4,0,d.2)by unfold j3;rw[Cg zo,h8]];rfl);have h8:¬d.1=4:=Qb;refine Z6 ?_ ?_<;>intro h10;have h10:d.1=5:=Qk;refine Y4 ?_;refine zJ (aC Qg Z eq (.cons (rt':=(ay .i64)) Z bU (.raw (.b Z) Z) (.cons (rt':=(ay .i64)) Z bj (.raw (.b Z) Z) .nil))) (Y7 ?_);exact aI results263 (aq aM Z Z Z (Lens.id aK)) (ar Z) ⟨Z,Z⟩ (by rw[show j3 d=some (5,0,d.2)by unfold j3;rw[Cg zo,h10]];rfl);have h10:¬d.1=5:=Qk;refine Z6 ?_ ?_<;>intro h12;have h12:d.1=6:=P9;refine Jk ?_ ?_<;>intro h13;have h13:0≤d.2∧d.2<128:=NE;refine Y4 ?_;refine zJ (i9 (.b Z) (.b Z) zo (qG h13.1 zo zo)) (zF aV Z (zL Sj Z Z Z bc (zJ (gc (.b Z) (.b Z) zo (tk h13.1)) (zJ (aC Qg Z eq (.cons (rt':=(ay .i64)) Z bU (.raw (.b Z) Z) (.cons (rt':=(ay .i64)) Z km (.raw (.b Z) Z) (.cons (rt':=(ay .i64)) Z bj (.raw (.b Z) Z) .nil)))) (Y7 ?_)))));exact aI results263 (aq aM Z Z Z (Lens.id aK)) (ar Z) ⟨Z,Z⟩ (by rw[show j3 d=some (6,d.2/16,d.2%16)by unfold j3;rw[zE zo,Cg zo]];rfl);have h13:¬(0≤d.2∧d.2<128):=NE;refine ak (aJ (aa (zR (zJ (aC Qg Z eq .nil) (Y2 ?_)))));refine zQ [2,3] [2] (aa (am ?_));exact Wf;have h12:¬d.1=6:=P9;refine ak (aJ (aa (zR (zJ (aC Qg Z eq .nil) (Y5 ?_)))));exact Wf
def Eb{v:aN}(h:da v=true)(hk:¬(1≤v.1∧v.1≤5)):v.1=6∧0≤v.2.1∧v.2.1<8∧0≤v.2.2∧v.2.2≤15:=by unfold da at h;simp only[YC]at h;obtain⟨h1,h2⟩:=h;by_cases h6:v.1=6;rw[Cg h6]at h2;rw[h6]at h1;simp[jL]at h1 h2;omega;rw[show jL v.1=(0,-1)by unfold jL;rw[zE zo,zE zo,zE zo,zE zo,zE zo,zE zo]]at h1;simp at h1;omega
def afh(v:aN)(hp:da v=true):Ct prog 264 [.tv aK v] (.tv aZ (oU v)):=by refine Yk func264 ntmps264 fun w0 ok0=>?_;refine GJ ?_ ?_<;>intro h2;have h2:v.1=1:=J3;refine Y4 ?_;refine zJ (aC eP Z kW (.cons (rt':=(ay .i64)) Z bM (.raw (.b Z) Z) (.cons (rt':=(ay .i64)) Z bc (.raw (.b Z) Z) .nil))) (Y6 ?_);exact cQ results264 (aq bE Z Z Z (Lens.id aZ)) Z (congrArg (SV.tv aZ) (by unfold oU;rw[Cg zo,h2]));have h2:¬v.1=1:=J3;refine Z6 ?_ ?_<;>intro h4;have h4:v.1=2:=Yo;refine Y4 ?_;refine zJ (aC eP Z kW (.cons (rt':=(ay .i64)) Z bM (.raw (.b Z) Z) (.cons (rt':=(ay .i64)) Z bc (.raw (.b Z) Z) .nil))) (Y6 ?_);exact cQ results264 (aq bE Z Z Z (Lens.id aZ)) Z (congrArg (SV.tv aZ) (by unfold oU;rw[Cg zo,h4]));have h4:¬v.1=2:=Yo;refine Z6 ?_ ?_<;>intro h6;have h6:v.1=3:=O3;refine Y4 ?_;refine zJ (aC eP Z kW (.cons (rt':=(ay .i64)) Z bM (.raw (.b Z) Z) (.cons (rt':=(ay .i64)) Z bc (.raw (.b Z) Z) .nil))) (Y6 ?_);exact cQ results264 (aq bE Z Z Z (Lens.id aZ)) Z (congrArg (SV.tv aZ) (by unfold oU;rw[Cg zo,h6]));have h6:¬v.1=3:=O3;refine Z6 ?_ ?_<;>intro h8;have h8:v.1=4:=Qb;refine Y4 ?_;refine zJ (aC eP Z kW (.cons (rt':=(ay .i64)) Z bM (.raw (.b Z) Z) (.cons (rt':=(ay .i64)) Z bc (.raw (.b Z) Z) .nil))) (Y6 ?_);exact cQ results264 (aq bE Z Z Z (Lens.id aZ)) Z (congrArg (SV.tv aZ) (by unfold oU;rw[Cg zo,h8]));have h8:¬v.1=4:=Qb;refine Z6 ?_ ?_<;>intro h10;have h10:v.1=5:=Qk;refine Y4 ?_;refine zJ (aC eP Z kW (.cons (rt':=(ay .i64)) Z bM (.raw (.b Z) Z) (.cons (rt':=(ay .i64)) Z bc (.raw (.b Z) Z) .nil))) (Y6 ?_);exact cQ results264 (aq bE Z Z Z (Lens.id aZ)) Z (congrArg (SV.tv aZ) (by unfold oU;rw[Cg zo,h10]));have h10:¬v.1=5:=Qk;refine Y4 ?_;have hen:=Eb hp zo;refine Y7 ?_;refine zJ (aC eP Z kW (.cons (rt':=(ay .i64)) Z bM (.raw (.b Z) Z) (.cons (rt':=(ay .i64)) Z bc (.raw (.b Z) Z) .nil))) (Y4 ?_);exact cQ results264 (aq bE Z Z Z (Lens.id aZ)) Z (congrArg (SV.tv aZ) (by unfold oU;rw[zE zo]))
def ixB_ok(xs:List Bool)(x:Bool):Ct prog 262 [.tv (ag cq) xs,.raw (.bool (x))] (Sx (dL (fun y=>decide (x=y)) xs)):=by refine Yk func262 ntmps262 fun w0 ok0=>?_;refine fT 0 Z (fun hl0=>?_);refine Lc ?_;refine bf (ι:=Nat) (fun k=>⟨[(0,.tv (ag cq) xs),(1,.raw (.bool (x))),(7,Sx xs.length),(8,Sx ((k:Nat)))],[]⟩) (fun k=>k≤xs.length∧∀i,(h:i<xs.length)→i<k→(fun y=>decide (x=y)) xs[i]=false) (fun k=>xs.length-k) 0 (⟨P8 _,fun i h g=>So⟩) (fun a w hi=>(zI hi)) ?_;rintro k ⟨hk,hno⟩;refine Z6 ?_ ?_<;>intro h2;have h2:k<xs.length:=MX;refine J4 ?_;refine zD Gf Z (zJ (kJ QT (.b Z) (.b Z)) (zZ ?_));refine Z0 ?_ ?_<;>intro h4;have h4:(fun y=>decide (x=y)) xs[k]=true:=Yo;refine Y9 ?_;refine b8 (ax (al ?_));exact z1 results262 Z (ri (jr h2 h4 hno).symm);exact UK;have h2:k=xs.length:=MX;refine dy ?_;exact z1 results262 Z (ri (jq (fun i hi=>hno i hi zo)).symm)
def afi(xs:List Bool)(x:Bool):Ct prog 247 [.tv (ag cq) xs,.raw (.bool (x))] (.raw (.bool (xs.any (fun y=>decide (x=y))))):=by refine Yk func247 ntmps247 fun w0 ok0=>?_;refine Y9 ?_;refine YK (ixB_ok _ _) ?_;refine Y5 ?_;exact z1 results247 Z (rb (lm _ _))
def NV(xs ys:List aF):Ct prog 103 [.tv (ag aZ) xs,.tv (ag aZ) ys] (.raw (.bool (decide (xs=ys)))):=by
 refine Yk func103 ntmps103 fun w0 ok0=>?_;refine fT 0 Z (fun hl0=>?_);refine Ks ?_ ?_<;>intro h1;have h1:¬(xs=ys):=by rintro rfl;simp at h1
 refine Y7 ?_;exact z1 results103 Z (rb (by rw[decide_eq_false h1]));have h1:xs.length=ys.length:=CY;refine dy ?_;refine bf (ι:=Nat) (fun k=>⟨[(0,.tv (ag aZ) xs),(1,.tv (ag aZ) ys),(12,Sx xs.length),(13,Sx ((k:Nat)))],[]⟩) (fun k=>k≤xs.length∧xs.take k=ys.take k) (fun k=>xs.length-k) 0 Sp (fun a w hi=>(zI hi)) ?_;rintro k ⟨hk,hp⟩;refine Z6 ?_ ?_<;>intro h4;have h4:k<xs.length:=Kb;refine Y20 ?_;refine GP (oA RN Z Z RO (.tv (.b Z)) (.tv (.b Z))) (jd0 ?_);refine aa ?_;refine Z0 ?_ ?_<;>intro h6;have h6:¬xs[k]=ys[k]'zo:=O3;refine Y8 ?_;refine b8 (ax (al ?_));exact z1 results103 Z (rb (by rw[decide_eq_false];rintro rfl;exact h6 rfl));have h6:xs[k]=ys[k]'zo:=O3;refine Y7 ?_;exact aE (fun a w hi=>⟨k+1,zj,(⟨So,by rw[px h4,px zo,hp,h6]⟩),(zI hi)⟩);have h4:k=xs.length:=Kb;refine dy ?_;exact z1 results103 Z (rb (by rw[decide_eq_true];rw[fV zo,fV zo]at hp;exact hp))
def HM(x:Int):Ct prog 229 [Sx x] (.raw (.bool (false))):=by refine Yk func229 ntmps229 fun w0 ok0=>?_;refine Lc ?_;exact z1 results229 Z (rb Sp)
def HN(x:Int):Ct prog 215 [Sx x] (.raw (.bool (false))):=by refine Yk func215 ntmps215 fun w0 ok0=>?_;refine Lc ?_;exact z1 results215 Z (rb Sp)
def afj(x y:Int):Ct prog 167 [Sx x,Sx y] (.raw (.bool (decide (x<y)))):=by refine Yk func167 ntmps167 fun w0 ok0=>?_;refine Y8 ?_;refine YK (HN _) ?_;refine Y2 ?_;refine zG Z Z (fun hg=>an (HN _) (.cons (.gd Z hg) .nil) Z Z) (dy ?_);exact z1 results167 Z (rb Sp)
def aau:((i:Int)+(j:Int)).fdiv (2 ^ (min (1:Int).toNat (IntKind.bits .u64)))=(((i+j)/2:Nat):Int):=by have e:(2:Int) ^ (min (1:Int).toNat (IntKind.bits .u64))=2:=cy;rw[e,Int.fdiv_eq_ediv_of_nonneg _ cy];omega
def aaX(xs:List Int)(p:Nat)(hsm:xs.length≤1000000)(hs:xs.Pairwise (· < ·))(hp:p<xs.length):Ct prog 200 [.tv (ag (ay .i64)) xs,.raw (.int .i64 xs[p])] (.tup2 (Sx (p:Nat)) (.raw (.bool (true)))):=by
 refine Yk func200 ntmps200 fun w0 ok0=>?_;refine fT 0 Z (fun hl0=>?_);refine Y22 ?_;refine bf (ι:=(Nat×Nat)) (fun(i,j)=>⟨[(0,.tv (ag (ay .i64)) xs),(1,.raw (.int .i64 xs[p])),(6,Sx ((xs.length:Nat))),(7,Sx ((i:Nat))),(8,Sx ((j:Nat)))],[]⟩) (fun(i,j)=>i≤p∧p≤j∧j≤xs.length) (fun(i,j)=>j-i) (0,xs.length) (⟨P8 _,Nat.le_of_lt hp,Kl _⟩) (fun a w hi=>(zI hi)) ?_;rintro⟨i,j⟩⟨hi1,hi2,hi3⟩;refine Z8 ?_ ?_<;>intro h3;have h3:i<j:=E4;refine Y8 ?_;refine zJ (eW ⟨_,MV⟩ K6 (.b Z) (I9 zo)) (zJ (yq (.b Z) (.b Z) zo aau) (zJ (eW ⟨_,K6⟩ MV (.b Z) zw) (Y8 ?_)));refine zD Sj Z (zM Z (YK (afj _ _) ?_));refine zZ ?_;refine Z0 ?_ ?_<;>intro h5;have h5:i+1≤p+1∧((i+j)/2)+1≤p:=by
  have h5:xs[((i+j)/2)]<xs[p]:=E3;refine⟨So,Classical.byContradiction fun c=>?_⟩;rcases Qa p ((i+j)/2)with q|q;have:=Nb.1 hs p ((i+j)/2) hp zo q;omega;have e:p=((i+j)/2):=So;have:xs[p]=xs[((i+j)/2)]:=by congr 1
  omega
 refine Y6 ?_;exact VK;have h5:p≤((i+j)/2):=by have h5:¬xs[((i+j)/2)]<xs[p]:=E3;refine Classical.byContradiction fun c=>h5 (Nb.1 hs ((i+j)/2) p zo hp zo)
 refine Y5 ?_;exact VK;have h3:i=p:=E4;refine Lc ?_;refine zG rfl rfl (fun hg=>av bT Sj (.gd rfl hg) (.gd rfl hg) rfl (getD_some (z:=(0:Int)) YS)) (Y3 ?_);refine zG Z Z (fun hg=>ai (.gd Z hg)) ?_;refine Y2 ?_;refine cf _ _ _ _ _ _ _ rfl rfl rfl rfl rfl (fun hg=>av bT Sj (.gd rfl hg) (.gd rfl hg) rfl (getD_some (z:=(0:Int)) YS)) ?_;refine Y1 ?_;refine cf _ _ _ _ _ _ _ Z Z Z Z Z (fun hg=>an (HM _) (.cons (.gd Z hg) .nil) Z Z) ?_;refine cf _ _ _ _ _ _ _ Z Z Z Z Z (fun hg=>ai (.gd Z hg)) ?_;refine Y1 ?_;refine cf _ _ _ _ _ _ _ Z Z Z Z Z (fun hg=>an (HM _) (.cons (.gd Z hg) .nil) Z Z) ?_;refine Y8 ?_;subst h3;exact z2 results200 Z Z (by refine congrArg (SV.tup2 _) (congrArg SV.raw (congrArg Value.bool ?_));simp[hp])
def prP(s:aL)(r:ba):rL:=(if 0≤r.2.1∧r.2.1<(s.2.2.2.1.length:Int)then(s.2.2.2.1[r.2.1.toNat]?.getD ([],0,0)).1 else[],if 0≤r.2.2.1∧r.2.2.1<(s.2.2.2.2.length:Int)then(s.2.2.2.2[r.2.2.1.toNat]?.getD YB).1 else[],r.2.2.2.1,r.2.2.2.2.1,r.2.2.2.2.2.2.2)
def D6(s:aL)(r:ba):Ct prog 102 [.tv bw s,.tv ct r] (.tv d6 (prP s r)):=by
 refine Yk func102 ntmps102 fun w0 ok0=>?_;refine Qy ?_;refine zJ (aC z211 Z pl211 (.cons (rt':=(ay .i64)) Z adb (.raw (.b Z) Z) (.cons (rt':=cL) Z adt (.tv (.b Z)) (.cons (rt':=du) Z fiD (.raw (.b Z) Z) .nil)))) (GJ ?_ ?_)<;>intro h2;have h2:(0≤r.2.1∧r.2.1<(s.2.2.2.1.length:Int)):=by by_cases e:0≤r.2.1;simp[e]at h2;exact⟨e,h2⟩;simp[e]at h2
 refine Y5 ?_;refine bi _ Z _ Z Z (av gp jM (.b Z) (.b Z) (show r.2.1=((r.2.1.toNat:Nat):Int)by omega) zg) ?_;refine Z22 ?_ ?_<;>intro h4;exact S8;exact Tz;have h2:¬(0≤r.2.1∧r.2.1<(s.2.2.2.1.length:Int)):=by rintro⟨e1,e2⟩;simp[e1]at h2;omega
 refine Z18 ?_ ?_<;>intro h4;exact S8;exact Tz
def FP(s:aL)(i:Nat)(t:aL)(j:Nat):Bool:=decide (prP s (s.2.2.2.2[i]?.getD YB)=prP t (t.2.2.2.2[j]?.getD YB)∧(s.2.2.2.2[i]?.getD YB).2.2.2.2.2.1=(t.2.2.2.2[j]?.getD YB).2.2.2.2.2.1∧(s.2.2.2.2[i]?.getD YB).2.2.2.2.2.2.1=(t.2.2.2.2[j]?.getD YB).2.2.2.2.2.2.1)
def aaZ(s:aL)(i:Nat)(t:aL)(j:Nat)(hi:i<s.2.2.2.2.length)(hj:j<t.2.2.2.2.length):Ct prog 57 [.tv bw s,Sx (i:Nat),.tv bw t,Sx (j:Nat)] (.raw (.bool (FP s i t j))):=by refine Yk func57 ntmps57 fun w0 ok0=>?_;refine Y8 ?_;refine je (Qy ?_);refine aa (ac ?_);refine Y3 ?_;refine GP (an (D6 _ _) (.cons (.b Z) (.cons (.b Z) .nil)) Z Z) (Y2 ?_);refine GP (an (D6 _ _) (.cons (.b Z) (.cons (.b Z) .nil)) Z Z) (GP (iM eq211 Z Z eg211 (.tv (.b Z)) (.tv (.b Z))) (Y5 ?_));refine JJ Z Z (fun hg=>an (NV _ _) (.cons (.gd Z hg) (.cons (.gd Z hg) .nil)) Z Z) (Y6 ?_);refine JJ Z Z (fun hg=>an (NV _ _) (.cons (.gd Z hg) (.cons (.gd Z hg) .nil)) Z Z) (Y3 ?_);refine aa (am ?_);exact z1 results57 Z (rb (by unfold FP;rw[RY hi,RY hj];simp only[YM];rw[MZ];simp only[YC,beq_iff_eq,Ek,and_assoc]))
def zr_map{e:RT α}:ZR (mf e) [.map none] []:=fun _ _=>.inl ⟨rfl,rfl⟩
abbrev eO:=aL×List (List UInt8×Int)
@[reducible] def eG:RT eO:=bF bw (mf (ay .i64))
def ty205:Ty prog 205 (mf (ay .i64)):=Ty.mk_ G1 rfl zk
def abz:Ty prog 207 eG:=Ty.mk_ uT207 rfl zk
def KS:TyZero prog 207 eG ((([],0,[],[],[]),[]):eO):=eK zk (aX (aX (gk) ((aX (cN .i64) ((aX (bN) ((aX (bN) (bN)))))))) zr_map)
def pl207:lD prog 207=some [(0,5),(5,1)]:=f8
def abQ:aB prog 207 0=some 0:=f8
def abT:aB prog 207 1=some 5:=f8
def HW:Lens eG 0 bw (fun d=>d.1) (fun d x=>(x,d.2)):=(Lens.fst (Lens.id bw))
def HU:Lens eG 5 (mf (ay .i64)) (fun d=>d.2) (fun d x=>(d.1,x)):=(Lens.snd (Lens.id (mf (ay .i64))) rfl)
def kp(s:aL):Nat→List (List UInt8×Int)
 | 0=>[]
 | k+1=>if(L7 (kp s k) (s.2.2.2.2[k]?.getD YB).1).isSome=true then kp s k else kp s k++[((s.2.2.2.2[k]?.getD YB).1,(k:Int))]
def dz(l:bZ)(k:Nat):aL:=l.2.2[k]?.getD ([],0,[],[],[])
def Nh(l:bZ):Nat→List (List UInt8×eO)
 | 0=>[]
 | k+1=>if(L7 (Nh l k) (dz l k).1).isSome=true then Nh l k else Nh l k++[((dz l k).1,(dz l k,kp (dz l k) (dz l k).2.2.2.2.length))]
def jQ{l:bZ}(h:k<l.2.2.length):dz l k=l.2.2[k]:=by unfold dz;rw[RY h];rfl
structure IxOK(kvs:List (List UInt8×Value))(es:List (Value×α))(d:List (List UInt8×α)):Prop where
 k1:kvs.map (·.2)=es.map (·.1)
 d1:d.map (·.1)=kvs.map (·.1)
 e1:d.map (·.2)=es.map (·.2)
def IxOK.add(h:IxOK kvs es d)(key:List UInt8)(v:Value)(x:α):IxOK (kvs++[(key,v)]) (es++[(v,x)]) (d++[(key,x)]):=
 ⟨by simp[h.k1],by simp[h.d1],by simp[h.e1]⟩
def IxOK.abs(h:IxOK kvs es d){key:List UInt8}(ha:(L7 d key).isSome=false):L7 kvs key=none:=by rw[Al,←h.d1];intro q;rw[byd.2 q]at ha;cases ha
def jn(x:List (List UInt8×eO))(sn rn:List UInt8):aL×Int×Bool:=match L7 x sn with
 | none=>(([],0,[],[],[]),0,false)
 | some p=>match L7 p.2 rn with
  | none=>(([],0,[],[],[]),0,false)
  | some i=>(p.1,i,true)
def wF(l:bZ)(hls:l.2.2.length≤1000000)(hlr:∀s∈l.2.2,s.2.2.2.2.length≤1000000):Ct prog 55 [.tv bl l] (.tv (mf eG) (Nh l l.2.2.length)):=by
 refine Yk func55 ntmps55 fun w0 ok0=>?_;refine Y8 ?_;refine zO (wE Z Z) (Y5 ?_);refine EN 3 eG Z ?_;refine Y8 ?_;refine bf (ι:=Nat×List (List UInt8×Value)×List (Value×eO)) (fun(k,kvs,es)=>⟨[(3,.lnk (.mref 13) (.bool true) (.tv (oP eG) es)),(15,.tv (ag bw) l.2.2),(16,Sx l.2.2.length),(17,Sx ((k:Nat)))],[(13,⟨pd,[kvs]⟩)]⟩) (fun(k,kvs,es)=>k≤l.2.2.length∧IxOK kvs es (Nh l k)) (fun(k,kvs,es)=>l.2.2.length-k) (0,[],[]) (⟨P8 _,⟨Z,Z,Z⟩⟩) (fun a w hi=>(zI hi)) ?_;rintro⟨k,kvs,es⟩⟨hk,hix⟩;refine Z6 ?_ ?_<;>intro h3;have h3:k<l.2.2.length:=Av;have hat:=jQ h3;have hrb:=hlr _ (aA h3);refine Ki ?_;refine zJ (yw K7 Qf KS Z Z hix.k1 hix.d1 hix.e1 (.b Z)) (sm ?_ ?_)<;>intro h6;have hso:Nh l (k+1)=Nh l k:=by rw[Nh,hat,Cg h6]
 refine Y8 ?_;exact S7;have hsn:Nh l (k+1)=Nh l k++[(l.2.2[k].1,(l.2.2[k],kp l.2.2[k] l.2.2[k].2.2.2.2.length))]:=by rw[Nh,hat,zE FH]
 refine ak (aa (zR (zO (wE Z Z) (Y5 ?_))));refine EN 8 (ay .i64) Z ?_;refine Y8 ?_;refine bf (ι:=Nat×List (List UInt8×Value)×List (Value×Int)) (fun(q,kv2,es2)=>⟨[(3,.lnk (.mref 13) (.bool true) (.tv (oP eG) es)),(5,Sy 5 bw),(8,.lnk (.mref 29) (.bool true) (.tv (oP (ay .i64)) es2)),(15,.tv (ag bw) l.2.2),(16,Sx l.2.2.length),(17,Sx ((k:Nat))),(31,.tv (ag ct) l.2.2[k].2.2.2.2),(32,Sx (l.2.2[k].2.2.2.2.length)),(33,Sx ((q:Nat)))],[(5,⟨bw,[l.2.2[k]]⟩),(13,⟨pd,[kvs]⟩),(29,⟨pd,[kv2]⟩)]⟩) (fun(q,kv2,es2)=>q≤l.2.2[k].2.2.2.2.length∧IxOK kv2 es2 (kp l.2.2[k] q)) (fun(q,kv2,es2)=>l.2.2[k].2.2.2.2.length-q) (0,[],[]) (⟨P8 _,⟨Z,Z,Z⟩⟩) (fun a w hi=>(zI hi)) ?_;rintro⟨q,kv2,es2⟩⟨hq,hiq⟩;refine Z6 ?_ ?_<;>intro h9;have h9:q<l.2.2[k].2.2.2.2.length:=Qz;have hrt:(l.2.2[k].2.2.2.2[q]?.getD YB).1=l.2.2[k].2.2.2.2[q].1:=by rw[RY h9];rfl
 refine E0 ?_;refine zJ (yw G1 Qf z3 Z Z hiq.k1 hiq.d1 hiq.e1 (.b Z)) (sm ?_ ?_)<;>intro h12;have h12:(L7 (kp l.2.2[k] q) l.2.2[k].2.2.2.2[q].1).isSome=false:=P9;have hrn:kp l.2.2[k] (q+1)=kp l.2.2[k] q++[(l.2.2[k].2.2.2.2[q].1,(q:Int))]:=by rw[kp,hrt,zE Oz]
 refine ab (zJ (ai (.l1 Z)) (Y3 ?_));refine zO (HJ G1 Qf (.b Z) Z (.b Z) (.b Z) (hiq.abs h12)) ?_;refine ty4 (rt:=(ay .i64)) (x:=(q:Int)) 8 0 Z Z Z ?_;refine Y6 ?_;refine zQ [3,5,8,15,16,17,31,32,33] [5,13,29] ?_;exact S6;have h12:(L7 (kp l.2.2[k] q) l.2.2[k].2.2.2.2[q].1).isSome=true:=P9;have hro:kp l.2.2[k] (q+1)=kp l.2.2[k] q:=by rw[kp,hrt,Cg h12]
 refine Y7 ?_;exact S6;have h9:q=l.2.2[k].2.2.2.2.length:=NG;subst h9;refine Y5 ?_;refine EK 29 8 (bQ 29 _) Z Z hiq.k1 hiq.d1 hiq.e1 (a6 29 _) (bm 29 _) ?_;refine ab (zJ (ai (.l1 Z)) (Y4 ?_));refine zJ (aC KS Z pl207 (.cons (rt':=bw) Z HW (.tv (.b Z)) (.cons (rt':=(mf (ay .i64))) Z HU (.tv (.b Z)) .nil))) ?_;refine adU 57 Z (fun v9=>?_);refine zO (HJ K7 Qf (.b Z) Z (.b Z) (.b2 Z Z) (hix.abs h6)) ?_;refine adV 3 57 Z Z ?_;refine Y7 ?_;exact S7;have h3:k=l.2.2.length:=E4;subst h3;refine Y6 ?_;refine EK 13 3 (bQ 13 _) Z Z hix.k1 hix.d1 hix.e1 (a6 13 _) (bm 13 _) ?_;refine Y6 ?_;exact z1 results55 Z Z
def N5(x:List (List UInt8×eO))(sn rn:List UInt8):Ct prog 56 [.tv (mf eG) x,.raw (e6 sn),.raw (e6 rn)] (.tup3 (.tv bw (jn x sn rn).1) (.raw (.int .i64 (jn x sn rn).2.1)) (.raw (.bool (jn x sn rn).2.2))):=by
 refine Yk func56 ntmps56 fun w0 ok0=>?_;refine dy ?_;refine zJ (yv K7 Qf KS (.b Z) (.b Z)) (Ks ?_ ?_)<;>intro h2;have hc:jn x sn rn=(([],0,[],[],[]),0,false):=by
  cases q:L7 x sn with
  | none=>unfold jn;rw[q]
  | some p=>rw[q]at h2;simp at h2
 exact Wb;obtain⟨p,q⟩:∃p,L7 x sn=some p:=by
  cases q:L7 x sn with
  | none=>rw[q]at h2;simp at h2
  | some p=>exact⟨p,rfl⟩
 rw[q,YM];refine Y7 ?_;refine zJ (yv G1 Qf z3 (.b Z) (.b Z)) (Po ?_ ?_)<;>intro h5;have hc:jn x sn rn=(([],0,[],[],[]),0,false):=by
  cases q2:L7 p.2 rn with
  | none=>unfold jn;rw[q];simp only;rw[q2]
  | some i=>rw[q2]at h5;simp at h5
 exact Wb;obtain⟨i,q2⟩:∃i,L7 p.2 rn=some i:=by
  cases q2:L7 p.2 rn with
  | none=>rw[q2]at h5;simp at h5
  | some i=>exact⟨i,rfl⟩
 have hc:jn x sn rn=(p.1,i,true):=by unfold jn;rw[q];simp only;rw[q2]
 rw[q2,YM];refine MY ?_;exact db results56 (aq dO Z Z Z (Lens.id bw)) (ar Z) (ar Z) ⟨Z,Z,Z⟩ (by rw[hc];rfl)
def gi(l:List Int)(i:Int):Int:=l[i.toNat]?.getD 0
def gb(l:List Bool)(i:Int):Bool:=l[i.toNat]?.getD false
def Np(par pri:List Int)(i:Nat):Int:=if gi par i < -1∨(i:Int)≤gi par i then 9 else if gi pri i<0∨9<gi pri i then 3 else 0
def M4(par pri:List Int):Nat→Int
 | 0=>0
 | k+1=>if M4 par pri k≠0 then M4 par pri k else Np par pri k
def Kc(par pri:List Int):Int:=if par.length≠pri.length then 2 else if 8<par.length then 4 else M4 par pri par.length
def rtF_up(h:M4 par pri k≠0):∀m,k≤m→M4 par pri m=M4 par pri k:=fun m hm=>by
 induction m with
 | zero=>obtain rfl:k=0:=So;rfl
 | succ m ih=>by_cases e:k=m+1;subst e;rfl;rw[M4,ih zo,Cg h]
def Hq{m:Nat}(h0:M4 par pri k=0)(h:Np par pri k≠0)(hm:k<m):M4 par pri m=Np par pri k:=by
 have e:M4 par pri (k+1)=Np par pri k:=by rw[M4,zE (by rw[h0];simp)]
 rw[rtF_up (k:=k+1) (by rw[e];exact h) m zo,e]
def rtF_ok(h0:M4 par pri k=0)(h:Np par pri k=0):M4 par pri (k+1)=0:=by rw[M4,zE (by rw[h0];simp),h]
def Ro{par pri:List Int}:∀{k:Nat},M4 par pri k=0→∀i,i<k→Np par pri i=0
 | 0,_,i,hi=>by omega
 | k+1,h,i,hi=>by rw[M4]at h;split at h;rename_i c;exact absurd h c;rename_i c;by_cases e:i=k;subst e;exact h;exact Ro Ff i zo
def Il{l:List Int}(h:k<l.length):gi l (k:Int)=l[k]:=by unfold gi;rw[K4,RY h];rfl
def Jt(par:List Int)(v:Int)(k:Nat):List Int:=((List.range k).filter (fun i:Nat=>decide (gi par (i:Int)=v))).map (fun i:Nat=>(i:Int))
def chI_t(h:gi par k=v):Jt par v (k+1)=Jt par v k++[(k:Int)]:=by unfold Jt;rw[Jp,NZ,ll];simp[h]
def chI_f(h:¬gi par k=v):Jt par v (k+1)=Jt par v k:=by unfold Jt;rw[Jp,NZ,ll];simp[h]
def IV(par:List Int)(v:Int)(k:Nat):(Jt par v k).length≤k:=by unfold Jt;rw[QJ];exact wb (FQ _ _) Sp
def Db{x:Int}(h:x∈Jt par v k):0≤x∧x<k∧gi par x=v:=by unfold Jt at h;rw[Nr]at h;obtain⟨i,hi,rfl⟩:=h;rw[Sq,Lb]at hi;exact⟨So,So,by simpa using hi.2⟩
def OT(pri oc:List Int)(out:List Int)(i:Int):List Int:=
 if gi oc i = -1 then out else if 0<out.length∧gi pri (gi out 0)<gi pri i then[i]else if out.length=0∨gi pri i=gi pri (gi out 0)then out++[i]else out
def Ng(pri oc l:List Int):List Int:=l.foldl (OT pri oc) []
def Ov{l:List Int}(h:k<l.length):Ng pri oc (l.take (k+1))=OT pri oc (Ng pri oc (l.take k)) l[k]:=by unfold Ng;rw[px h,List.foldl_append];rfl
def Pc{out:List Int}{i:Int}{x:Int}(h:x∈OT pri oc out i):x∈out∨x=i:=by unfold OT at h;split at h;exact .inl h;split at h;exact .inr PW;split at h;rw[Nx,J0]at h;exact h;exact .inl h
def Dc{pri oc l:List Int}:∀k,k≤l.length→∀x∈Ng pri oc (l.take k),x∈l.take k
 | 0,_,x,hx=>by simp[Ng]at hx
 | k+1,hk,x,hx=>by rw[Ov zo]at hx;rw[px zo,Nx,J0];rcases Pc hx with h|h;exact .inl (Dc k zo x h);exact .inr h
def IX{pri oc l:List Int}:∀k,k≤l.length→(Ng pri oc (l.take k)).length≤k
 | 0,_=>by simp[Ng]
 | k+1,hk=>by have:=IX (pri:=pri) (oc:=oc) (l:=l) k zo;rw[Ov zo,OT];(repeat' split)<;>simp<;>omega
def Kh(par pri oc:List Int)(v:Int):List Int:=Ng pri oc (Jt par v par.length)
def IW{x:Int}(h:x∈Kh par pri oc v):0≤x∧x<par.length∧gi par x=v:=by unfold Kh at h;rw[←FR (l:=Jt par v par.length)]at h;have:=Dc _ (Kl _) x h;rw[FR]at this;exact Db this
def LS(par pri oc:List Int)(v:Int):Int:=if(Kh par pri oc v).length=0 then -1 else if(Kh par pri oc v).length=1 then gi oc (gi (Kh par pri oc v) 0)else -2
def Qx(par pri:List Int)(app:List Bool):Nat→List Int
 | 0=>List.replicate par.length 0
 | m+1=>(Qx par pri app m).set (par.length-1-m) (if LS par pri (Qx par pri app m) ((par.length-1-m:Nat):Int) = -1∧gb app ((par.length-1-m:Nat):Int)=true then((par.length-1-m:Nat):Int)else LS par pri (Qx par pri app m) ((par.length-1-m:Nat):Int))
def xj(par pri:List Int)(app:List Bool):∀m,(Qx par pri app m).length=par.length
 | 0=>by simp[Qx]
 | m+1=>by rw[Qx,QC,xj]
def ocA(par pri:List Int)(app:List Bool):List Int:=Qx par pri app par.length
def FN(par pri:List Int)(app:List Bool):Int:=if Kc par pri≠0∨app.length≠par.length then -1 else LS par pri (ocA par pri app) (-1)
def rtV_ok(par pri:List Int):Ct prog 83 [.tv (ag (ay .i64)) par,.tv (ag (ay .i64)) pri] (Sx (Kc par pri)):=by refine Yk func83 ntmps83 fun w0 ok0=>?_;refine fT 0 Z (fun hl0=>?_);refine fT 1 Z (fun hl1=>?_);refine Ks ?_ ?_<;>intro h1;have h1:par.length≠pri.length:=CY;refine Y7 ?_;exact z1 results83 Z (ri (by unfold Kc;rw[Cg h1]));have h1:¬par.length≠pri.length:=CY;refine wz ?_ ?_<;>intro h3;have h3:8<par.length:=E4;refine Y7 ?_;exact z1 results83 Z (ri (by unfold Kc;rw[zE h1,Cg h3]));have h3:¬8<par.length:=E4;refine dy ?_;refine bf (ι:=Nat) (fun k=>⟨[(1,.tv (ag (ay .i64)) pri),(15,.tv (ag (ay .i64)) par),(16,Sx par.length),(17,Sx ((k:Nat)))],[]⟩) (fun k=>k≤par.length∧M4 par pri k=0) (fun k=>par.length-k) 0 (⟨P8 _,Z⟩) (fun a w hi=>(zI hi)) ?_;rintro k ⟨hk,hz⟩;refine Z6 ?_ ?_<;>intro h6;have h6:k<par.length:=Si;have h6b:k<pri.length:=So;have g1:=Il h6;have g2:=Il h6b;refine Z25 ?_ ?_<;>intro h8;have h8:par[k] < -1∨(k:Int)≤par[k]:=abP;refine Y9 ?_;refine b8 (ax (al ?_));exact z1 results83 Z (ri (by unfold Kc;rw[zE h1,zE h3,Hq hz (by unfold Np;rw[g1,Cg h8];decide) h6];unfold Np;rw[g1,Cg h8]));have h8:¬(par[k] < -1∨(k:Int)≤par[k]):=abP;refine zb ?_;refine zG rfl rfl (fun hg=>av bT Sj (.gd rfl hg) (.gd rfl hg) rfl (getD_some (z:=(0:Int)) YS)) (Z5 ?_ ?_)<;>intro h10;have h10:pri[k]<0∨9<pri[k]:=aaf;refine Y8 ?_;refine b8 (ax (al ?_));exact z1 results83 Z (ri (by unfold Kc;rw[zE h1,zE h3,Hq hz (by unfold Np;rw[g1,g2,zE h8,Cg h10];decide) h6];unfold Np;rw[g1,g2,zE h8,Cg h10]));have h10:¬(pri[k]<0∨9<pri[k]):=aaf;refine Y7 ?_;exact aE (fun a w hi=>⟨k+1,zj,(⟨So,rtF_ok hz (by unfold Np;rw[g1,g2,zE h8,zE h10])⟩),(zI hi)⟩);have h6:k=par.length:=Si;refine dy ?_;exact z1 results83 Z (ri (by unfold Kc;rw[zE h1,zE h3,←h6,hz]))
def chI_ok(par:List Int)(v:Int)(hl:par.length≤1000):Ct prog 123 [.tv (ag (ay .i64)) par,Sx v] (.tv (ag (ay .i64)) (Jt par v par.length)):=by refine Yk func123 ntmps123 fun w0 ok0=>?_;refine E0 ?_;refine jF 70 5 (ay .i64) Z Z Z ?_;refine bf (ι:=Nat) (fun k=>⟨[(1,Sx v),(5,.own 70 (ay .i64).n 0 (Jt par v k).length),(8,.tv (ag (ay .i64)) par),(9,Sx par.length),(10,Sx ((k:Nat)))],[(70,⟨ay .i64,(Jt par v k)⟩)]⟩) (fun k=>k≤par.length) (fun k=>par.length-k) 0 (P8 _) (fun a w hi=>(zI hi)) ?_;rintro k hk;have hal:=IV par v k;refine Z6 ?_ ?_<;>intro h3;have h3:k<par.length:=Av;have g1:=Il h3;refine GJ ?_ ?_<;>intro h5;have hs:=chI_t (par:=par) (v:=v) (k:=k) (by rw[g1];simpa using h5);refine ab (zM Z (zM Z (zJ (bP (rt:=(ay .i64)) bT Sj z3 Z (.cons (.raw (.b Z) Z) .nil) Z Z) (zV [1,8,9,10] bT Sj z3 J7 Z Z (.tv (.b Z)) ?_))));exact Xg;have hs:=chI_f (par:=par) (v:=v) (k:=k) (by rw[g1];simpa using h5);exact Xe;simp at h3;obtain rfl:k=par.length:=So;refine zb ?_;refine e8 (rt:=ay .i64) 70 4 (bQ 70 _) Z Z Sp (a6 70 _) (bm 70 _) ?_;exact z1 results123 Z (congrArg (SV.tv (ag (ay .i64))) ac2)
def ab5(par pri oc:List Int)(v:Int)(hp:pri.length=par.length)(ho:oc.length=par.length)(hl:par.length≤1000):Ct prog 86 [.tv eF (par,pri,oc),Sx v] (.tv (ag (ay .i64)) (Kh par pri oc v)):=by
 refine Yk func86 ntmps86 fun w0 ok0=>?_;refine pA ?_;refine zJ (an (chI_ok _ _ zo) (.cons (.b Z) (.cons (.b Z) .nil)) Z Z) (Y5 ?_);refine jF 70 5 (ay .i64) Z Z Z ?_;refine bf (ι:=Nat) (fun k=>⟨[(2,Sy 2 eF),(5,.own 70 (ay .i64).n 0 (Ng pri oc ((Jt par v par.length).take k)).length),(11,.tv (ag (ay .i64)) (Jt par v par.length)),(12,Sx ((Jt par v par.length).length)),(13,Sx ((k:Nat)))],[(2,⟨eF,[(par,pri,oc)]⟩),(70,⟨ay .i64,(Ng pri oc ((Jt par v par.length).take k))⟩)]⟩) (fun k=>k≤(Jt par v par.length).length) (fun k=>(Jt par v par.length).length-k) 0 (P8 _) (fun a w hi=>(zI hi)) ?_;rintro k hk;have hbl:=IX (pri:=pri) (oc:=oc) (l:=(Jt par v par.length)) k hk;have hcl:=IV par v par.length;have hx0:0<(Ng pri oc ((Jt par v par.length).take k)).length→0≤((Ng pri oc ((Jt par v par.length).take k))[0]?.getD (0:Int))∧((Ng pri oc ((Jt par v par.length).take k))[0]?.getD (0:Int))<par.length:=fun q=>by have q1:=Dc (pri:=pri) (oc:=oc) k hk ((Ng pri oc ((Jt par v par.length).take k))[0]?.getD (0:Int)) (by rw[RY q];exact aA q);have q2:=Db (JU q1);exact⟨q2.1,q2.2.1⟩
 refine Z6 ?_ ?_<;>intro h3
 ·have h3:k<(Jt par v par.length).length:=Av;have hcm:=Db (aA h3);have hbs:=Ov (pri:=pri) (oc:=oc) h3;refine pA ?_;refine zX bT Sj Z Z (show(Jt par v par.length)[k]=(((Jt par v par.length)[k].toNat:Nat):Int)by omega) (getD_some (l:=oc) (i:=(Jt par v par.length)[k].toNat) (z:=0) zo) (Z4 ?_ ?_)<;>intro h5;have hs:Ng pri oc ((Jt par v par.length).take (k+1))=(Ng pri oc ((Jt par v par.length).take k)):=by rw[hbs];unfold OT;rw[Cg (show gi oc (Jt par v par.length)[k] = -1 from eq_of_beq h5)]
  exact Xg;have h5:¬gi oc (Jt par v par.length)[k] = -1:=beq_eq_false_iff_ne.1 h5;refine zb ?_;refine JJ Z Z (fun hg=>av bT Sj (.gd Z hg) (.gd Z hg) (show(Jt par v par.length)[k]=(((Jt par v par.length)[k].toNat:Nat):Int)by omega) (getD_some (l:=pri) (i:=(Jt par v par.length)[k].toNat) (z:=0) zo)) (Y4 ?_);refine JJ rfl rfl (fun hg=>bk bT Sj (.gd rfl hg) (.b rfl) (show(0:Int)=((0:Nat):Int)from rfl) Lg) (JJ rfl rfl (fun hg=>ah Sj (.gd rfl hg) rfl (getD_some (l:=(Ng pri oc ((Jt par v par.length).take k))) (i:=0) (z:=0) Lg) (Lens.id _)) (JJ rfl rfl (fun hg=>av bT Sj (.gd rfl hg) (.gd rfl hg) (show((Ng pri oc ((Jt par v par.length).take k))[0]?.getD (0:Int))=((((Ng pri oc ((Jt par v par.length).take k))[0]?.getD (0:Int)).toNat:Nat):Int)by have:=hx0 Lg;omega) (getD_some (l:=pri) (i:=((Ng pri oc ((Jt par v par.length).take k))[0]?.getD (0:Int)).toNat) (z:=0) Yh)) (Y4 ?_)));refine aa ?_;refine Z0 ?_ ?_<;>intro h6
  ·have h6:0<(Ng pri oc ((Jt par v par.length).take k)).length∧gi pri (gi (Ng pri oc ((Jt par v par.length).take k)) 0)<gi pri (Jt par v par.length)[k]:=by rw[YC]at h6;exact⟨by have:=h6.1;simp only[Ek]at this;omega,by have:=h6.2;simp only[Ek]at this;exact this⟩
   have hs:Ng pri oc ((Jt par v par.length).take (k+1))=[(Jt par v par.length)[k]]:=by rw[hbs];unfold OT;rw[zE h5,Cg h6]
   refine ab (zM Z (zJ (hJ bT Sj (.b Z) Z ⟨_,_,(.b Z),(show(0:Int)=((0:Nat):Int)from Z)⟩ zo zo) (zY Z (aa (ac ?_)))));refine Y8 ?_;refine JJ Z Z (fun hg=>av bT Sj (.gd Z hg) (.gd Z hg) (show(Jt par v par.length)[k]=(((Jt par v par.length)[k].toNat:Nat):Int)by omega) (getD_some (l:=pri) (i:=(Jt par v par.length)[k].toNat) (z:=0) zo)) (Y4 ?_);refine JJ rfl rfl (fun hg=>bk bT Sj (.gd rfl hg) (.b rfl) (show(0:Int)=((0:Nat):Int)from rfl) Lg) (JJ rfl rfl (fun hg=>ah Sj (.gd rfl hg) rfl (getD_some (l:=(Ng pri oc ((Jt par v par.length).take k))) (i:=0) (z:=0) Lg) (Lens.id _)) (JJ rfl rfl (fun hg=>av bT Sj (.gd rfl hg) (.gd rfl hg) (show((Ng pri oc ((Jt par v par.length).take k))[0]?.getD (0:Int))=((((Ng pri oc ((Jt par v par.length).take k))[0]?.getD (0:Int)).toNat:Nat):Int)by have:=hx0 Lg;omega) (getD_some (l:=pri) (i:=((Ng pri oc ((Jt par v par.length).take k))[0]?.getD (0:Int)).toNat) (z:=0) Yh)) (Y4 ?_)));refine aa ?_;refine Z0 ?_ ?_<;>intro h8
   ·first|(have _q:=h6.1)|(have h8b:(Ng pri oc ((Jt par v par.length).take k)).length=0∨gi pri (Jt par v par.length)[k]=gi pri (gi (Ng pri oc ((Jt par v par.length).take k)) 0):=Ym;have hs:Ng pri oc ((Jt par v par.length).take (k+1))=(Ng pri oc ((Jt par v par.length).take k))++[(Jt par v par.length)[k]]:=ZN)
    all_goals
     refine ab (zM Z (zM Z (zJ (bP (rt:=(ay .i64)) bT Sj z3 Z (.cons (.raw (.b Z) Z) .nil) Z Z) (zV [2,11,12,13] bT Sj z3 J7 Z Z (.tv (.b Z)) ?_))))
     refine Y8 ?_
     exact aaJ
   exact Td
  have h6:¬(0<(Ng pri oc ((Jt par v par.length).take k)).length∧gi pri (gi (Ng pri oc ((Jt par v par.length).take k)) 0)<gi pri (Jt par v par.length)[k]):=by intro q;rw[afm]at h6;rcases h6 with h6|h6;simp only[MF]at h6;omega;simp only[MF]at h6;exact h6 q.2
  refine dy ?_;refine JJ Z Z (fun hg=>av bT Sj (.gd Z hg) (.gd Z hg) (show(Jt par v par.length)[k]=(((Jt par v par.length)[k].toNat:Nat):Int)by omega) (getD_some (l:=pri) (i:=(Jt par v par.length)[k].toNat) (z:=0) zo)) (Y4 ?_);refine JJ rfl rfl (fun hg=>bk bT Sj (.gd rfl hg) (.b rfl) (show(0:Int)=((0:Nat):Int)from rfl) Lg) (JJ rfl rfl (fun hg=>ah Sj (.gd rfl hg) rfl (getD_some (l:=(Ng pri oc ((Jt par v par.length).take k))) (i:=0) (z:=0) Lg) (Lens.id _)) (JJ rfl rfl (fun hg=>av bT Sj (.gd rfl hg) (.gd rfl hg) (show((Ng pri oc ((Jt par v par.length).take k))[0]?.getD (0:Int))=((((Ng pri oc ((Jt par v par.length).take k))[0]?.getD (0:Int)).toNat:Nat):Int)by have:=hx0 Lg;omega) (getD_some (l:=pri) (i:=((Ng pri oc ((Jt par v par.length).take k))[0]?.getD (0:Int)).toNat) (z:=0) Yh)) (Y4 ?_)));refine aa ?_;refine Z0 ?_ ?_<;>intro h8
  ·first|(have _q:=h6.1)|(have h8b:(Ng pri oc ((Jt par v par.length).take k)).length=0∨gi pri (Jt par v par.length)[k]=gi pri (gi (Ng pri oc ((Jt par v par.length).take k)) 0):=Ym;have hs:Ng pri oc ((Jt par v par.length).take (k+1))=(Ng pri oc ((Jt par v par.length).take k))++[(Jt par v par.length)[k]]:=ZN)
   all_goals
    refine ab (zM Z (zM Z (zJ (bP (rt:=(ay .i64)) bT Sj z3 Z (.cons (.raw (.b Z) Z) .nil) Z Z) (zV [2,11,12,13] bT Sj z3 J7 Z Z (.tv (.b Z)) ?_))))
    refine Y7 ?_
    refine zQ [2,5,11,12,13] [2,70] ?_
    exact aaJ
  exact Td
 simp at h3;obtain rfl:k=(Jt par v par.length).length:=So;rw[FR];refine zb ?_;refine e8 (rt:=ay .i64) 70 4 (bQ 70 _) Z Z Sp (a6 70 _) (bm 70 _) ?_;exact z1 results86 Z (congrArg (SV.tv (ag (ay .i64))) aaD)
def L9(par pri oc:List Int)(v:Int)(hp:pri.length=par.length)(ho:oc.length=par.length)(hl:par.length≤1000):Ct prog 85 [.tv eF (par,pri,oc),Sx v] (Sx (LS par pri oc v)):=by
 refine Yk func85 ntmps85 fun w0 ok0=>?_;refine Qh ?_;refine YK (ab5 _ _ _ _ hp ho hl) ?_;refine O0 ?_ ?_<;>intro h3;have h3:(Kh par pri oc v).length=0:=by simp at h3;simp[h3]
 refine Y8 ?_;exact z1 results85 Z (ri (by unfold LS;rw[Cg h3]));have h3:¬(Kh par pri oc v).length=0:=by simp at h3;simp[h3]
 refine Z6 ?_ ?_<;>intro h5;have h5:(Kh par pri oc v).length=1:=by have:=eq_of_beq h5;omega
 have hb0:=IW (aA (show 0<(Kh par pri oc v).length by omega));have hb1:gi (Kh par pri oc v) 0=(Kh par pri oc v)[0]:=Il (k:=0) zo;refine ac ?_;refine Y4 ?_;refine GP (av bT Sj (.b Z) (.b Z) (show(0:Int)=((0:Nat):Int)from Z) zg) (GP (aO Sj (.b Z)) (GP (av bT Sj (.b Z) (.b Z) (show(Kh par pri oc v)[0]=(((Kh par pri oc v)[0].toNat:Nat):Int)by omega) (getD_some (l:=oc) (i:=(Kh par pri oc v)[0].toNat) (z:=0) zo)) (Y7 ?_)));exact z1 results85 Z (ri (by unfold LS;rw[zE h3,Cg h5,hb1];rfl));have h5:¬(Kh par pri oc v).length=1:=by have:=beq_eq_false_iff_ne.1 h5;omega
 refine Y9 ?_;exact z1 results85 Z (ri (by unfold LS;rw[zE h3,zE h5]))
def lw:ZR rHd [.slice none 0 0] (none,0,0):=fun _ _=>rfl
abbrev mM:=(bF (ag (ay .i64)) (bF (ag (ay .i64)) rHd))
def AN:Ty prog 189 mM:=by obtain⟨⟨de,hu,hd⟩,i0,hi0,hs⟩:=Rf;exact⟨⟨de,hu,hd⟩,i0,hi0,hs⟩
def Dm:TyZero prog 189 mM ([],([],(none,0,0))):=eK zk ((aX (bN) ((aX (bN) (lw)))))
def ab8:Lens mM 0 (ag (ay .i64)) (fun d=>d.1) (fun d x=>(x,d.2)):=(Lens.fst (Lens.id (ag (ay .i64))))
def ab9:Lens mM 1 (ag (ay .i64)) (fun d=>d.2.1) (fun d x=>(d.1,(x,d.2.2))):=(Lens.snd (Lens.fst (Lens.id (ag (ay .i64)))) rfl)
def oC:Lens mM 2 rHd (fun d=>d.2.2) (fun d x=>(d.1,(d.2.1,x))):=(Lens.snd (Lens.snd (Lens.id rHd) rfl) rfl)
def gH:Ty prog 37 rHd:=Zu
def ocA_ok(par pri:List Int)(app:List Bool)(hp:pri.length=par.length)(ha:app.length=par.length)(hl:par.length≤1000):Ct prog 84 [.tv (ag (ay .i64)) par,.tv (ag (ay .i64)) pri,.tv (ag cq) app] (.tv (ag (ay .i64)) (ocA par pri app)):=by
 refine Yk func84 ntmps84 fun w0 ok0=>?_;refine dy ?_;refine zO (fM bT Sj z3 Z J7 (.b Z) (.b Z) zo Kw rfl rfl rfl) ?_;refine ge 2 13 Z Z (fun A cap=>?_);refine zJ (aC Dm Z Rt (.cons (rt':=(ag (ay .i64))) Z ab8 (.tv (.b Z)) (.cons (rt':=(ag (ay .i64))) Z ab9 (.tv (.b Z)) (.cons (rt':=rHd) Z oC (.raw (d:=(A,par.length,cap)) (.b Z) Z) .nil)))) (zl Dm (zC AN Z Z Z (Lens.id _) (.tv (.b Z)) (zb ?_)));refine bf (ι:=Nat) (fun m=>⟨[(7,Sy 7 mM),(8,Sx (((par.length:Int)-1-m))),(2,.lnk (.tv (ag cq) app) (.slice A par.length cap) (.own 13 (ay .i64).n 0 par.length))],[(7,⟨mM,[(par,pri,(A,par.length,cap))]⟩),(13,⟨ay .i64,(Qx par pri app m)⟩)]⟩) (fun m=>m≤par.length) (fun m=>par.length-m) 0 (P8 _) (fun a w hi=>(zI hi)) ?_;rintro m hm;have hol:=xj par pri app m;refine Z7 ?_ ?_<;>intro h3;have h3:m<par.length:=E4;have hct:(((par.length-1-m):Nat):Int)=((par.length:Int)-1-m):=So;have hgb:gb app ((par.length:Int)-1-m)=(app[(par.length-1-m)]?.getD false):=by unfold gb;rw[show(((par.length:Int)-1-m)).toNat=(par.length-1-m)by omega]
 refine Y5 ?_;refine adR 2 8 Z Z ?_;refine je (ca (aj pv (.b Z)) (ca (ah (rt:=mM) gH (.b Z) Z Z oC) (ca (ai (.b Z)) (ca (ah (rt:=mM) AN (.b Z) Z Z (Lens.id mM)) (ca (ai (.b Z)) (ca (adT (L9 par pri (Qx par pri app m) ((par.length:Int)-1-m) hp hol hl) (.b Z) Z Z hol.symm (aY _ (aY _ dc))) (ca (tE bT Sj (.b Z) Z (show((par.length:Int)-1-m)=(((par.length-1-m):Nat):Int)by omega) zo) (LJ Sj rfl rfl zg (Lens.id _) (.raw (.b rfl) rfl) (je0 ?_)))))))));refine aa (ac ?_);refine adS 8 Z ?_;refine ab (zF pv Z (zJ (ah (rt:=mM) gH (.b Z) Z Z oC) (zM Z ?_)));refine ED 2 31 Z Z ?_;refine zJ (tE bT Sj (.b Z) Z (show((par.length:Int)-1-m)=(((par.length-1-m):Nat):Int)by omega) zo) ?_;refine bi _ Z _ Z Z (ah Sj (.b Z) Z (by rw[N1];exact pw zo) (Lens.id _)) ?_;refine evN Z Z (zM Z (zG Z Z (fun hg=>ai (.l1 Z)) (zG Z Z (fun hg=>ai (.b Z)) (zG Z Z (fun hg=>av gG Gf (.gd Z hg) (.gd Z hg) (show((par.length:Int)-1-m)=(((par.length-1-m):Nat):Int)by omega) (getD_some (l:=app) (i:=(par.length-1-m)) (z:=false) zo)) (Z4 ?_ ?_)))))<;>intro h6;rw[YC]at h6;have hs:(((Qx par pri app m).set (par.length-1-m) (LS par pri (Qx par pri app m) ((par.length:Int)-1-m))).set (par.length-1-m) ((par.length:Int)-1-m))=Qx par pri app (m+1):=by rw[List.set_set,Qx,hct,Cg ⟨eq_of_beq h6.1,by rw[hgb];exact h6.2⟩]
 refine ab (zF pv Z (zJ (ah (rt:=mM) gH (.b Z) Z Z oC) (zM Z (zM Z ?_))));refine ED 2 43 Z Z ?_;refine zJ (tE bT Sj (.b Z) Z (show((par.length:Int)-1-m)=(((par.length-1-m):Nat):Int)by omega) zo) ?_;refine gV _ Z (bH Sj (.b Z) Z zg (Lens.id _) (.raw (.b Z) Z)) ?_;exact TC;rw[afm]at h6;have hs:((Qx par pri app m).set (par.length-1-m) (LS par pri (Qx par pri app m) ((par.length:Int)-1-m)))=Qx par pri app (m+1):=by rw[Qx,hct,zE];rintro⟨q1,q2⟩;rcases h6 with h6|h6;exact(beq_eq_false_iff_ne.1 h6) q1;rw[hgb]at q2;rw[q2]at h6;cases h6
 exact TC;have h3:m=par.length:=E4;subst h3;refine Y6 ?_;refine dv (rt:=ay .i64) 13 2 (bQ 13 _) Z Z zo (a6 13 _) (bm 13 _) ?_;rw[Pv,fV zo];refine eg 2 7 eF (par,pri,Qx par pri app par.length) (aY _ (aY _ dc)) Z Z Z ?_;refine ab (zF pv Z (zJ (ah (rt:=eF) kr (.b Z) Z Z xq) (zY Z (aa (am ?_)))));exact z1 results84 Z (Z)
def Rn(h:Kc par pri=0):pri.length=par.length∧par.length≤8∧∀i,i<par.length→Np par pri i=0:=by unfold Kc at h;split at h;cases h;split at h;cases h;exact⟨So,So,Ro h⟩
def Hc(par pri:List Int)(app:List Bool):Ct prog 33 [.tv (ag (ay .i64)) par,.tv (ag (ay .i64)) pri,.tv (ag cq) app] (Sx (FN par pri app)):=by
 refine Yk func33 ntmps33 fun w0 ok0=>?_;refine fT 0 Z (fun hl0=>?_);refine fT 2 Z (fun hl2=>?_);refine Qh ?_;refine YK (rtV_ok _ _) ?_;refine wz ?_ ?_<;>intro h1;have h1:Kc par pri≠0∨app.length≠par.length:=by rw[JO]at h1;rcases h1 with h1|h1;exact .inl LF;exact .inr CY
 refine Y7 ?_;exact z1 results33 Z (ri (by unfold FN;rw[Cg h1]));have h1:¬(Kc par pri≠0∨app.length≠par.length):=by rw[afn]at h1;rintro(q|q);exact q (by simpa using h1.1);have q2:=h1.2;simp at q2;omega
 have hv0:Kc par pri=0:=Classical.byContradiction fun q=>h1 (.inl q);have hq2:app.length=par.length:=Classical.byContradiction fun q=>h1 (.inr q);have hq1:=(Rn hv0).1;have hq3:par.length≤1000:=by have:=(Rn hv0).2.1;omega
 refine Y9 ?_;refine YK (ocA_ok _ _ _ hq1 hq2 hq3) ?_;refine zJ (aC z189 Z Rt (.cons (rt':=(ag (ay .i64))) Z HX (.tv (.b Z)) (.cons (rt':=(ag (ay .i64))) Z qm (.tv (.b Z)) (.cons (rt':=(ag (ay .i64))) Z xq (.tv (.b Z)) .nil)))) (YK (L9 _ _ _ _ hq1 (xj _ _ _ _) hq3) ?_);refine zY Z (aa (am ?_));exact z1 results33 Z (ri (by unfold FN;rw[zE h1];rfl))
def acs(l:List dA)(hlm:l.length≤1000000):CtO prog 112 [.tv (ag dD) l] dD l:=by refine wg func112 Z Z ntmps112 Z Z ?_;intro w0 ok0;refine Y9 ?_;refine y4 3 Z (fun A cap hA=>?_);refine zJ (pi dY (.b Z) (.b Z)) (zZ ?_);refine Z0 ?_ ?_<;>intro h1;have hl:l=[]:=hA (JQ.1 h1);refine Y7 ?_;exact wL results112 Z hl.symm;skip;refine ak (aa (zR (zO (kC (rt:=dD) (ds:=[]) dY fe Aj Z .nil Z Z Z Z Z) (zM Z (zV [] dY fe Aj jX Z Z (.tv (.b Z)) ?_)))));refine Y4 ?_;exact CL results112 Z Z Sp Sp
abbrev pT:RT (List dA ⊕ (Option Addr×Nat×Nat)):=rSum (ag dD) rHd rfl rfl
def acF:ZR pT [.slice none 0 0] (Sum.inl []):=fun w ok=>bN (e:=dD) w ok
abbrev kV:=(bF du (bF bt (bF bt rHd)))
def acJ:Lens kV 5 rHd (fun d=>d.2.2.2) (fun d x=>(d.1,(d.2.1,(d.2.2.1,x)))):=(Lens.snd (Lens.snd (Lens.snd (Lens.id rHd) rfl) rfl) rfl)
abbrev cG:=(bF du (bF bt (bF bt pT)))
def lA:Ty prog 159 cG:=by obtain⟨⟨de,hu,hd⟩,i0,hi0,hs⟩:=eZ;exact⟨⟨de,hu,hd⟩,i0,hi0,hs⟩
def AI:TyZero prog 159 cG ([],((0,0),((0,0),Sum.inl []))):=eK zk ((aX (gk) ((aX ((aX (cN .i64) (cN .i64))) ((aX ((aX (cN .i64) (cN .i64))) (acF)))))))
def p9:Lens cG 5 pT (fun d=>d.2.2.2) (fun d x=>(d.1,(d.2.1,(d.2.2.1,x)))):=(Lens.snd (Lens.snd (Lens.snd (Lens.id pT) rfl) rfl) rfl)
def acR:Ty prog 157 rHd:=Zv
abbrev Hd:=Option Addr×Nat×Nat
variable{hd:Hd}
abbrev Dh:=List UInt8×ce×ce×(List dA ⊕ Hd)
def gq(l:List bS)(i:Nat):bS:=l[i]?.getD ([],(0,0),(0,0),[])
def rQ(h:i<l.length):gq l i=l[i]:=by unfold gq;rw[RY h];rfl
def M3(k:Nat)(hd:Hd)(i:Nat)(t:bS):Dh:=(t.1,t.2.1,t.2.2.1,if i=k then .inr hd else .inl t.2.2.2)
def Kr(l:List bS)(k:Nat)(hd:Hd)(j:Nat):List Dh:=(List.range j).map fun i=>M3 k hd i (gq l i)
def eH(l:List bS)(k j:Nat):List dA:=if j≤k then[]else(gq l k).2.2.2
def tbE_s(l:List bS)(k:Nat)(hd:Hd)(j:Nat):Kr l k hd (j+1)=Kr l k hd j++[M3 k hd j (gq l j)]:=by unfold Kr;rw[Jp,ll];rfl
def jg(l:List bS)(k:Nat)(hd:Hd)(j:Nat):(Kr l k hd j).length=j:=by simp[Kr]
def tbE_le{hd2:Hd}(h:j≤k):Kr l k hd j=Kr l k hd2 j:=by unfold Kr;refine Kp fun i hi=>?_;have:=Lb.1 hi;unfold M3;rw[zE zo,zE zo]
def foT_ne(h:¬j=k):eH l k (j+1)=eH l k j:=by unfold eH;by_cases q:j≤k;rw[Cg q,Cg zo];rw[zE q,zE zo]
def foT_eq:eH l k (k+1)=(gq l k).2.2.2:=by unfold eH;rw[zE zo]
def Ir(h:j≤k):eH l k j=[]:=by unfold eH;rw[Cg h]
def acT{ys:List dA}{n cap:Nat}:rN dD ys (.slice A n cap) rHd (A,n,cap) pT (.inl ys):=⟨rfl,fun w ok cs hv h=>(dc (rt:=dD)).2 w ok cs hv h⟩
def jet{ok:Ok}{t:bS}(h:kV.rep w ok cs (t.1,t.2.1,t.2.2.1,hd)):cG.rep w ok cs (t.1,t.2.1,t.2.2.1,.inr hd):=h
section
variable{cx:Cx}{kn:Kn}{c:Code}
def H9{st:St}(c0:Nat){s t:SV}(hs:bg st.slots c0=some (.lnk s u t))(h:J P cx ⟨(c0,s)::st.slots,st.heap⟩ c kn):J P cx st c kn:=fun a w ⟨β,hb⟩=>h a w ⟨β,hb.turnS hs (fun v hv=>hv.1)⟩
def jl{st:St}(i j:Nat){s t:SV}{s2:SV}(hi:bg st.slots i=some (.lnk s u t))(hj:bg st.slots j=some s2)(hne:Nat.beq i j=false)(h:J P cx ⟨(j,.lnk s2 u t)::(i,s)::st.slots,st.heap⟩ c kn):J P cx st c kn:=fun a w ⟨β,hb⟩=>by exact UM
def Yl1(l:List bS)(k j:Nat)(B A5:Option Addr)(cB c5:Nat)(h:∀B2 cB2,J prog cx ⟨[(0,.lnk (.tv (ag b9) l) (.slice B2 (eH l k (j+1)).length cB2) (.own 81 dD.n 0 (eH l k (j+1)).length)),(3,.own 80 cG.n 0 j),(5,Sy 5 cG),(6,.tv (ag b9) l),(7,Sx (l.length:Nat)),(8,Sx (j:Nat))],[(5,HB.mk cG [M3 k (B2,(eH l k (j+1)).length,cB2) j (gq l j)]),(80,HB.mk cG (Kr l k (B2,(eH l k (j+1)).length,cB2) j)),(81,HB.mk dD (eH l k (j+1)))]⟩ c kn):
 J prog cx ⟨[(0,.lnk (.tv (ag b9) l) (.slice B (eH l k j).length cB) (.own 81 dD.n 0 (eH l k j).length)),(3,.own 80 cG.n 0 j),(5,.lnk (Sy 5 kV) (.slice A5 (gq l j).2.2.2.length c5) (.own 14 dD.n 0 (gq l j).2.2.2.length)),(6,.tv (ag b9) l),(7,Sx (l.length:Nat)),(8,Sx (j:Nat))],[(5,HB.mk kV [((gq l j).1,(gq l j).2.1,(gq l j).2.2.1,(A5,(gq l j).2.2.2.length,c5))]),(80,HB.mk cG (Kr l k (B,(eH l k j).length,cB) j)),(81,HB.mk dD (eH l k j)),(14,HB.mk dD (gq l j).2.2.2)]⟩ c kn:=by
 by_cases e:j=k;have e0:=Ir (l:=l) (Kf e);refine H9 0 Z ?_;refine y9 [5,0,3,6,7,8] [5,80,14] (.cons Z (.cons Z (.cons Z (.cons Z (.cons Z (.cons Z .nil)))))) (.cons Z (.cons Z (.cons Z .nil))) ?_;refine EL 14 81 5 Z Z Z Z Z ?_;refine jl 5 0 Z Z Z ?_;have e1:(eH l k (j+1))=(gq l j).2.2.2:=by subst e;exact foT_eq
 refine EM (r1:=kV) 5 cG [M3 k (A5,(gq l j).2.2.2.length,c5) j (gq l j)] Z Z Z (fun w ok i y hy=>?_) ?_;cases i with
 | succ i=>simp at hy
 | zero=>
  have hy:M3 k (A5,(gq l j).2.2.2.length,c5) j (gq l j)=y:=by simpa using hy
  refine⟨_,Z,fun cs hc=>?_⟩;rw[←hy];unfold M3;rw[Cg e];exact jet hc
 have h:=h A5 c5;rw[e1,tbE_le (hd2:=(B,(eH l k j).length,cB)) (Kf e)]at h;exact VD;have e1:=foT_ne (l:=l) e;refine dv (rt:=dD) 14 5 (bQ 14 _) Z Z zo (a6 14 _) (bm 14 _) ?_;rw[Pv,FR];refine eg 5 5 (r1:=kV) (d1:=((gq l j).1,(gq l j).2.1,(gq l j).2.2.1,(A5,(gq l j).2.2.2.length,c5))) cG (M3 k (B,(eH l k j).length,cB) j (gq l j)) ?_ Z Z Z ?_;unfold M3;rw[zE e];exact aY _ (aY _ (aY _ acT));exact Vn
end
def ctabH(l:List bS)(k:Nat)(i:Option Addr×Nat):List (Nat×HB):=[(80,HB.mk cG (Kr l k (i.1,(eH l k l.length).length,i.2) l.length)),(81,HB.mk dD (eH l k l.length))]
def ctabR(l:List bS)(k:Nat)(i:Option Addr×Nat):SV:=.lnk (.own 80 cG.n 0 l.length) (.slice i.1 (eH l k l.length).length i.2) (.own 81 dD.n 0 (eH l k l.length).length)
def Ad(l:List bS)(k:Nat)(hl:l.length≤1000000)(hE:∀e∈l,e.2.2.2.length≤1000000):
 CtG prog 68 [] [.tv (ag b9) l] (fun _=>True) (ctabH l k) (ctabR l k) (fun _=>[]):=by refine lQ func68 Z Z ntmps68 Z ?_;intro w0 ok0 ex;refine E0 ?_;refine jF 80 3 cG Z Z Z ?_;refine iB 0 81 dD Z Z Z ?_;refine bf (ι:=Nat×Option Addr×Nat) (fun(j,B,cB)=>⟨[(0,.lnk (.tv (ag b9) l) (.slice B (eH l k j).length cB) (.own 81 dD.n 0 (eH l k j).length)),(3,.own 80 cG.n 0 j),(6,.tv (ag b9) l),(7,Sx (l.length:Nat)),(8,Sx (j:Nat))],[(80,⟨cG,Kr l k (B,(eH l k j).length,cB) j⟩),(81,⟨dD,(eH l k j)⟩)]⟩) (fun(j,B,cB)=>j≤l.length) (fun(j,B,cB)=>l.length-j) (0,none,0) (P8 _) (fun a w hi=>(Sub.inv ⟨(by repeat(first|exact au|refine ap rfl (by first|rfl|(rw[Ir (P8 _)];rfl)) ?_)),(by repeat(first|exact aw|refine ao rfl (by first|rfl|(refine congrArg (HB.mk dD) ?_;first|rfl|(exact(Ir (P8 _)).symm;done))|(rw[Ir (P8 _)];rfl)) ?_))⟩ hi)) ?_;rintro⟨j,B,cB⟩ hj;have hsl:=jg l k (B,(eH l k j).length,cB) j;refine Z6 ?_ ?_<;>intro h3;have h3:j<l.length:=Av;have hat:=rQ h3;have hcl:=hE _ (aA h3);rw[←hat]at hcl;refine Y6 ?_;refine bi _ Z _ Z Z (av ju eZ (.b Z) (.b Z) Z (show l[j]?=some (gq l j)by rw[RY h3,hat])) ?_;refine Y9 ?_;refine adY 5 (r1:=b9) (d1:=(gq l j)) kV (gM _ (gM _ (gM _ ut))) Z Z (fun y5=>?_);refine zO (uw (acs _ hcl) (.cons (.b Z) .nil) Z Z Z Z) ?_;refine ge 5 14 Z Z (fun A5 c5=>?_);refine zJ (aj ig (.l1 Z)) (zO (bH (rt:=kV) acR (.b Z) Z Z acJ (.raw (d:=(A5,_,c5)) (.b Z) Z)) (zZ ?_));refine y9 [0,3,5,6,7,8] [5,80,81,14] (.cons Z (.cons Z (.cons Z (.cons Z (.cons Z (.cons Z .nil)))))) (.cons Z (.cons Z (.cons Z (.cons Z .nil)))) ?_;refine Yl1 l k j B A5 cB c5 (fun B2 cB2=>?_);have hst:=fV (Kf (jg l k (B2,(eH l k (j+1)).length,cB2) j));have hsl2:=jg l k (B2,(eH l k (j+1)).length,cB2) j;refine ab (zM Z (zJ (ah (rt:=cG) lA (.b Z) Z Z (Lens.id _)) (zJ (bP (rt:=cG) ju lA AI Z (.cons (.tv (.b Z)) .nil) Z Z) (zV [0,6,7,8] ju lA AI RU Z Z (.tv (.b Z)) ?_))));refine Y8 ?_;exact aE (fun a w hi=>⟨(j+1,B2,cB2),(by show _-(j+1)<_-j;omega),(by show j+1≤_;omega),Sub.inv ⟨Zj,(by repeat(first|exact aw|refine ao rfl (by first|rfl|(refine congrArg (HB.mk cG) ?_;first|rfl|(exact(congrArg (fun z=>z++_) hst).trans (tbE_s _ _ _ _).symm;done))|(simp;done)) ?_))⟩ hi⟩);have h3:j=l.length:=E4;refine Y6 ?_;subst h3;refine Y6 ?_;exact e7 (B,cB) results68 (xd 0 (ar Z) Z) trivial Z (bB Z (bB Z dZ)) abo
abbrev m8:RT (List ba ⊕ (Option Addr×Nat×Nat)):=rSum (ag ct) rHd rfl rfl
def Yl3:ZR m8 [.slice none 0 0] (Sum.inl []):=fun w ok=>bN (e:=ct) w ok
abbrev ly:=(bF (ag dl) (bF (ag b9) rHd))
def Dy:Ty prog 26 ly:=Zp
def yJ:Lens ly 2 rHd (fun d=>d.2.2) (fun d x=>(d.1,(d.2.1,x))):=(Lens.snd (Lens.snd (Lens.id rHd) rfl) rfl)
abbrev cc:=(bF (ag dl) (bF rHd rHd))
def o6:Ty prog 26 cc:=Zp
def gn:TyZero prog 26 cc ([],((none,0,0),(none,0,0))):=eK zk ((aX (bN) ((aX (lw) (lw)))))
def yM:Lens cc 0 (ag dl) (fun d=>d.1) (fun d x=>(x,d.2)):=(Lens.fst (Lens.id (ag dl)))
def yL:Lens cc 1 rHd (fun d=>d.2.1) (fun d x=>(d.1,(x,d.2.2))):=(Lens.snd (Lens.fst (Lens.id rHd)) rfl)
def yK:Lens cc 2 rHd (fun d=>d.2.2) (fun d x=>(d.1,(d.2.1,x))):=(Lens.snd (Lens.snd (Lens.id rHd) rfl) rfl)
abbrev lx:=(bF (ag dl) (bF rHd (ag bw)))
def Dx:Ty prog 26 lx:=Zp
def qf:Lens lx 1 rHd (fun d=>d.2.1) (fun d x=>(d.1,(x,d.2.2))):=(Lens.snd (Lens.fst (Lens.id rHd)) rfl)
abbrev iL:=(bF du (bF (ay .i64) (bF (ag dm) (bF (ag dm) rHd))))
def na:Lens iL 4 rHd (fun d=>d.2.2.2.2) (fun d x=>(d.1,(d.2.1,(d.2.2.1,(d.2.2.2.1,x))))):=(Lens.snd (Lens.snd (Lens.snd (Lens.snd (Lens.id rHd) rfl) rfl) rfl) rfl)
abbrev cV:=(bF du (bF (ay .i64) (bF (ag dm) (bF (ag dm) m8))))
def nv:Ty prog 81 cV:=by obtain⟨⟨de,hu,hd⟩,i0,hi0,hs⟩:=dO;exact⟨⟨de,hu,hd⟩,i0,hi0,hs⟩
def AJ:TyZero prog 81 cV ([],(0,([],([],Sum.inl [])))):=eK zk ((aX (gk) ((aX (cN .i64) ((aX (bN) ((aX (bN) (Yl3)))))))))
def by4:Lens cV 3 (ag dm) (fun d=>d.2.2.2.1) (fun d x=>(d.1,(d.2.1,(d.2.2.1,(x,d.2.2.2.2))))):=(Lens.snd (Lens.snd (Lens.snd (Lens.fst (Lens.id (ag dm))) rfl) rfl) rfl)
def jU:Lens cV 4 m8 (fun d=>d.2.2.2.2) (fun d x=>(d.1,(d.2.1,(d.2.2.1,(d.2.2.2.1,x))))):=(Lens.snd (Lens.snd (Lens.snd (Lens.snd (Lens.id m8) rfl) rfl) rfl) rfl)
def G5:Ty prog 79 rHd:=Zq
def x4:Ty prog 24 rHd:=Zt
abbrev I3:=List UInt8×Int×List dG×List dG×(List ba ⊕ Hd)
def M7(k:Nat)(hd:Hd)(i:Nat)(s:aL):I3:=(s.1,s.2.1,s.2.2.1,s.2.2.2.1,if i=k then .inr hd else .inl s.2.2.2.2)
def NO(l:bZ)(k:Nat)(hd:Hd)(j:Nat):List I3:=(List.range j).map fun i=>M7 k hd i (dz l i)
def ci(l:bZ)(k j:Nat):List ba:=if j≤k then[]else(dz l k).2.2.2.2
def scE_s(l:bZ)(k:Nat)(hd:Hd)(j:Nat):NO l k hd (j+1)=NO l k hd j++[M7 k hd j (dz l j)]:=by unfold NO;rw[Jp,ll];rfl
def ji(l:bZ)(k:Nat)(hd:Hd)(j:Nat):(NO l k hd j).length=j:=by simp[NO]
def scE_le{l:bZ}{hd2:Hd}(h:j≤k):NO l k hd j=NO l k hd2 j:=by unfold NO;refine Kp fun i hi=>?_;have:=Lb.1 hi;unfold M7;rw[zE zo,zE zo]
def foR_ne{l:bZ}(h:¬j=k):ci l k (j+1)=ci l k j:=by unfold ci;by_cases q:j≤k;rw[Cg q,Cg zo];rw[zE q,zE zo]
def foR_eq{l:bZ}:ci l k (k+1)=(dz l k).2.2.2.2:=by unfold ci;rw[zE zo]
def Is{l:bZ}(h:j≤k):ci l k j=[]:=by unfold ci;rw[Cg h]
def z81{ys:List ba}{n cap:Nat}:rN ct ys (.slice A n cap) rHd (A,n,cap) m8 (.inl ys):=⟨rfl,fun w ok cs hv h=>(dc (rt:=ct)).2 w ok cs hv h⟩
def tbD{ok:Ok}{s:aL}(h:iL.rep w ok cs (s.1,s.2.1,s.2.2.1,s.2.2.2.1,hd)):cV.rep w ok cs (s.1,s.2.1,s.2.2.1,s.2.2.2.1,.inr hd):=h
section
variable{cx:Cx}{kn:Kn}{c:Code}
def opA(l:bZ)(TT:List Dh)(TR:List dA)(nT m:Nat)(C D:Option Addr)(cC cD:Nat)(k j:Nat)(A B A6:Option Addr)(cA cB c6:Nat)(h:∀B2 cB2,J prog cx ⟨[(0,.lnk (.tv bl l) (.slice D m cD) (.own 81 dD.n 0 m)),(2,.lnk (Sy 2 cc) (.slice B2 (ci l k (j+1)).length cB2) (.own 71 ct.n 0 (ci l k (j+1)).length)),(3,.lnk (Sy 3 cc) (.slice A j cA) (.own 70 cV.n 0 j)),(6,Sy 6 cV),(13,.lnk (.tv (ag b9) l.2.1) (.slice C nT cC) (.own 80 cG.n 0 nT)),(17,.tv (ag bw) l.2.2),(18,Sx (l.2.2.length:Nat)),(19,Sx (j:Nat))],[(2,HB.mk cc [([],(none,0,0),(none,0,0))]),(3,HB.mk cc [(l.1,(C,nT,cC),(A,j,cA))]),(6,HB.mk cV [M7 k (B2,(ci l k (j+1)).length,cB2) j (dz l j)]),(70,HB.mk cV (NO l k (B2,(ci l k (j+1)).length,cB2) j)),(71,HB.mk ct (ci l k (j+1))),(80,HB.mk cG TT),(81,HB.mk dD TR)]⟩ c kn):
 J prog cx ⟨[(0,.lnk (.tv bl l) (.slice D m cD) (.own 81 dD.n 0 m)),(2,.lnk (Sy 2 cc) (.slice B (ci l k j).length cB) (.own 71 ct.n 0 (ci l k j).length)),(3,.lnk (Sy 3 cc) (.slice A j cA) (.own 70 cV.n 0 j)),(6,.lnk (Sy 6 iL) (.slice A6 (dz l j).2.2.2.2.length c6) (.own 73 ct.n 0 (dz l j).2.2.2.2.length)),(13,.lnk (.tv (ag b9) l.2.1) (.slice C nT cC) (.own 80 cG.n 0 nT)),(17,.tv (ag bw) l.2.2),(18,Sx (l.2.2.length:Nat)),(19,Sx (j:Nat))],[(2,HB.mk cc [([],(none,0,0),(none,0,0))]),(3,HB.mk cc [(l.1,(C,nT,cC),(A,j,cA))]),(6,HB.mk iL [((dz l j).1,(dz l j).2.1,(dz l j).2.2.1,(dz l j).2.2.2.1,(A6,(dz l j).2.2.2.2.length,c6))]),(70,HB.mk cV (NO l k (B,(ci l k j).length,cB) j)),(71,HB.mk ct (ci l k j)),(80,HB.mk cG TT),(81,HB.mk dD TR),(73,HB.mk ct (dz l j).2.2.2.2)]⟩ c kn:=by
 by_cases e:j=k;have e0:=Is (l:=l) (Kf e);refine H9 2 Z ?_;refine y9 [6,0,2,3,13,17,18,19] [2,3,6,70,73,80,81] (.cons Z (.cons Z (.cons Z (.cons Z (.cons Z (.cons Z (.cons Z (.cons Z .nil)))))))) (.cons Z (.cons Z (.cons Z (.cons Z (.cons Z (.cons Z (.cons Z .nil))))))) ?_;refine EL 73 71 6 Z Z Z Z Z ?_;refine jl 6 2 Z Z Z ?_;have e1:(ci l k (j+1))=(dz l j).2.2.2.2:=by subst e;exact foR_eq
 refine EM (r1:=iL) 6 cV [M7 k (A6,(dz l j).2.2.2.2.length,c6) j (dz l j)] Z Z Z (fun w ok i y hy=>?_) ?_;cases i with
 | succ i=>simp at hy
 | zero=>
  have hy:M7 k (A6,(dz l j).2.2.2.2.length,c6) j (dz l j)=y:=by simpa using hy
  refine⟨_,Z,fun cs hc=>?_⟩;rw[←hy];unfold M7;rw[Cg e];exact tbD hc
 have h:=h A6 c6;rw[e1,scE_le (hd2:=(B,(ci l k j).length,cB)) (Kf e)]at h;exact VD;have e1:=foR_ne (l:=l) e;refine dv (rt:=ct) 73 6 (bQ 73 _) Z Z zo (a6 73 _) (bm 73 _) ?_;rw[Pv,FR];refine eg 6 6 (r1:=iL) (d1:=((dz l j).1,(dz l j).2.1,(dz l j).2.2.1,(dz l j).2.2.2.1,(A6,(dz l j).2.2.2.2.length,c6))) cV (M7 k (B,(ci l k j).length,cB) j (dz l j)) ?_ Z Z Z ?_;unfold M7;rw[zE e];exact aY _ (aY _ (aY _ (aY _ z81)));exact Vn
end
end Go.Eng
