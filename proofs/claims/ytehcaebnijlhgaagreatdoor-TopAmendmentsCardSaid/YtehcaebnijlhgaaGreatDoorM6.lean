import GoSem.ClaimJoined
import Derived.Test.YtehcaebnijlhgaaGreatDoorProg
import Derived.Test.YtehcaebnijlhgaaGreatDoorM5
set_option linter.all false
set_option maxRecDepth 100000
set_option maxHeartbeats 9000000
namespace Go.Eng
open Go.Proofs Tryz
variable{A:Option Addr}{P:Program}{α γ δ ι:Type}{Q:List α→Prop}{a:Act}{aft:Array Edge}{b r1 rt':RT γ}{c:Code}{cap d f i m n nm off sz:Nat}{cx:Cx}{dst:Option Tmp}{e t ty:TypeId}{fn:Func}{fs:List Field}{gd:Option (Nat×Bool)}{get:α→γ}{k:Kn}{kf:FuncId}{l rest:List Oper}{o:Oper}{ops:Array Oper}{pos:String}{r:List (Nat×SV)}{r2:RT δ}{rt:RT α}{s s2 t2:SV}{s0:Option Addr×Nat×Nat→SV}{set:α→γ→α}{ss:List SV}{st st':St}{starts:List Int}{ts:Array TypeId}{u u1 u2 v:Value}{v0:ResultVar}{w w':World}{x:Operand}{xo:List Operand}{xs ys ys1:List α}{y:α}{ys2:List γ}{β:Loc}{φ:α→Prop}
def rSum(a:RT α)(b:RT γ)(hn:b.n=a.n)(hg:b.agg=a.agg):RT (α ⊕ γ) where
 n:=a.n
 agg:=a.agg
 raw _:=none
 rep w ok cs d:=match d with
  | .inl x=>a.rep w ok cs x
  | .inr y=>b.rep w ok cs y
 len:=by
  rintro w ok cs (x|y) h
  ·exact a.len h
  exact(b.len h).trans hn
 one:=by
  rintro w ok cs (x|y) h
  ·exact a.one h
  exact b.one h
 keep:=by
  rintro w w' ok ok' cs (x|y) hk h
  ·exact a.keep hk h
  exact b.keep hk h
 scal:=a.scal
 exact_ h:=ob
 exact' h:=ob
instance{a:RT α}{hn:b.n=a.n}{hg:b.agg=a.agg}:NM (rSum a b hn hg):=⟨rfl⟩
section
def za{nb:Nat}[NM r1]{xs:List γ}[NM r2]{ys:List δ}(hnn:r1.n=r2.n)(hl:ys.length=xs.length)(hn:aG st.heap nb=some ⟨r1,xs⟩)(hi:InvB cx st β a w)
 (hc:∀(i:Nat) (y:δ),ys[i]?=some y→∃x,xs[i]?=some x∧∀cs,r1.rep w (bY cx st.heap β w) cs x→r2.rep w (bY cx st.heap β w) cs y):
 InvB cx ⟨st.slots,(nb,⟨r2,ys⟩)::st.heap⟩ β a w:=by
 have hk:∀k h,aG ((nb,HB.mk r2 ys)::st.heap) k=some h→(k=nb∧h=⟨r2,ys⟩)∨(k≠nb∧aG st.heap k=some h):=fun k h hh=>by exact V5
 have hk':∀k h,aG ((nb,HB.mk r2 ys)::st.heap) k=some h→∃h',aG st.heap k=some h':=fun k h hh=>by rcases hk k h hh with⟨rfl,_⟩|⟨_,hh⟩;exact⟨_,hn⟩;exact⟨_,hh⟩
 have hok:∀b,bY cx st.heap β w b→bY cx ((nb,HB.mk r2 ys)::st.heap) β w b∧w.heap[b]?=w.heap[b]?:=fun b ⟨g1,g2,g3⟩=>⟨⟨g1,g2,fun k h hh x hx=>by obtain⟨h',hh'⟩:=hk' k h hh;exact g3 k h' hh' x hx⟩,rfl⟩
 have hkeep:∀(t:SV) (v:Value),t.holds β w (bY cx st.heap β w) v→t.holds β w (bY cx ((nb,HB.mk r2 ys)::st.heap) β w) v:=fun t v hv=>
  SV.keep hok (fun k _=>⟨rfl,fun b o _ cur e fr hc=>⟨cur,e,fr,hc,rfl⟩⟩) hv
 refine⟨hi.below,hi.old,hi.defers,hi.size,fun k h hh x hx=>?_,fun k k' h h' hh hh' x y hx hy he=>?_,fun k h hh=>?_,fun q t hq=>?_⟩;obtain⟨h',hh'⟩:=hk' k h hh;exact hi.own k h' hh' x hx;obtain⟨g,hg⟩:=hk' k h hh;obtain⟨g',hg'⟩:=hk' k' h' hh';exact hi.sep k k' g g' hg hg' x y hx hy he;rcases hk k h hh with⟨rfl,rfl⟩|⟨hne,hh⟩;have hr:=hi.rows k _ hn;cases hβ:β k with
 | none=>rw[hβ]at hr;have hr:xs=[]:=hr;show ys=[];exact jC.1 (by rw[hl,hr];rfl)
 | some bo=>obtain⟨b,o⟩:=bo;rw[hβ]at hr;refine⟨fun _=>?_,fun hm=>aaj⟩;obtain⟨cur,e,g1,g2,g3⟩:=hr.1 NM.no;refine⟨cur,e,g1,by rw[hl,←hnn];exact g2,fun i y hy=>?_⟩;obtain⟨x,hx,hxy⟩:=hc i y hy;obtain⟨cs,g4,g5⟩:=g3 i x hx;exact⟨cs,r2.keep hok (hxy cs g4),by rw[←hnn];exact g5⟩
 exact HB.keep hok (fun x hx=>rfl) (hi.rows k h hh);obtain⟨v,g1,g2⟩:=hi.slots q t hq;exact⟨v,g1,hkeep _ _ g2⟩
def EM(nb:Nat)[NM r1]{xs:List γ}(r2:RT δ)[NM r2](ys:List δ)(hnn:r1.n=r2.n)(hl:ys.length=xs.length)(hn:aG st.heap nb=some ⟨r1,xs⟩)
 (hc:∀w ok (i:Nat) (y:δ),ys[i]?=some y→∃x,xs[i]?=some x∧∀cs,r1.rep w ok cs x→r2.rep w ok cs y) (h:J P cx ⟨st.slots,(nb,⟨r2,ys⟩)::st.heap⟩ c k):J P cx st c k:=fun a w ⟨β,hb⟩=>
 h a w ⟨β,za hnn hl hn hb (fun i y hy=>hc _ _ i y hy)⟩
def i5(c0 nb:Nat){zs:List α}[NM r1]{xs:List γ}(r2:RT δ)[NM r2](ys:List δ)(hs:bg st.slots c0=some (.lnk s u (.tv (ag rt) zs)))(hnn:r1.n=r2.n)(hl:ys.length=xs.length)(hn:aG st.heap nb=some ⟨r1,xs⟩)
 (hc:∀w ok,(ag rt).val w ok u zs→∀(i:Nat) (y:δ),ys[i]?=some y→∃x,xs[i]?=some x∧∀cs,r1.rep w ok cs x→r2.rep w ok cs y) (h:J P cx ⟨(c0,s)::st.slots,(nb,⟨r2,ys⟩)::st.heap⟩ c k):J P cx st c k:=fun a w ⟨β,hb⟩=>by obtain⟨v0,h0,h1,h2⟩:=hb.slots c0 _ hs;have hb2:=hb.turnS (s':=s) hs (fun v hv=>hv.1);exact h a w ⟨β,za (st:=⟨(c0,s)::st.slots,st.heap⟩) hnn hl hn hb2 (fun i y hy=>hc _ _ h2 i y hy)⟩
def EL(nm nm' c0:Nat){hb0:HB}(hsl:st.slots=(c0,.lnk s u (.own nm sz off n))::r)(hf:(s.free nm&&s.free nm'&&fb nm r&&fb nm' r)=true)(hne:Nat.beq nm nm'=false)(hn:aG st.heap nm=some hb0)(hno:aG st.heap nm'=none)
 (h:J P cx ⟨(c0,.lnk s u (.own nm' sz off n))::r,(nm',hb0)::bQ nm st.heap⟩ c k):J P cx st c k:=by
 rintro a w ⟨β,hi⟩;have hne:nm≠nm':=fun e=>abq;simp only[YC]at hf;obtain⟨⟨⟨f1,f2⟩,f3⟩,f4⟩:=hf;have hβ1:(fun q=>if q=nm' then β nm else if q=nm then none else β q:Loc) nm'=β nm:=Sp;have hβ2:∀q,q≠nm→q≠nm'→(fun q=>if q=nm' then β nm else if q=nm then none else β q:Loc) q=β q:=fun q h1 h2=>by simp[h1,h2]
 generalize hβ':(fun q=>if q=nm' then β nm else if q=nm then none else β q:Loc)=β' at *
 have hlk:∀q x,aG ((nm',hb0)::bQ nm st.heap) q=some x→(q=nm'∧x=hb0)∨(q≠nm∧q≠nm'∧aG st.heap q=some x):=fun q x hq=>by rw[bA]at hq;split at hq;rename_i e;injection hq with hq;exact .inl ⟨e.symm,hq.symm⟩;rename_i e;rw[lO]at hq;split at hq;cases hq;rename_i e2;exact .inr ⟨e2,fun e3=>e e3.symm,hq⟩
 have hok:∀b,bY cx st.heap β w b→bY cx ((nm',hb0)::bQ nm st.heap) β' w b∧w.heap[b]?=w.heap[b]?:=fun b ⟨g1,g2,g3⟩=>⟨⟨g1,g2,fun q x hq y hy=>by rcases hlk q x hq with⟨rfl,_⟩|⟨q1,q2,q3⟩;rw[hβ1]at hy;exact g3 nm _ hn y hy;rw[hβ2 q q1 q2]at hy;exact g3 q _ q3 y hy⟩,rfl⟩
 have hkeep:∀{t:SV} {v:Value},t.free nm=true→t.free nm'=true→t.holds β w (bY cx st.heap β w) v→t.holds β' w (bY cx ((nm',hb0)::bQ nm st.heap) β' w) v:=fun h1 h2 hv=>
  SV.keep hok (fun q hq=>⟨hβ2 q (fun e=>by subst e;rw[h1]at hq;cases hq) (fun e=>by subst e;rw[h2]at hq;cases hq),fun b o _ cur e fr hc=>⟨cur,e,fr,hc,rfl⟩⟩) hv
 refine h a w ⟨β',hi.below,hi.old,hi.defers,hi.size,fun q x hq y hy=>?_,fun q q' x x' hq hq' y y' hy hy' e=>?_,fun q x hq=>?_,fun i t ht=>?_⟩;rcases hlk q x hq with⟨rfl,_⟩|⟨q1,q2,q3⟩;rw[hβ1]at hy;exact hi.own nm _ hn y hy;rw[hβ2 q q1 q2]at hy;exact hi.own q _ q3 y hy;rcases hlk q x hq with⟨rfl,_⟩|⟨q1,q2,q3⟩<;>rcases hlk q' x' hq' with⟨rfl,_⟩|⟨p1,p2,p3⟩;rfl;rw[hβ1]at hy;rw[hβ2 q' p1 p2]at hy';exact absurd (hi.sep nm q' _ _ hn p3 y y' hy hy' e) (fun e=>p1 e.symm);rw[hβ2 q q1 q2]at hy;rw[hβ1]at hy';exact absurd (hi.sep q nm _ _ q3 hn y y' hy hy' e) q1;rw[hβ2 q q1 q2]at hy;rw[hβ2 q' p1 p2]at hy';exact hi.sep q q' _ _ q3 p3 y y' hy hy' e;rcases hlk q x hq with⟨rfl,rfl⟩|⟨q1,q2,q3⟩;rw[hβ1];exact HB.keep hok (fun _ _=>rfl) (hi.rows nm _ hn);rw[hβ2 q q1 q2];exact HB.keep hok (fun _ _=>rfl) (hi.rows q _ q3);rw[bC]at ht;split at ht;rename_i e;subst e;injection ht with ht;subst ht;obtain⟨v,h1,h2,h3⟩:=hi.slots c0 (.lnk s u (.own nm sz off n)) (by rw[hsl,bC,Cg rfl]);refine⟨v,h1,hkeep f1 f2 h2,?_⟩;simp only[SV.holds,Yq]at h3⊢;rw[hβ1];exact h3;rename_i e;obtain⟨v,h1,h2⟩:=hi.slots i t (by rw[hsl,bC,zE e];exact ht);exact⟨v,h1,hkeep (gQ f3 ht) (gQ f4 ht) h2⟩
def pm(i j:Nat){t:SV}(hi:bg st.slots i=some (.lnk s u t))(hj:bg st.slots j=some s2)(hne:Nat.beq i j=false)(h:JG P cx ops ⟨(j,.lnk s2 u t)::(i,s)::st.slots,st.heap⟩ l k):JG P cx ops st l k:=fun a w ⟨β,hb⟩=>by exact UM
def xd{rv:ResultVar}{s0 t:SV}(c0:Nat)(h:xA P cx st rv s)(hs:bg st.slots c0=some (.lnk s0 u t)):xA P cx st rv (.lnk s u t):=fun β a w hi=>by obtain⟨v,h1,h2⟩:=h β a w hi;obtain⟨_,_,_,h3⟩:=hi.slots c0 _ hs;exact⟨v,h1,h2,h3⟩
end
section
variable{rt1:RT α}[NM rt1]{rt2:RT γ}[NM rt2]
def AU{ok:Ok}{xs:List γ}{ys:List δ}(h:(ag r1).val w ok v xs)(hn:r1.n=r2.n)(hl:ys.length=xs.length)(hc:∀(i:Nat) (y:δ),ys[i]?=some y→∃x,xs[i]?=some x∧∀cs,r1.rep w ok cs x→r2.rep w ok cs y):(ag r2).val w ok v ys:=by obtain⟨cs,⟨A,cap,rfl,h1,h2,h3⟩,hv⟩:=h;refine⟨_,⟨A,cap,rfl,So,h2,fun hne=>?_⟩,by rw[hv,hl];rfl⟩;have hne':xs≠[]:=fun e=>hne (jC.1 (by rw[hl,e];rfl));obtain⟨b,o,hA,hb,hcs⟩:=h3 hne';refine⟨b,o,hA,hb,fun i y hy=>?_⟩;obtain⟨x,hx,hxy⟩:=hc i y hy;obtain⟨cs,g1,g2⟩:=hcs i x hx;exact⟨cs,hxy cs g1,by rw[←hn];exact g2⟩
inductive An(st:St){δ ε:Type}(r3:RT δ)(d3:δ)(r4:RT ε)(d4:ε)(u1 u2:Value)(t1 t2:SV):List Operand→List SV→Prop
 | nil:An st r3 d3 r4 d4 u1 u2 t1 t2 [] []
 | cons {x:Operand} {s:SV} {xs:List Operand} {ss:List SV} (h:Ev st x s) (hp:s.plain=true) (hr:An st r3 d3 r4 d4 u1 u2 t1 t2 xs ss):An st r3 d3 r4 d4 u1 u2 t1 t2 (x::xs) (s::ss)
 | cast {x:Operand} {xs:List Operand} {ss:List SV} (h:evS st x=some (.lnk (.lnk (.tv r3 d3) u1 t1) u2 t2)) (hr:An st r3 d3 r4 d4 u1 u2 t1 t2 xs ss):An st r3 d3 r4 d4 u1 u2 t1 t2 (x::xs) (.tv r4 d4::ss)
def adW(hi:InvB cx st β a w){nm1 nm2:Nat}(hn1:aG st.heap nm1=some ⟨rt1,ys1⟩)(hn2:aG st.heap nm2=some ⟨rt2,ys2⟩)(h1:Yq β w nm1 rt1.n 0 ys1.length u1)(h2:Yq β w nm2 rt2.n 0 ys2.length u2):
 (ag rt1).val w (bY cx (bQ nm1 (bQ nm2 st.heap)) β w) u1 ys1∧(ag rt2).val w (bY cx (bQ nm1 (bQ nm2 st.heap)) β w) u2 ys2∧∀b,bY cx st.heap β w b→bY cx (bQ nm1 (bQ nm2 st.heap)) β w b:=by
 have hsub:∀j s,aG (bQ nm1 (bQ nm2 st.heap)) j=some s→aG st.heap j=some s:=fun j s h=>a6 nm2 _ _ _ (a6 nm1 _ _ _ h);have hno1:aG (bQ nm1 (bQ nm2 st.heap)) nm1=none:=bm nm1 _;have hno2:aG (bQ nm1 (bQ nm2 st.heap)) nm2=none:=by
  cases h:aG (bQ nm1 (bQ nm2 st.heap)) nm2 with
  | none=>rfl
  | some s=>have:=a6 nm1 _ _ _ h;rw[bm]at this;cases this
 have hok:∀b,bY cx st.heap β w b→bY cx (bQ nm1 (bQ nm2 st.heap)) β w b:=fun b ⟨g1,g2,g3⟩=>⟨g1,g2,fun k h hk=>g3 k h (hsub _ _ hk)⟩;have hbl:∀nm hb,aG st.heap nm=some hb→aG (bQ nm1 (bQ nm2 st.heap)) nm=none→∀b o,β nm=some (b,o)→bY cx (bQ nm1 (bQ nm2 st.heap)) β w b:=fun nm hb hn hno b o hbo=>by have:=hi.own nm _ hn _ hbo;exact⟨.inr this.1,this.2,fun k h hk x hx e1=>by have:k=nm:=hi.sep k nm _ _ (hsub _ _ hk) hn x (b,o) hx hbo e1;subst this;rw[hno]at hk;cases hk⟩
 refine⟨?_,?_,hok⟩;have:=fK hi hn1 h1 So hok (hbl nm1 _ hn1 hno1);simpa using this;have:=fK hi hn2 h2 So hok (hbl nm2 _ hn2 hno2);simpa using this
def rY{r:SV}{aS:List SV}{xs:List Operand}{nm1 nm2 n1 n2:Nat}{xl:Operand}{ε:Type}{r3:RT δ}{d3:δ}{r4:RT ε}{d4:ε}(h:Ct P kf aS r)(hfl:r.Flat)
 (hxl:evS st xl=some (.lnk (.lnk (.tv r3 d3) u1 (.own nm1 rt1.n 0 n1)) u2 (.own nm2 rt2.n 0 n2))) (hmem:xl∈xs) (hn1:aG st.heap nm1=some ⟨rt1,ys1⟩) (hn2:aG st.heap nm2=some ⟨rt2,ys2⟩) (hl1:n1=ys1.length) (hl2:n2=ys2.length) (hag:r3.agg=r4.agg)
 (hc:∀w ok,(ag rt1).val w ok u1 ys1→(ag rt2).val w ok u2 ys2→∀cs,r3.rep w ok cs d3→r4.rep w ok cs d4) (ha:An st r3 d3 r4 d4 u1 u2 (.own nm1 rt1.n 0 n1) (.own nm2 rt2.n 0 n2) xs aS):
 aH P cx st ⟨dst,.call {callee:=.value (.func kf),args:=xs.toArray,argTypes:=ts},ty,pos,aft,gd⟩ r:=by
 intro st' hagr d hd hdn a w ⟨β,hi⟩ Q;subst hl1 hl2;have hop:∀x∈xs,x∈(Oper.op ⟨dst,.call {callee:=.value (.func kf),args:=xs.toArray,argTypes:=ts},ty,pos,aft,gd⟩).operands:=fun x hx=>Fw;have hn1':aG st'.heap nm1=some ⟨rt1,ys1⟩:=by rw[hagr.heap xl (hop xl hmem) _ nm1 hxl Pa];exact hn1
 have hn2':aG st'.heap nm2=some ⟨rt2,ys2⟩:=by rw[hagr.heap xl (hop xl hmem) _ nm2 hxl Pa];exact hn2
 obtain⟨⟨_,e1⟩,e2⟩:=hi.ev (hagr.ev (hop xl hmem) (.base hxl));obtain⟨v1,v2,hok⟩:=adW hi hn1' hn2' e1 e2;have hsub:∀j s,aG (bQ nm1 (bQ nm2 st'.heap)) j=some s→aG st'.heap j=some s:=fun j s h=>a6 nm2 _ _ _ (a6 nm1 _ _ _ h);have hkk:∀b,bY cx st'.heap β w b→bY cx (bQ nm1 (bQ nm2 st'.heap)) β w b∧w.heap[b]?=w.heap[b]?:=fun b hb=>⟨hok b hb,rfl⟩;have hall:∀(xs:List Operand) (aS:List SV),An st r3 d3 r4 d4 u1 u2 (.own nm1 rt1.n 0 ys1.length) (.own nm2 rt2.n 0 ys2.length) xs aS→(∀x∈xs,∀s,Ev st x s→Ev st' x s)→gh w (bY cx (bQ nm1 (bQ nm2 st'.heap)) β w) aS (xs.map a.eval):=fun xs aS hA hev=>by
  induction hA with
  | nil=>rfl
  | cons h hp _ ih=>exact⟨_,_,rfl,SV.plain_keep hp hkk (hi.ev (hev _ Sp _ h)),ih (fun x hx=>hev x K8)⟩
  | cast h _ ih=>obtain⟨⟨⟨cs,g1,g2⟩,_⟩,_⟩:=hi.ev (hev _ Sp _ (.base h));exact⟨_,_,rfl,⟨cs,hc _ _ v1 v2 cs (r3.keep hkk g1),by rw[g2,hag]⟩,ih (fun x hx=>hev x K8)⟩
 have hargs:=hall xs aS ha (fun x hx s he=>hagr.ev (hop x hx) he);have hrun:(execOp a.eval ⟨dst,.call {callee:=.value (.func kf),args:=xs.toArray,argTypes:=ts},ty,pos,aft,gd⟩).run P w=.ok (.enter kf (xs.map a.eval).toArray) w:=by exact Xb
 unfold Oper.wp;rw[hrun,Oper.upon_enter];refine(h.calls w (bY cx (bQ nm1 (bQ nm2 st'.heap)) β w) _ (hi.okPd hsub) hargs).mono ?_;rintro e w' ⟨v',rfl,hb,hv⟩;have hb:=hb.plain (fun _ h=>h);subst hd;exact⟨β,(hi.later hb).put hdn (hfl hv)⟩
def j6{t1:SV}(hx:evS st x=some (.lnk (.lnk (.both (.optr nm sz i f) v) u1 t1) u2 t2)):aH P cx st ⟨dst,.nilCheck x,ty,pos,aft,gd⟩ (.lnk (.lnk (.both (.optr nm sz i f) v) u1 t1) u2 t2):=
 bz fun st' hag β a w hi=>by have h0:=hi.ev (hag.ev aT (.base hx));obtain⟨⟨⟨⟨b,o,h1,h2⟩,_⟩,_⟩,_⟩:=id h0;exact⟨a.eval x,by simp[execOp,h2],h0⟩
def rW{rt:RT δ}[NM rt]{t1:SV}{d:δ}(ht:Ty P t rt)(hx:evS st x=some (.lnk (.lnk (.both (.optr nm rt.n 0 0) v) u1 t1) u2 t2))(hn:aG st.heap nm=some ⟨rt,[d]⟩):aH P cx st ⟨dst,.load t x,ty,pos,aft,gd⟩ (.lnk (.lnk (.tv rt d) u1 t1) u2 t2):=
 bz fun st' hag β a w hi=>by obtain⟨⟨⟨⟨b,o,h1,h2⟩,_⟩,h3⟩,h4⟩:=hi.ev (hag.ev aT (.base hx));have hn':aG st'.heap nm=some ⟨rt,[d]⟩:=Za;obtain⟨cs,h5,h6⟩:=nE (jS hi hn' h1) (i:=0) (x:=d) rfl (Lens.id rt);obtain⟨u,h7,h8⟩:=gA (P:=P) ht h5 h6;simp only[Jc,M6]at h7;exact⟨u,aah,⟨h8,h3⟩,h4⟩
end
section
variable[NM rt]
def pZ{z:α}{y:Operand}{by_:Nat}(ht:P.underlying t=some (.slice e))(he:Ty P e rt)(hz:TyZero P e rt z)(hn1:Nat.ble 1 rt.n=true)(hby:(P.info? e).map (·.bytes)=some by_)(hy:Rd st y (ag rt) ys)(hb:ys.length*by_≤140737488355328):
 aH P cx st ⟨dst,.call {callee:=.builtin .append,args:=#[.const (.slice none 0 0),y],argTypes:=#[t,t]},ty,pos,aft,gd⟩ (.tv (ag rt) ys):=
 wk fun st' hag β a w hi=>by
 have hn1':1≤rt.n:=by simpa using hn1
 obtain⟨ycs,⟨A',cap',rfl,hy1,hy2,hy3⟩,hyv0⟩:=(hy.tr (hag.ops y ug)).val hi;have hyv:a.eval y=.slice A' ys.length cap':=by rw[hyv0];simp[ag]
 obtain⟨_,i0,hi0,hs⟩:=he;obtain⟨i1,zv,hi1,hzv,hzval⟩:=hz;have e0:i1=i0:=aac;subst e0;have hby':i1.bytes=by_:=by simpa[hi0]using hby
 have hnb:ys.length*i1.bytes≤140737488355328:=by rw[hby'];exact hb
 have hzs:zv.cells.size=rt.n:=Ze;have h63:ys.length≤maxLen:=So;have oO:∀v w',(Builtin.append_ #[t,t] ty #[.slice none 0 0,a.eval y]).run P w=.ok v w'→(execOp a.eval ⟨dst,.call {callee:=.builtin .append,args:=#[.const (.slice none 0 0),y],argTypes:=#[t,t]},ty,pos,aft,gd⟩).run P w=.ok (.value v) w':=fun v w' h=>by simp[execOp,resolve,invoke,builtin,Act.eval]at h⊢;simp[h]
 by_cases hY:ys=[];subst hY;refine⟨.slice none 0 0,w,oO _ _ ?_,Below.refl _ _,[.slice none 0 0],⟨none,0,rfl,Sp,by simp[maxLen],fun h=>absurd rfl h⟩,rfl⟩;rw[hyv];cases A' with
 | none=>simp[Builtin.append_,run_underlying ht,sizeOf,typeInfo,hi0,Builtin.lenOf,Builtin.firstCells,storeCells]
 | some q=>simp[Builtin.append_,run_underlying ht,sizeOf,typeInfo,hi0,Builtin.lenOf,Builtin.firstCells,loadCells,loadCellsFrom,storeCells]
 obtain⟨b',o',rfl,_,h3⟩:=hy3 hY;obtain⟨news,hn2,hn3,hn4,hn5⟩:=Ah hn1' h3;have hpos:0<ys.length:=N9.2 hY;have hn3':∀j v,news[j]?=some v→w.cell? ((⟨b',o',none⟩:Addr).add j)=some v:=fun j v hj=>by rw[Addr.add_lit];exact hn3 j v hj
 have hml:ys.length≤9223372036854775807:=by simp only[maxLen]at h63;omega
 have hrun:=run_append_nil (P:=P) w t ty e i1 zv ht hi0 hzv ⟨b',o',none⟩ ys.length cap' news (by rw[hn2,hs]) hn3' hpos So So;have hge:=grownCap_ge w ys.length 0 e;have hle:=grownCap_le_maxLen w ys.length 0 e So;refine⟨_,_,oO _ _ (by rw[hyv];exact hrun),(Below.drew' w).alloc (Kl _) _,[_],⟨some ⟨w.heap.size,0,none⟩,grownCap w ys.length 0 e,rfl,hge,hle,fun _=>⟨w.heap.size,0,rfl,?_,fun i x hx=>?_⟩⟩,rfl⟩;exact Wy;obtain⟨cs,g1,g2⟩:=hn5 i x hx;have hbel:∀o:Obj,Below w.heap.size w (w.drew.alloc o):=fun o=>(Below.drew' w).alloc (Kl _) _;refine⟨cs,rt.keep (fun b hb=>⟨⟨hb.1,F2 hb.2.1 (hbel _).size,hb.2.2⟩,(hbel _).block b hb.2.1⟩) g1,fun j u hj=>?_⟩;have h8:=g2 j u hj;have h9:=(Y0.1 h8).1;have:=World.cell?_alloc_new w.drew (news.toArray++Builtin.zeroCells zv.cells (grownCap w ys.length 0 e-ys.length)) e (0+i*rt.n+j);refine this.trans ?_;rw[N1,Gn Qz];simpa using h8
def oQ(hx:evS st x=some (.lnk (.optr nm sz i f) u s)):aH P cx st ⟨dst,.nilCheck x,ty,pos,aft,gd⟩ (.lnk (.optr nm sz i f) u s):=
 bz fun st' hag β a w hi=>by have h0:=hi.ev (hag.ev aT (.base hx));obtain⟨⟨b,o,h1,h2⟩,_⟩:=id h0;exact⟨a.eval x,by simp[execOp,h2],h0⟩
def lG{q:Nat}(hf:aB P t q=some off)(hx:evS st x=some (.lnk (.optr nm sz i f) u s)):aH P cx st ⟨dst,.fieldAddr t x q,ty,pos,aft,gd⟩ (.lnk (.optr nm sz i (f+off)) u s):=
 bz fun st' hag β a w hi=>by obtain⟨⟨b,o,h1,h2⟩,h3⟩:=hi.ev (hag.ev aT (.base hx));exact⟨.pointer (some ⟨b,o+i*sz+f+off,none⟩),abe,⟨b,o,h1,by simp[qx]⟩,h3⟩
def nk[NM rt'](ht:Ty P t rt')(hx:evS st x=some (.lnk (.optr nm rt.n i f) (.slice A m cap) s))(hn:aG st.heap nm=some ⟨rt,xs⟩)(hy:xs[i]?=some y)(hl:Lens rt f rt' get set)
 (hr:∀w ok cs,rt'.rep w ok cs (get y)→cs=[.slice A m cap]) (hag':rt'.agg=false):aH P cx st ⟨dst,.load t x,ty,pos,aft,gd⟩ s:=
 bz fun st' hag β a w hi=>by obtain⟨⟨b,o,h1,h2⟩,h3⟩:=hi.ev (hag.ev aT (.base hx));have hn':aG st'.heap nm=some ⟨rt,xs⟩:=Za;obtain⟨cs,h5,h6⟩:=nE (jS hi hn' h1) hy hl;obtain⟨v,h7,cs2,h8,h9⟩:=gA (P:=P) ht h5 h6;have h10:=hr _ _ _ h8;subst h10;rw[hag']at h9;have h9:v=.slice A m cap:=h9;subst h9;exact⟨_,aah,h3⟩
def vM{t:SV}(hx:evS st x=some (.lnk s u t)):aH P cx st ⟨dst,.move x,ty,pos,aft,gd⟩ s:=
 bz fun st' hag β a w hi=>by obtain⟨h1,_⟩:=hi.ev (hag.ev aT (.base hx));exact⟨a.eval x,acN,h1⟩
def adX(i j:Nat){t:SV}(hi:bg st.slots i=some (.lnk (.lnk s u t) u2 t2))(hj:bg st.slots j=some s2)(h:JG P cx ops ⟨(j,.lnk s2 u t)::st.slots,st.heap⟩ l k):JG P cx ops st l k:=fun a w ⟨β,hb⟩=>by obtain⟨_,_,⟨_,h2⟩,_⟩:=hb.slots i _ hi;exact h a w ⟨β,hb.turnS (s':=.lnk s2 u t) hj (fun v hv=>⟨hv,h2⟩)⟩
end
section
variable{x:Array Bool}
def JA(P:Program)(cx:Cx)(l:List Oper)(f:Nat)(x:Array Bool)(st:St)(k:Kn):Prop:=∀a w,Inv cx st a w→wpAny P .any l.toArray (k.post P) f x a w
def JS(P:Program)(cx:Cx)(l:List Oper)(f:Nat)(x:Array Bool)(st:St)(k:Kn)(i:Nat):Prop:=∀a w,Inv cx st a w→wpOp P l.toArray (k.post P) i (wpAny P .any l.toArray (k.post P) f (x.setIfInBounds i true)) a w
def j_ja{id:Nat}(hm:P.follows .mixedOrders=true)(n:Nat)(hn:l.length=n)(h:JA P cx l n (Array.replicate n false) st k):J P cx st (.region id l.toArray true) k:=by rintro a w ⟨β,hb⟩;refine wp_region_any hm ?_;have:=h a w.drew ⟨β,hb.later (Below.drew' w)⟩;subst hn;simpa using this
def ja_cut(f':Nat)(x':Array Bool)(st':ι→St)(h:(∀i,JA P cx l f' x' (st' i) k)→JA P cx l f x st k)(h':∀i,JA P cx l f' x' (st' i) k):JA P cx l f x st k:=h h'
def eD(f':Nat)(x':Array Bool)(st':ι→St)(h':∀i,JA P cx l f' x' (st' i) k)(h:(∀i,JA P cx l f' x' (st' i) k)→JA P cx l f x st k):JA P cx l f x st k:=h h'
def ja_sub(hs:Sub st st')(h:JA P cx l f x st' k):JA P cx l f x st k:=fun a w hi=>h a w (hs.inv hi)
def fN{x':Array Bool}(e:x=x')(hs:Sub st st')(h:JA P cx l f x' st' k):JA P cx l f x st k:=by subst e;exact ja_sub hs h
def ja_end(hr:Region.ready .any l.toArray x=[])(h:JN P cx st k):JA P cx l 0 x st k:=fun a w hi=>⟨hr,h a w hi⟩
def qq(i:Nat)(hr:Region.ready .any l.toArray x=[i])(h:JS P cx l f x st k i):JA P cx l (f+1) x st k:=fun a w hi=>⟨fun e=>abw,fun j hj=>by rw[hr]at hj;obtain rfl:=J0.1 hj;exact h a w hi⟩
def lK(i j:Nat)(hr:Region.ready .any l.toArray x=[i,j])(h:JS P cx l f x st k i)(h2:JS P cx l f x st k j):JA P cx l (f+1) x st k:=fun a w hi=>⟨fun e=>abw,fun q hq=>by rw[hr]at hq;rcases L5.1 hq with rfl|hq;exact h a w hi;obtain rfl:=J0.1 hq;exact h2 a w hi⟩
def pq(i j m:Nat)(hr:Region.ready .any l.toArray x=[i,j,m])(h:JS P cx l f x st k i)(h2:JS P cx l f x st k j)(h3:JS P cx l f x st k m):JA P cx l (f+1) x st k:=fun a w hi=>⟨fun e=>abw,fun q hq=>by rw[hr]at hq;rcases L5.1 hq with rfl|hq;exact h a w hi;rcases L5.1 hq with rfl|hq;exact h2 a w hi;obtain rfl:=J0.1 hq;exact h3 a w hi⟩
def MP(ho:l[i]?=some o)(hg:o.guard=none)(h:∀a w,Inv cx st a w→o.wp P a w (wpAny P .any l.toArray (k.post P) f (x.setIfInBounds i true)) (k.post P)):JS P cx l f x st k i:=fun a w hi=>by unfold wpOp;simp only[show l.toArray[i]?=some o by simpa using ho];rw[Cg aa8];exact .inl (h a w hi)
def nY(st1:St)(ho:l[i]?=some o)(hg:o.guard=none)(h:OS P cx o st st1)(hn:JA P cx l f (x.setIfInBounds i true) st1 k):JS P cx l f x st k i:=
 MP ho hg fun a w hi=>Oper.wp_mono (fun a' w' hi'=>hn a' w' hi') (h a w hi _)
def Bq{aS:List SV}{I:ι→Prop}{H1:ι→List (Nat×HB)}{r:ι→SV}{xs:List Operand}(R N ks:List Nat){r0:List (Nat×SV)}(h:CtG P kf [] aS I H1 r (fun _=>[]))
 (ho:l[i]?=some ⟨some d,.call {callee:=.value (.func kf),args:=xs.toArray,argTypes:=ts},ty,pos,aft,none⟩) (ha:Args st xs aS) (hp:(aS.all SV.plain)=true) (hd:Nat.blt d cx.n=true)
 (hn:∀i,yD [] (H1 i) st.heap R N=true) (hr:∀i,(r i).within N=true) (hk:KeepP R st.slots ks r0) (hnext:∀j,I j→JA P cx l f (x.setIfInBounds i true) ⟨(d,r j)::r0,H1 j++st.heap⟩ k):JS P cx l f x st k i:=by
 refine MP ho rfl ?_;rintro a w ⟨β,hi⟩;have hargs:=ha.holds (cx:=cx) (β:=β) (a:=a) (w:=w) (st':=st) (fun x hx=>rfl) hi hp;have hrun:(execOp a.eval ⟨some d,.call {callee:=.value (.func kf),args:=xs.toArray,argTypes:=ts},ty,pos,aft,none⟩).run P w=.ok (.enter kf (xs.map a.eval).toArray) w:=by exact Xb
 unfold Oper.wp;rw[hrun,Oper.upon_enter];have hB:Dl β w (bY cx st.heap β w) aS (xs.map a.eval):=⟨fO hargs,fun j s hj=>by obtain⟨v,q1,q2⟩:=fU hargs hj;exact⟨v,q1,SV.plain_keep (Qe.1 hp s (nL hj)) (fun b hb=>⟨hb,rfl⟩) q2⟩⟩
 refine(h.calls w (bY cx st.heap β w) β _ hi.okP ⟨fun nm hb q=>P5,fun nm nm' hb hb' q=>P5,fun nm hb q=>P5⟩ hB).mono ?_;rintro e w' ⟨v,β',j,rfl,hI,hg,own',sep',rows',hv,_⟩;obtain⟨n1,n2,n3,n4⟩:=vO (hn j);obtain⟨β2,hi',hok2,hb1⟩:=hi.turnG (H0:=[]) dZ n1 n2 n3 hk hg own' sep' rows';refine hnext j hI _ _ ⟨β2,hi'.put PX (SV.keep (fun q hq=>⟨hok2 q hq,rfl⟩) (fun nm hnf=>?_) hv)⟩;have hs:=n4 nm (SV.within_mem (hr j) hnf);cases hl:aG (H1 j) nm with
 | none=>rw[hl]at hs;cases hs
 | some hb=>exact⟨hb1 nm hb hl,fun b o hbo cur e fr hc=>⟨cur,e,fr,hc,rfl⟩⟩
def EH(c0 j:Nat)(hc:bg st.slots c0=some s)(hj:bg st.slots j=some (.own nm sz off n))(h:∀A cap,JA P cx l f x ⟨(c0,.lnk s (.slice A n cap) (.own nm sz off n))::(j,.raw (.slice A n cap))::st.slots,st.heap⟩ k):JA P cx l f x st k:=fun a w hi=>by obtain⟨A,cap,h1⟩:=vZ hc hj hi;exact h A cap a w h1
def EF(i j:Nat){t:SV}(hi:bg st.slots i=some (.lnk s u t))(hj:bg st.slots j=some s2)(hne:Nat.beq i j=false)(h:JA P cx l f x ⟨(j,.lnk s2 u t)::(i,s)::st.slots,st.heap⟩ k):JA P cx l f x st k:=fun a w ⟨β,hb⟩=>by exact UM
def ez(s:SV)(d:Nat)(ho:l[i]?=some o)(hg:o.guard=none)(hd:o.dst=some d)(hdn:Nat.blt d cx.n=true)(h:aH P cx st o s)(hn:JA P cx l f (x.setIfInBounds i true) (st.put d s) k):JS P cx l f x st k i:=
 MP ho hg fun a w hi=>Oper.wp_mono (fun a' w' hi'=>hn a' w' hi') (h st (.refl o st) d hd QQ a w hi _)
def adY{ls:List Oper}(nb:Nat)[NM r1]{d1:γ}(r2:RT δ)[NM r2]{f:Option Addr×Nat×Nat→δ}(hc:vx r1 d1 r2 f)(hnn:r1.n=r2.n)(hn:aG st.heap nb=some ⟨r1,[d1]⟩)
 (h:∀y,JG P cx ops ⟨st.slots,(nb,⟨r2,[f y]⟩)::st.heap⟩ ls k):JG P cx ops st ls k:=fun a w hi=>by obtain⟨y,h1⟩:=Bu hc hnn hn hi;exact h y a w h1
end
section
variable[NM rt]{d1:Option Addr×Nat×Nat→γ}
def adZ{c0 j:Nat}{t:SV}(hc:bg st.slots c0=some (.lnk s u t))(hj:bg st.slots j=some (.raw u))(hi:Inv cx st a w):Inv cx ⟨(j,t)::st.slots,st.heap⟩ a w:=by obtain⟨β,hb⟩:=hi;obtain⟨_,_,_,ht⟩:=hb.slots c0 _ hc;exact⟨β,hb.turnS (s':=t) hj fun v hv=>aaN⟩
def pn(c0 j:Nat){t:SV}(hc:bg st.slots c0=some (.lnk s u t))(hj:bg st.slots j=some (.raw u))(h:JG P cx ops ⟨(j,t)::st.slots,st.heap⟩ l k):JG P cx ops st l k:=fun a w hi=>h a w (adZ hc hj hi)
end
section
variable[NM rt]
def jdg{t:SV}(hx:evS st x=some (.lnk (.lnk s u t) u2 t2)):aH P cx st ⟨dst,.move x,ty,pos,aft,gd⟩ (.lnk s u2 t2):=
 bz fun st' hag β a w hi=>by obtain⟨⟨h1,_⟩,h2⟩:=hi.ev (hag.ev aT (.base hx));exact⟨a.eval x,acN,h1,h2⟩
def tl{u0:Value}(hx:evS st x=some (.lnk (.both (.optr nm sz i f) u0) u s)):aH P cx st ⟨dst,.nilCheck x,ty,pos,aft,gd⟩ (.lnk (.optr nm sz i f) u s):=
 bz fun st' hag β a w hi=>by obtain⟨⟨h0,_⟩,h3⟩:=hi.ev (hag.ev aT (.base hx));obtain⟨b,o,h1,h2⟩:=id h0;exact⟨a.eval x,by simp[execOp,h2],h0,h3⟩
def tbO{q:Nat}{u0:Value}(hf:aB P t q=some off)(hx:evS st x=some (.lnk (.lnk (.both (.optr nm sz i f) u0) u s) u2 s2)):aH P cx st ⟨dst,.fieldAddr t x q,ty,pos,aft,gd⟩ (.lnk (.lnk (.optr nm sz i (f+off)) u s) u2 s2):=
 bz fun st' hag β a w hi=>by obtain⟨⟨⟨⟨b,o,h1,h2⟩,_⟩,h3⟩,h4⟩:=hi.ev (hag.ev aT (.base hx));exact⟨.pointer (some ⟨b,o+i*sz+f+off,none⟩),abe,⟨⟨b,o,h1,by simp[qx]⟩,h3⟩,h4⟩
def ad0[NM rt']{s1:SV}(ht:Ty P t rt')(hx:evS st x=some (.lnk (.lnk (.optr nm rt.n i f) u1 s1) (.slice A m cap) s))(hn:aG st.heap nm=some ⟨rt,xs⟩)(hy:xs[i]?=some y)(hl:Lens rt f rt' get set)
 (hr:∀w ok cs,rt'.rep w ok cs (get y)→cs=[.slice A m cap]) (hag':rt'.agg=false):aH P cx st ⟨dst,.load t x,ty,pos,aft,gd⟩ (.lnk s u1 s1):=
 bz fun st' hag β a w hi=>by obtain⟨⟨⟨b,o,h1,h2⟩,h4⟩,h3⟩:=hi.ev (hag.ev aT (.base hx));have hn':aG st'.heap nm=some ⟨rt,xs⟩:=Za;obtain⟨cs,h5,h6⟩:=nE (jS hi hn' h1) hy hl;obtain⟨v,h7,cs2,h8,h9⟩:=gA (P:=P) ht h5 h6;have h10:=hr _ _ _ h8;subst h10;rw[hag']at h9;have h9:v=.slice A m cap:=h9;subst h9;exact⟨_,aah,h3,h4⟩
omit [NM rt] in
def ad1{ix:Operand}{k:IntKind}{i:Int}{j:Nat}(ht:P.underlying t=some (.slice e))(he:Ty P e rt)
 (hx:evS st x=some (.lnk (.own nm rt.n off n) u s)) (hi':Ev st ix (.raw (.int k i))) (hij:i=(j:Int)) (hj:j<n):aH P cx st ⟨dst,.indexAddr t x ix,ty,pos,aft,gd⟩ (.lnk (.optr nm rt.n (off+j) 0) u s):=
 bz fun st' hag β a w hi=>by
 obtain⟨h1,h9⟩:=hi.ev (hag.ev aT (.base hx));have h5:=hi.raw (hag.ev aT hi');obtain⟨_,i0,hi0,hs⟩:=he;simp only[SV.holds,Yq]at h1;cases hb:β nm with
 | none=>rw[hb]at h1;simp only at h1;omega
 | some y=>obtain⟨b,o⟩:=y;rw[hb]at h1;obtain⟨A,cap,h2,h3,h4,h6⟩:=h1;rcases h6 with h6|⟨h6,_⟩;omega;subst h6;have hb2:(0:Int)≤i∧i<(n:Int):=So;have hj:i.toNat=j:=So;refine⟨.pointer (some ⟨b,o+off*rt.n+j*rt.n,none⟩),Yu,⟨b,o,hb,?_⟩,h9⟩;simp[Qd,qx]
end
section
def y8(c0 j:Nat){t:SV}(hc:bg st.slots c0=some (.lnk s u t))(hj:bg st.slots j=some (.raw u))(h:JG P cx ops ⟨(j,t)::st.slots,st.heap⟩ l k):JG P cx ops st l k:=fun a w ⟨β,hb⟩=>
 h a w ⟨β,hb.turnS hj fun v hv=>by obtain⟨_,_,_,h2⟩:=hb.slots c0 _ hc;have hv:v=u:=hv;rw[hv];exact h2⟩
def uT3(c0 j:Nat){t:SV}{q:Bool}(hc:bg st.slots c0=some (.lnk s u t))(hj:bg st.slots j=some (.gd q (.raw u)))(h:JG P cx ops ⟨(j,.gd q t)::st.slots,st.heap⟩ l k):JG P cx ops st l k:=fun a w ⟨β,hb⟩=>
 h a w ⟨β,hb.turnS hj fun v hv=>by obtain⟨_,_,_,h2⟩:=hb.slots c0 _ hc;exact⟨fun e=>by rw[show v=u from hv.1 e];exact h2,hv.2⟩⟩
def gdV(c0:Nat)(hc:bg st.slots c0=some (.both (.own nm sz 0 n) v)):∀β a w,InvB cx st β a w→Yq β w nm sz 0 n v:=fun β a w hi=>by obtain⟨u,_,h1,h2⟩:=hi.slots c0 _ hc;rw[←h2];exact h1
def jJ(c0:Nat)(hc:bg st.slots c0=some (.lnk s v (.own nm sz 0 n))):∀β a w,InvB cx st β a w→Yq β w nm sz 0 n v:=fun β a w hi=>by obtain⟨u,_,h1,h2⟩:=hi.slots c0 _ hc;exact h2
variable[NM rt]
structure CtQ(P:Program)(kf:FuncId)(rt:RT α)(xs:List α)(Q:List α→Prop)(s0:Option Addr×Nat×Nat→SV)(ss:List SV)(r:SV):Prop where
 ent:∀w args,(callFunc kf args).run P w=.ok (.enter kf args) w
 calls:∀(w:World) (ok0:Ok) (b o cap:Nat) (cur:Array Value) (e:TypeId) (vs:List Value),OkP w ok0→¬ok0 b→w.heap[b]?=some (.cells cur e (0,0))→xs.length≤cap→cap≤maxLen→o+cap*rt.n≤cur.size→
  gT rt w ok0 b o xs→gh w ok0 (s0 (some ⟨b,o,none⟩,xs.length,cap)::ss) vs→Calls P kf vs.toArray w (RetT ⟨w,ok0,0,fun q=>q=b⟩ b o cap rt Q r)
def BK{r:SV}(hf:P.funcs[kf]?=some fn)(hb:fn.body=some c)(hn:(fn.name == "runtime.NumGoroutine")=false)(hm:fn.ntmps=m)(hlen:Nat.ble (ss.length+1) m=true)
 (hp0:∀h,(s0 h).plain=true) (hp:(ss.all SV.plain)=true)
 (h:∀(w0:World) (ok0:Ok) (b o cap:Nat),xs.length≤maxLen→J P ⟨w0,ok0,m,fun q=>q=b⟩ ⟨(0,.lnk (s0 (some ⟨b,o,none⟩,xs.length,cap)) (.slice (some ⟨b,o,none⟩) xs.length cap) (.own 100 rt.n 0 xs.length))::nC 1 ss,[(100,⟨rt,xs⟩)]⟩ c (.fin fn (RetT ⟨w0,ok0,m,fun q=>q=b⟩ b o cap rt Q r))):CtQ P kf rt xs Q s0 ss r:=by
 refine⟨cJ hf hb hn,fun w ok0 b o cap cur e vs hok hnb hcur hcap hmax hfit hrow hh=>?_⟩;obtain⟨v0,vr,rfl,hv0,hh⟩:=hh;have hl:=fO hh;have hlen':ss.length+1≤m:=Nn;have hbs:b<w.heap.size:=InvB.cell_lt hcur;refine calls_of_wp hf hb ?_;have:=h w ok0 b o cap So {tmps:=(v0::vr).toArray++Array.replicate (fn.ntmps-(v0::vr).toArray.size) undef,defers:=[]} w ⟨fun q=>if q=100 then some (b,o)else none,?_⟩;exact Xl;have hlk:∀nm hb,aG [(100,HB.mk rt xs)] nm=some hb→nm=100∧hb=⟨rt,xs⟩:=fun nm hb hh=>by exact WJ
 have hkk:∀b',ok0 b'→bY ⟨w,ok0,m,fun q=>q=b⟩ [(100,HB.mk rt xs)] (fun q=>if q=100 then some (b,o)else none) w b'∧w.heap[b']?=w.heap[b']?:=fun b' hb'=>
  ⟨⟨.inl hb',hok b' hb',fun nm hb hh x hx=>by
   obtain⟨rfl,rfl⟩:=hlk nm hb hh
   simp at hx;subst hx;intro e
   have e:b=b':=e
   subst e;exact hnb hb'⟩,rfl⟩
 refine⟨(Below.refl _ _).toX,hok.x fun q e=>e▸hnb,rfl,abG,fun nm hb hh x hx=>?_,fun nm nm' hb hb' hh hh' x y hx hy _=>?_,fun nm hb hh=>?_,fun i s hs=>?_⟩;obtain⟨rfl,rfl⟩:=hlk nm hb hh;simp at hx;subst hx;exact⟨.inr rfl,hbs⟩;rw[(hlk nm hb hh).1,(hlk nm' hb' hh').1];obtain⟨rfl,rfl⟩:=hlk nm hb hh;simp only[Cg];exact HB.keep (hb:=⟨rt,xs⟩) (l:=some (b,o)) hkk (fun _ _=>rfl) ⟨fun _=>hrow,fun hm=>aak⟩;rw[bC]at hs;split at hs;rename_i e;subst e;injection hs with hs;subst hs;refine⟨v0,aao,SV.plain_keep (hp0 _) hkk hv0,?_⟩;simp only[SV.holds,Yq,Cg];exact⟨_,cap,rfl,hcap,hmax,.inr ⟨Sp,cur,e,(0,0),hcur,by rw[N1];exact hfit⟩⟩;obtain⟨j,rfl,hj⟩:=iH hs;obtain⟨v,h1,h2⟩:=fU hh hj;have hjl:j<vr.length:=(Y0.1 h1).1;have hps:s.plain=true:=Qe.1 hp s (nL hj);exact⟨v,Zb,SV.plain_keep hps hkk h2⟩
def ad2{b o s0:Nat}(hi:InvB cx st β a w)(hm:bg st.slots s0=some (.lnk s (.slice (some ⟨b,o,none⟩) n cap) (.own 100 rt.n 0 n)))(hn:aG st.heap 100=some ⟨rt,xs⟩)(hn0:0<n)(hQ:Q xs):
 (∃ys cur' e',Q ys∧w.heap[b]?=some (.cells cur' e' (0,0))∧o+cap*rt.n≤cur'.size∧gT rt w (fun q=>Nd cx w q∧q≠b) b o ys)∧∀q,bY cx st.heap β w q→Nd cx w q∧q≠b:=by
 obtain⟨v,_,_,e1⟩:=hi.slots s0 _ hm;simp only[SV.holds,Yq]at e1;cases hβ:β 100 with
 | none=>rw[hβ]at e1;obtain⟨_,e3⟩:=e1;omega
 | some bo=>
  obtain⟨b',o'⟩:=bo;rw[hβ]at e1;obtain⟨A,cap',h1,h2,h3,h4⟩:=e1;rcases h4 with⟨h4,_⟩|⟨h4,cur,e,fr,h5,h6⟩;omega;injection h1 with h1 _ h1';subst h1';rw[←h1]at h4;obtain⟨rfl,rfl⟩:b=b'∧o=o':=by injection h4 with h4;injection h4 with q1 q2;simp at q2;exact⟨q1,q2⟩
  have hr:=hi.rows 100 _ hn;rw[hβ]at hr;obtain⟨cur',e',g1,g2,g3⟩:=hr.1 NM.no;rw[g1]at h5;injection h5 with h5;injection h5 with h5 _ _;subst h5;have hk:∀q,bY cx st.heap β w q→Nd cx w q∧q≠b:=fun q hq=>⟨uy hq,fun e=>hq.2.2 100 _ hn _ hβ e.symm⟩;refine⟨⟨xs,cur',e',hQ,g1,by rw[N1]at h6;exact h6,cur',e',g1,g2,fun i x hx=>?_⟩,hk⟩;obtain⟨cs,g4,g5⟩:=g3 i x hx;exact⟨cs,rt.keep (fun q hq=>⟨hk q hq,rfl⟩) g4,g5⟩
def lg{r t:SV}{b o s0:Nat}(hr:fn.results = #[v0])(h0:xA P cx st v0 s)(hp:s.plain=true)(e:s=r)(hm:bg st.slots s0=some (.lnk t (.slice (some ⟨b,o,none⟩) n cap) (.own 100 rt.n 0 n)))(hn:aG st.heap 100=some ⟨rt,xs⟩)(hn0:0<n)(hQ:Q xs):
 JR P cx st (.fin fn (RetT cx b o cap rt Q r)):=by rintro a w ⟨β,hi⟩;subst e;obtain⟨v,h1,h2⟩:=h0 β a w hi;obtain⟨g1,g2⟩:=ad2 hi hm hn hn0 hQ;refine⟨hi.defers,v,?_,v,rfl,hi.below,g1,SV.plain_keep hp (fun q hq=>⟨g2 q hq,rfl⟩) h2⟩;simp[gJ,hr,h1]
def fB{rr:SV}{b o:Nat}(R ks:List Nat)(h:CtQ P kf rt xs Q s0 ss rr)
 (hm:∀β a w,InvB cx st β a w→Yq β w nm rt.n 0 n (.slice (some ⟨b,o,none⟩) n cap)) (hn:aG st.heap nm=some ⟨rt,xs⟩) (hfull:n=xs.length) (hn0:0<n) (ha:Args st xo (s0 (some ⟨b,o,none⟩,n,cap)::ss)) (hp:((s0 (some ⟨b,o,none⟩,n,cap)::ss).all SV.plain)=true) (hr:rr.plain=true) (hd:Nat.blt d cx.n=true)
 (hR:(R.all fun k=>!Nat.beq k nm&&(aG st.heap k).isSome)=true) (hk:KeepT R st.slots nm rt.n n (.slice (some ⟨b,o,none⟩) n cap) ks r)
 (hnext:∀ys,Q ys→JG P cx ops ⟨(d,rr)::r,(nm,⟨rt,ys⟩)::st.heap⟩ rest k):
 JG P cx ops st (⟨some d,.call {callee:=.value (.func kf),args:=xo.toArray,argTypes:=ts},ty,pos,aft,none⟩::rest) k:=by
 rintro a w ⟨β,hi⟩;refine wpList_plain rfl fun K hK=>?_;have hrun:(execOp a.eval ⟨some d,.call {callee:=.value (.func kf),args:=xo.toArray,argTypes:=ts},ty,pos,aft,none⟩).run P w=.ok (.enter kf (xo.map a.eval).toArray) w:=by exact Xb
 unfold Oper.wp;rw[hrun,Oper.upon_enter];have e1:=hm β a w hi;simp only[SV.holds,Yq]at e1;cases hβ:β nm with
 | none=>rw[hβ]at e1;obtain⟨_,e3⟩:=e1;omega
 | some bo=>
  obtain⟨b',o'⟩:=bo;rw[hβ]at e1;obtain⟨A,cap',h1,h2,h3,h4⟩:=e1;rcases h4 with⟨h4,_⟩|⟨h4,cur,e,fr,h5,h6⟩;omega;injection h1 with h1 _ h1';subst h1';rw[←h1]at h4;obtain⟨rfl,rfl⟩:b=b'∧o=o':=by injection h4 with h4;injection h4 with q1 q2;simp at q2;exact⟨q1,q2⟩
  have hrw:=hi.rows nm _ hn;rw[hβ]at hrw;have hrow:gT rt w (bY cx st.heap β w) b o xs:=hrw.1 NM.no;obtain⟨cur2,e',g1,g2,g3⟩:=id hrow;rw[g1]at h5;injection h5 with h5;injection h5 with h5 _ _;subst h5;have hargs:=ha.holds (fun _ _=>rfl) hi hp;have hnok:¬bY cx st.heap β w b:=fun q=>q.2.2 nm _ hn _ hβ rfl;subst hfull;refine(h.calls w (bY cx st.heap β w) b o cap cur2 e' _ hi.okP hnok g1 h2 h3 (by rw[N1]at h6;exact h6) hrow hargs).mono ?_;rintro e0 w' ⟨v,rfl,hb,⟨ys,cur3,e3,q0,q1,q2,q3⟩,hu⟩;have hb:BelowX (fun q=>q=b) w.heap.size w w':=hb;have hi':=hi.turnRow hR hn hβ ⟨h2,h3⟩ hk hb q1 q2 q3;refine hK _ _ (hnext ys q0 _ _ ⟨β,hi'.put PX (SV.plain_keep hr (fun q hq=>⟨⟨?_,hq.1.2,?_⟩,rfl⟩) hu)⟩);exact Wx;exact UQ
end
section
variable{ty1 ty2:TypeId}{pos1 pos2:String}{af1 af2:Array Edge}
end
section
variable[NM rt]
def H8(j:Nat)(hj:bg st.slots j=some (.own nm sz 0 n))
 (h:∀A cap,JG P cx ops ⟨(j,.both (.own nm sz 0 n) (.slice A n cap))::st.slots,st.heap⟩ l k):JG P cx ops st l k:=fun a w ⟨β,hb⟩=>by obtain⟨v,h1,h2⟩:=hb.slots j _ hj;obtain⟨A,cap,rfl⟩:=mC h2;refine h A cap a w ⟨β,hb.below,hb.old,hb.defers,hb.size,hb.own,hb.sep,hb.rows,fun q t hq=>?_⟩;rw[bC]at hq;split at hq;rename_i e;subst e;injection hq with hq;subst hq;exact⟨_,h1,h2,rfl⟩;exact hb.slots q t hq
end
section
variable[NM rt]
def Rr(rt:RT α)(w:World)(ok:Ok)(A:Option Addr)(n cap:Nat)(bo:Option (Nat×Nat))(xs:List α):Prop:=
 HB.holds w ok ⟨rt,xs⟩ bo∧Yq (fun _=>bo) w 101 rt.n 0 n (.slice A n cap)
def RetA(cx:Cx)(rt:RT α)(Q:List α→Prop):Ending→World→Prop:=fun e w'=>
 ∃A n cap ys bo,e=.returned (.slice A n cap)∧BelowX cx.ex cx.w0.heap.size cx.w0 w'∧Q ys∧n=ys.length∧(∀x,bo=some x→cx.new x.1∧x.1<w'.heap.size)∧Rr rt w' (fun q=>Nd cx w' q∧qH bo q) A n cap bo ys
structure CtA(P:Program)(kf:FuncId)(rt:RT α)(xs:List α)(Q:List α→Prop)(ss:List SV):Prop where
 ent:∀w args,(callFunc kf args).run P w=.ok (.enter kf args) w
 calls:∀(w:World) (ok0:Ok) (A:Option Addr) (cap:Nat) (bo:Option (Nat×Nat)) (vs:List Value),OkP w ok0→(∀x,bo=some x→¬ok0 x.1∧x.1<w.heap.size)→Rr rt w ok0 A xs.length cap bo xs→gh w ok0 ss vs→
  Calls P kf ((.slice A xs.length cap::vs).toArray) w (RetA ⟨w,ok0,0,fun q=>∃x,bo=some x∧x.1=q⟩ rt Q)
omit [NM rt] in
def abr(hf:P.funcs[kf]?=some fn)(hb:fn.body=some c)(hn:(fn.name == "runtime.NumGoroutine")=false)(hm:fn.ntmps=m)(hlen:Nat.ble (ss.length+1) m=true)
 (hp:(ss.all SV.plain)=true)
 (h:∀(w0:World) (ok0:Ok) (ex:Nat→Prop),J P ⟨w0,ok0,m,ex⟩ ⟨(0,.own 100 rt.n 0 xs.length)::nC 1 ss,[(100,⟨rt,xs⟩)]⟩ c (.fin fn (RetA ⟨w0,ok0,m,ex⟩ rt Q))):CtA P kf rt xs Q ss:=by
 refine⟨cJ hf hb hn,fun w ok0 A cap bo vs hok hbo hbx hh=>?_⟩;have hl:=fO hh;have hlen':ss.length+1≤m:=Nn;refine calls_of_wp hf hb ?_;have:=h w ok0 (fun q=>∃x,bo=some x∧x.1=q) {tmps:=(.slice A xs.length cap::vs).toArray++Array.replicate (fn.ntmps-(Value.slice A xs.length cap::vs).toArray.size) undef,defers:=[]} w ⟨fun q=>if q=100 then bo else none,?_⟩;exact Xl;have hlk:∀nm hb,aG [(100,HB.mk rt xs)] nm=some hb→nm=100∧hb=⟨rt,xs⟩:=fun nm hb hh=>by exact WJ
 have hkk:∀b',ok0 b'→bY ⟨w,ok0,m,fun q=>∃x,bo=some x∧x.1=q⟩ [(100,HB.mk rt xs)] (fun q=>if q=100 then bo else none) w b'∧w.heap[b']?=w.heap[b']?:=fun b' hb'=>
  ⟨⟨.inl hb',hok b' hb',fun nm hb hh x hx=>by
   obtain⟨rfl,rfl⟩:=hlk nm hb hh
   simp at hx;intro e;exact(hbo x hx).1 (by rw[e];exact hb')⟩,rfl⟩
 obtain⟨hb2,hb3⟩:=hbx;refine⟨(Below.refl _ _).toX,hok.x fun q e=>by obtain⟨x,hx,rfl⟩:=e;exact(hbo x hx).1,rfl,abG,fun nm hb hh x hx=>?_,fun nm nm' hb hb' hh hh' x y hx hy hxy=>?_,fun nm hb hh=>?_,fun i s hs=>?_⟩;obtain⟨rfl,rfl⟩:=hlk nm hb hh;simp at hx;exact⟨.inr ⟨x,hx,rfl⟩,(hbo x hx).2⟩;rw[(hlk nm hb hh).1,(hlk nm' hb' hh').1];obtain⟨rfl,rfl⟩:=hlk nm hb hh;simp only[Cg];exact HB.keep hkk (fun _ _=>rfl) hb2;rw[bC]at hs;split at hs;rename_i e;subst e;injection hs with hs;subst hs;refine⟨.slice A xs.length cap,aao,?_⟩;simp only[SV.holds];exact WV;exact Uz
def Gj{β':Loc}{nm':Nat}(e:β' nm'=β nm)(h:Yq β w nm sz 0 n v):Yq β' w nm' sz 0 n v:=by simp only[Yq]at h⊢;rw[e];exact h
omit [NM rt] in
def sd(hr:fn.results = #[v0])(h0:xA P cx st v0 (.own nm rt.n 0 n))(hn:aG st.heap nm=some ⟨rt,ys⟩)(hl:n=ys.length)(hQ:Q ys):
 JR P cx st (.fin fn (RetA cx rt Q)):=by rintro a w ⟨β,hi⟩;obtain⟨v,h1,h2⟩:=h0 β a w hi;have h2:Yq β w nm rt.n 0 n v:=h2;obtain⟨A,cap,rfl⟩:=mC h2;have hkk:∀q,bY cx st.heap β w q→(Nd cx w q∧qH (β nm) q)∧w.heap[q]?=w.heap[q]?:=fun q hq=>⟨⟨uy hq,fun x hx=>hq.2.2 nm _ hn x hx⟩,rfl⟩;refine⟨hi.defers,.slice A n cap,?_,A,n,cap,ys,β nm,rfl,hi.below,hQ,hl,fun x hx=>hi.own nm _ hn x hx,HB.keep hkk (fun _ _=>rfl) (hi.rows nm _ hn),Gj Sp h2⟩;simp[gJ,hr,h1]
omit [NM rt] in
def InvB.moveRow(hi:InvB cx st β a w){bo:Option (Nat×Nat)}{ks R:List Nat}
 (hR:(R.all fun k=>!Nat.beq k nm&&(aG st.heap k).isSome)=true) (hn:aG st.heap nm=some ⟨rt,xs⟩) (hk:KeepP R st.slots ks r)
 (hg:BelowX (fun q=>∃x,β nm=some x∧x.1=q) w.heap.size w w')
 (hbo:∀x,bo=some x→(w.heap.size≤x.1∨∃y,β nm=some y∧y.1=x.1)∧x.1<w'.heap.size)
 (hbx:HB.holds w' (fun q=>Nd (Cx.mk w (bY cx st.heap β w) 0 (fun q=>∃x,β nm=some x∧x.1=q)) w' q∧qH bo q) ⟨rt,ys⟩ bo):
 InvB cx ⟨r,(nm,⟨rt,ys⟩)::st.heap⟩ (fun q=>if q=nm then bo else β q) a w':=by
 have hothers:∀k hb',aG st.heap k=some hb'→k≠nm→∀x,β k=some x→(∀y,β nm=some y→x.1≠y.1)∧∀y,bo=some y→x.1≠y.1:=fun k hb' hk h1 x hx=>by have q2:∀y,β nm=some y→x.1≠y.1:=fun y hy e=>h1 (hi.sep k nm _ _ hk hn x y hx hy e);refine⟨q2,fun y hy e=>?_⟩;rcases(hbo y hy).1 with z|⟨u,z1,z2⟩;have:=(hi.own k _ hk x hx).2;omega;exact q2 u z1 (e.trans z2.symm)
 have hbl:∀k,k<w.heap.size→(∀y,β nm=some y→k≠y.1)→w'.heap[k]?=w.heap[k]?:=fun k hk h2=>hg.blockX k hk (by rintro⟨x,q1,q2⟩;exact h2 x q1 q2.symm)
 have hh0:∀k h,aG ((nm,HB.mk rt ys)::st.heap) k=some h→(k=nm∧h=⟨rt,ys⟩)∨(k≠nm∧aG st.heap k=some h):=fun k h hh=>by rw[bA]at hh;split at hh;exact W7;rename_i e1;exact .inr ⟨fun e=>e1 e.symm,hh⟩
 have hβo:∀k,k≠nm→(fun q=>if q=nm then bo else β q:Loc) k=β k:=fun k h=>Ph;have hβn:(fun q=>if q=nm then bo else β q:Loc) nm=bo:=Sp;generalize hβ':(fun q=>if q=nm then bo else β q:Loc)=β' at *
 have hok:∀b',bY cx st.heap β w b'→bY cx ((nm,⟨rt,ys⟩)::st.heap) β' w' b'∧w'.heap[b']?=w.heap[b']?:=by rintro b' ⟨h1,h2,h3⟩;have z2:∀y,β nm=some y→b'≠y.1:=fun y hy e=>h3 nm _ hn y hy e.symm;refine⟨⟨h1,F2 h2 hg.size,fun k hb' hk x hx=>?_⟩,hbl b' h2 z2⟩;rcases hh0 k hb' hk with⟨rfl,_⟩|⟨q2,hk⟩;rw[hβn]at hx;intro e;rcases(hbo x hx).1 with z|⟨u,y1,y2⟩;omega;exact z2 u y1 (e.symm.trans y2.symm);rw[hβo k q2]at hx;exact h3 k hb' hk x hx
 have hok2:∀q,(Nd (Cx.mk w (bY cx st.heap β w) 0 (fun q=>∃x,β nm=some x∧x.1=q)) w' q∧qH bo q)→bY cx ((nm,⟨rt,ys⟩)::st.heap) β' w' q∧w'.heap[q]?=w'.heap[q]?:=fun q hq=>by
  refine⟨?_,rfl⟩;have hnk:cx.ok0 q∨cx.new q:=by rcases hq.1.1 with z|z|⟨u,z1,z2⟩;exact z.1;exact aat;exact .inr (z2▸(hi.own nm _ hn u z1).1)
  refine⟨hnk,hq.1.2,fun k hb' hk x hx e1=>?_⟩;rcases hh0 k hb' hk with⟨rfl,_⟩|⟨q2,hk⟩;rw[hβn]at hx;exact hq.2 x hx e1;rw[hβo k q2]at hx;rcases hq.1.1 with z|z|⟨u,z1,z2⟩;exact z.2.2 k _ hk x hx e1;have:=(hi.own k _ hk x hx).2;have z:w.heap.size≤q:=z;omega;exact(hothers k _ hk q2 x hx).1 u z1 (e1.trans z2.symm)
 refine⟨⟨hg.os.trans hi.below.os,hg.tape.trans hi.below.tape,hg.output.trans hi.below.output,wb hi.below.size hg.size,fun k hk hx=>?_,wb hi.below.drawn hg.drawn⟩,hi.old,hi.defers,hi.size,fun k hb' hk x hx=>?_,fun k k' h1 h2 hk hk' x y hx hy hxy=>?_,fun k hb' hk=>?_,fun i t hs'=>?_⟩;refine(hbl k (F2 hk hi.below.size) ?_).trans (hi.below.blockX k hk hx);rintro y hy rfl;rcases(hi.own nm _ hn y hy).1 with q|q;omega;exact hx q;rcases hh0 k hb' hk with⟨rfl,_⟩|⟨q2,hk⟩;rw[hβn]at hx;refine⟨?_,(hbo x hx).2⟩;rcases(hbo x hx).1 with z|⟨u,y1,y2⟩;exact .inl (wb hi.below.size z);exact y2▸(hi.own _ _ hn u y1).1;exact WK;rcases hh0 k _ hk with⟨rfl,_⟩|⟨q2,hk3⟩<;>rcases hh0 k' _ hk' with⟨rfl,_⟩|⟨q4,hk4⟩;rfl;rw[hβn]at hx;rw[hβo k' q4]at hy;exact absurd hxy.symm ((hothers k' _ hk4 q4 y hy).2 x hx);rw[hβn]at hy;rw[hβo k q2]at hx;exact absurd hxy ((hothers k _ hk3 q2 x hx).2 y hy);exact W3;rcases hh0 k _ hk with⟨rfl,rfl⟩|⟨q2,hk⟩;rw[hβn];exact HB.keep hok2 (fun _ _=>rfl) hbx;rw[hβo k q2];exact HB.keep hok (fun x hx=>hbl _ (hi.own k _ hk x hx).2 (hothers k _ hk q2 x hx).1) (hi.rows k _ hk);obtain⟨hs0,hw⟩:=hk.look i t hs';obtain⟨v,h1,h2⟩:=hi.slots i t hs0;refine⟨v,h1,SV.keep hok (fun k hkf=>?_) h2⟩;have hmem:=SV.within_mem hw hkf;have:=Qe.1 hR k hmem;simp only[YC,afo]at this;have z1:k≠nm:=fun e=>abm;cases hlk:aG st.heap k with
 | none=>rw[hlk]at this;simp at this
 | some hb2=>refine⟨hβo k z1,fun b1 o1 hbo1 cur e fr hc=>⟨cur,e,fr,?_,rfl⟩⟩;have hz:=hothers k _ hlk z1 (b1,o1) hbo1;rw[hbl b1 (InvB.cell_lt hc) hz.1];exact hc
omit [NM rt] in
def iT(R ks:List Nat)(h:CtA P kf rt xs Q ss)
 (hx:Ev st x (.own nm rt.n 0 n)) (hn:aG st.heap nm=some ⟨rt,xs⟩) (hfull:n=xs.length) (ha:Args st xo ss) (hp:(ss.all SV.plain)=true) (hd:Nat.blt d cx.n=true)
 (hR:(R.all fun k=>!Nat.beq k nm&&(aG st.heap k).isSome)=true) (hk:KeepP R st.slots ks r)
 (hnext:∀ys,Q ys→JG P cx ops ⟨(d,.own nm rt.n 0 ys.length)::r,(nm,⟨rt,ys⟩)::st.heap⟩ rest k):
 JG P cx ops st (⟨some d,.call {callee:=.value (.func kf),args:=(x::xo).toArray,argTypes:=ts},ty,pos,aft,none⟩::rest) k:=by
 rintro a w ⟨β,hi⟩;refine wpList_plain rfl fun K hK=>?_;have hrun:(execOp a.eval ⟨some d,.call {callee:=.value (.func kf),args:=(x::xo).toArray,argTypes:=ts},ty,pos,aft,none⟩).run P w=.ok (.enter kf ((x::xo).map a.eval).toArray) w:=by exact Xb
 unfold Oper.wp;rw[hrun,Oper.upon_enter];have e1:Yq β w nm rt.n 0 n (a.eval x):=hi.ev hx;obtain⟨A,cap,e2⟩:=mC e1;rw[e2]at e1;have hargs:=ha.holds (fun _ _=>rfl) hi hp;rw[zr,e2];subst hfull;refine(h.calls w (bY cx st.heap β w) A cap (β nm) _ hi.okP (fun y hy=>⟨fun q=>q.2.2 nm _ hn y hy rfl,(hi.own nm _ hn y hy).2⟩) ⟨hi.rows nm _ hn,Gj Sp e1⟩ hargs).mono ?_;rintro e0 w' ⟨A',n',cap',ys,bo,rfl,hb,q0,rfl,q2,q3,q4⟩;have hi':=hi.moveRow hR hn hk hb (fun y hy=>⟨(q2 y hy).1,(q2 y hy).2⟩) q3;refine hK _ _ (hnext ys q0 _ _ ⟨_,hi'.put PX ?_⟩);simp only[SV.holds];exact Gj Sp q4
def CtA.toO(h:CtA P kf rt [] (fun zs=>zs=ys) ss):CtO P kf (.raw (.slice none 0 0)::ss) rt ys:=by
 refine⟨h.ent,fun w ok0 vs hok hh=>?_⟩;obtain⟨v,vr,rfl,hv,hh⟩:=hh;have hv:v=.slice none 0 0:=hv;subst hv;refine(h.calls w ok0 none 0 none vr hok (fun _ e=>by cases e) ⟨rfl,⟨rfl,rfl⟩⟩ hh).mono ?_;rintro e0 w' ⟨A,n,cap,zs,bo,rfl,hb,rfl,rfl,q2,q3,q4⟩;refine⟨_,rfl,⟨hb.os,hb.tape,hb.output,hb.size,fun k hk _=>hb.blockX k hk (by rintro⟨x,q,_⟩;cases q),hb.drawn⟩,?_⟩;cases bo with
 | none=>obtain⟨e1,e2⟩:=q4;exact .inl ⟨jC.1 e2,e1⟩
 | some bo=>obtain⟨b,o⟩:=bo;obtain⟨A',cap',g1,g2,g3,g4⟩:=q4;injection g1 with g1 _ g1';subst g1;subst g1';obtain⟨cur,e,h1,h2,h3⟩:=q3.1 NM.no;refine .inr ⟨A,b,o,cap,cur,e,rfl,?_,g2,g3,?_,h1,?_,fun i x hx=>?_⟩;rcases g4 with g4|g4;exact .inl ⟨jC.1 g4.1,g4.2⟩;exact .inr (by rw[g4.1];simp);rcases(q2 _ rfl).1 with q|⟨x,q,_⟩;exact q;cases q;rcases g4 with g4|⟨_,cur2,e2,fr,g5,g6⟩;rw[g4.2];have:zs.length=0:=g4.1;rw[this]at h2;omega;rw[h1]at g5;injection g5 with g5;injection g5 with g5 _ _;subst g5;rw[N1]at g6;exact g6;obtain⟨cs,k1,k2⟩:=h3 i x hx;exact⟨cs,rt.keep (fun q hq=>⟨⟨⟨hq.1.1.imp id fun z=>z.imp id (by rintro⟨x,q,_⟩;cases q),hq.1.2⟩,fun e=>hq.2 _ rfl e.symm⟩,rfl⟩) k1,k2⟩
end
section
variable{rest:Code}{l id:Nat}{I I':Act→World→Prop}
def JL(P:Program)(cx:Cx)(l:Nat)(st:St)(k:Kn):Prop:=∀a w,Inv cx st a w→k.post P (.goto l) a w
def M0(h:JL P cx l st k):J P cx st (.goto l) k:=fun a w hi=>wp_goto (h a w hi)
def Ic(h:JN P cx st k):J P cx st (.label l) k:=fun a w hi=>wp_label (h a w hi)
def Ge(h:JL P cx l st k):JL P cx l st (.seq c k):=fun a w hi=>h a w hi
def MU(h:JL P cx l st k):JL P cx l st (.blk id k):=fun a w hi=>h a w hi
def abW(h:JL P cx l st k):JL P cx l st (.loop I k):=fun a w hi=>h a w hi
def MS(h:∀a w,Inv cx st a w→I a w):JL P cx l st (.scp l I k):=fun a w hi=>⟨rfl,h a w hi⟩
def MQ(h:JR P cx st k):JR P cx st (.scp l I k):=fun a w hi=>h a w hi
def j_scpm(hI:∀a w,I a w→I' a w)(h:J P cx st c (.scp l I k)):J P cx st c (.scp l I' k):=fun a w hi=>wp_mono (h a w hi) fun e a' w' hq=>by
 cases e with
 | goto l'=>exact⟨hq.1,hI _ _ hq.2⟩
 | _=>exact hq
def RD(h:∀a w,Inv cx st a w→Inv cx st' a w)(hj:J P cx st' c k):J P cx st c k:=fun a w hi=>hj a w (h a w hi)
def Ia(l:Nat)(inv:ι→St)(p:ι→Prop)(μ:ι→Nat)(hf:findLabel c l=some (.seq .skip rest))
 (pass:∀i,p i→J P cx (inv i) rest (.scp l (fun a w=>∃j,μ j<μ i∧p j∧Inv cx (inv j) a w) k))
 (first:(∀i,p i→J P cx (inv i) rest (.scp l (fun a w=>∃j,p j∧Inv cx (inv j) a w) k))→J P cx st c (.scp l (fun a w=>∃j,p j∧Inv cx (inv j) a w) k)):J P cx st (.scope c) k:=by
 intro a0 w0 hi0;have pass':=fun i hp=>ac (c:=.skip) (ak (aa (pass i hp)));have hfirst:=first (fun i hp=>j_scpm (fun a w ⟨j,_,h1,h2⟩=>⟨j,h1,h2⟩) (pass i hp)) a0 w0 hi0
 intro b kk cs;have hg:gotoIn l (.inScope c::kk)=some (.code (.seq .skip rest)::.inScope c::kk):=by simp[gotoIn,hf]
 have key:∀n i a w,μ i=n→p i→Inv cx (inv i) a w→∃e a' w',k.post P e a' w'∧Arrives P (lone (b.at a (.code (.seq .skip rest)::.inScope c::kk)) cs w) b kk cs e a' w':=by
  intro n;induction n using Nat.strongRecOn with
  | _ n ih=>
   intro i a w hn hp hi;obtain⟨e,a₁,w₁,hq,harr⟩:=pass' i hp a w hi b (.inScope c::kk) cs;cases e with
   | normal=>exact⟨.normal,a₁,w₁,hq,Steps.trans harr (.one step_inScope)⟩
   | exit id=>exact⟨.exit id,a₁,w₁,hq,fun k' hk=>harr k' (by simp[exitTo,hk])⟩
   | goto l'=>obtain⟨rfl,j,hlt,hp',hi'⟩:=hq;obtain⟨e₂,a₂,w₂,hq₂,harr₂⟩:=ih _ So j a₁ w₁ rfl hp' hi';exact⟨e₂,a₂,w₂,hq₂,.of_steps (harr _ hg) harr₂⟩
   | ret=>exact⟨_,a₁,w₁,hq,harr⟩
   | panic ch=>exact⟨_,a₁,w₁,hq,harr⟩
   | outgrown=>exact⟨_,a₁,w₁,hq,harr⟩
 obtain⟨e,a₁,w₁,hq,harr⟩:=hfirst b (.inScope c::kk) cs;cases e with
 | normal=>exact⟨.normal,a₁,w₁,hq,.head step_scope (Steps.trans harr (.one step_inScope))⟩
 | exit id=>exact⟨.exit id,a₁,w₁,hq,fun k' hk=>.head step_scope (harr k' (by simp[exitTo,hk]))⟩
 | goto l'=>obtain⟨rfl,j,hp',hi'⟩:=hq;obtain⟨e₂,a₂,w₂,hq₂,harr₂⟩:=key _ j a₁ w₁ rfl hp' hi';exact⟨e₂,a₂,w₂,hq₂,.of_steps (.head step_scope (harr _ hg)) harr₂⟩
 | ret=>exact⟨_,a₁,w₁,hq,.of_steps (.one step_scope) harr⟩
 | panic ch=>exact⟨_,a₁,w₁,hq,.of_steps (.one step_scope) harr⟩
 | outgrown=>exact⟨_,a₁,w₁,hq,.of_steps (.one step_scope) harr⟩
end
section
variable[NM rt]
def yx{x:α}{s1:SV}{rr:SV}{x1 p:Operand}(h:CtV P kf s1 rt x y ss rr)
 (hx:Ev st p (.optr nm rt.n 0 0)) (hn:aG st.heap nm=some ⟨rt,[x]⟩) (ha:Args st (x1::xo) (s1::ss)) (hp:((s1::ss).all SV.plain)=true) (hr:rr.plain=true) (hd:Nat.blt d cx.n=true):
 OS P cx ⟨some d,.call {callee:=.value (.func kf),args:=(x1::p::xo).toArray,argTypes:=ts},ty,pos,aft,none⟩ st ⟨(d,rr)::st.slots,(nm,⟨rt,[y]⟩)::st.heap⟩:=fun a w hi Q=>by have:=zq (ops:=#[]) (ty:=ty) (pos:=pos) (aft:=aft) (ts:=ts) h hx hn ha hp hr hd st ⟨fun _ _=>rfl,fun _ _=>rfl⟩ (fun nm h=>LD) a w hi Q;rw[Cg L0]at this;exact this
end
section
open Go.WideShapes Go.RowKit
def OpensW(P:Program)(t:TypeId)(rt:RT α)(φ:α→Prop):Prop:=
 ∀{H:Type} {enc:TypeId×Value→H} {w:World} {base:Nat} {spare:Nat→Bool} {held:Bool} {fuel:Nat} {cs:List Value} {x:DataW H×List MemPlace},
  DataW.trod enc P w base spare held fuel t cs=some x→(∀m∈DataW.weights P t x.1,m≤reachBytes)→∃d,rt.rep w (Old w) cs d∧φ d
def Opens.toW(h:Opens P t rt φ):OpensW P t rt φ:=fun hx _=>h hx
def qO{H:Type}{P:Program}{e:TypeId}:∀{l:List (DataW H)} {y:DataW H} {m:Nat},y∈l→m∈DataW.weights P e y→m∈DataW.weightsAll P e l
 | z::l,y,m,hy,hm=>by rw[DataW.weightsAll,Nx];rcases L5.1 hy with q|q;subst q;exact .inl hm;exact .inr (qO q hm)
def ve{α:Type}{P:Nat→α→Prop}:∀{n:Nat},(∀i,i<n→∃d,P i d)→∃xs:List α,xs.length=n∧∀i x,xs[i]?=some x→P i x
 | 0,_=>⟨[],rfl,fun i x h=>ob⟩
 | n+1,h=>by
  obtain⟨xs,h1,h2⟩:=ve (n:=n) (fun i hi=>h i So);obtain⟨d,hd⟩:=h n So;refine⟨xs++[d],Kz,fun i x hx=>?_⟩;rcases Qa i n with q|q;rw[NH So]at hx;exact h2 i x hx;rw[l9 So]at hx;have hi:i=n:=by rcases Qa n i with q2|q2;rw[jp QE]at hx;cases hx;omega
  subst hi;rw[h1,O5]at hx;simp at hx;subst hx;exact hd
def dP{b:Nat}(ht:P.underlying t=some (.slice e))(hc:P.cellsOf e=rt.n)(hn:Nat.ble 1 rt.n=true)(hb:P.bytesOf e=b)(h:OpensW P e rt φ):
 OpensW P t (ag rt) (fun xs=>xs.length*b≤reachBytes∧∀x∈xs,φ x):=fun{H enc w base spare held fuel cs x} hx hw=>by
 have hn:0<rt.n:=Nat.le_of_ble_eq_true hn;rcases DataW.trod_slice ht hx with⟨rfl,_⟩|⟨a,len,cap,elems,rest,n,_,rfl,hx2,hb2,hl,hm,hlen,hel,_⟩;exact⟨[],⟨none,0,rfl,Kl _,by simp[maxLen],fun hne=>absurd rfl hne⟩,Sp,Sp⟩;subst hx2;have hw2:(elems.length+rest.length)*b≤reachBytes∧∀y∈elems,∀m∈DataW.weights P e y.1,m≤reachBytes:=by simp only[DataW.weights,ht]at hw;refine⟨by have:=hw ((elems.length+rest.length)*b) (by simp[hb]);exact this,fun y hy m hm=>hw m ?_⟩;simp only[L5,Nx];exact .inr (.inl (qO (List.mem_map_of_mem hy) hm))
 have each:∀i,i<len→∃d,(∃cs',w.cells? base (a.add (i*rt.n)) rt.n=some cs'∧rt.rep w (Old w) cs' d)∧φ d:=by
  intro i hi;have h1:=hel i hi;rw[hc]at h1;cases h2:w.cells? base (a.add (i*rt.n)) rt.n with
  | none=>rw[h2]at h1;have:i<elems.length:=So;rw[RY this]at h1;cases h1
  | some cs'=>rw[h2,Option.bind_some,RY (show i<elems.length by omega)]at h1;obtain⟨d,h3,h4⟩:=h h1 (hw2.2 _ (aA _));exact⟨d,⟨cs',rfl,h3⟩,h4⟩
 obtain⟨xs,h1,h2⟩:=ve each;refine⟨xs,⟨some a,cap,by rw[h1],So,hm,fun hne=>?_⟩,by rw[h1,←hlen];exact wb (bn _ So) hw2.1,fun x hx=>?_⟩;have hpos:0<len:=by rw[←h1];exact N9.2 hne
 have hsp:a.spot=none∧a.block<w.heap.size:=by obtain⟨d,⟨cs',h3,_⟩,_⟩:=each 0 hpos;obtain⟨_,h5,h6⟩:=World.cells?_some h3;have h7:=h6 0 hn;rw[RY So]at h7;have h8:=World.cell?_spot h7;refine⟨by simpa[Addr.add]using h8,?_⟩;have:=World.cells?_block h3 hn;simpa[Addr.add]using this
 obtain⟨bb,o,sp⟩:=a;obtain⟨hs1,hs2⟩:=hsp;simp only at hs1 hs2;subst hs1;refine⟨bb,o,rfl,hs2,fun i x hx=>?_⟩;obtain⟨⟨cs',h3,h4⟩,_⟩:=h2 i x hx;refine⟨cs',h4,fun j v hj=>?_⟩;obtain⟨_,h5,h6⟩:=World.cells?_some h3;have hjl:j<rt.n:=by rw[←h5];exact(Y0.1 hj).1
 have:=h6 j hjl;rw[hj]at this;rw[←this];congr 1;simp only[Addr.add];split<;>split<;>simp_all;obtain⟨i,hi⟩:=List.getElem?_of_mem hx;exact(h2 i x hi).2
def xR(P:Program)(fs:List Field)(off:Nat)(rt:RT α)(φ:α→Prop):Prop:=
 ∀{H:Type} {enc:TypeId×Value→H} {w:World} {base:Nat} {spare:Nat→Bool} {held:Bool} {fuel:Nat} {cs:List Value} {xs:List (DataW H×List MemPlace)},
  xs.length=fs.length→(∀(i:Nat) (f:Field),fs[i]?=some f→DataW.trod enc P w base spare held fuel f.type ((cs.drop f.offset).take (P.cellsOf f.type))=xs[i]?)→
  (∀m∈DataW.weightsEach P (fs.map (·.type)) (xs.map (·.1)),m≤reachBytes)→∃d,rt.rep w (Old w) ((cs.drop off).take rt.n) d∧φ d
def cW{f:Field}(ho:f.offset=off)(hc:P.cellsOf f.type=rt.n)(h:OpensW P f.type rt φ):xR P [f] off rt φ:=fun{H enc w base spare held fuel cs xs} hl hx hw=>by
 match xs,hl with
 | [y],_=>have:=hx 0 f rfl;rw[ho,hc]at this;exact h this (fun m hm=>hw m (by simp only[zr,DataW.weightsEach,Nx];exact .inl hm))
def bu{f:Field}{off':Nat}{a:RT α}{ψ:γ→Prop}(ho:f.offset=off)(hc:P.cellsOf f.type=a.n)(h:OpensW P f.type a φ)(hr:xR P fs off' b ψ)(he:off'=off+a.n):xR P (f::fs) off (bF a b) (fun d=>φ d.1∧ψ d.2):=fun{H enc w base spare held fuel cs xs} hl hx hw=>by
 match xs,hl with
 | y::ys,hl=>have h0:=hx 0 f rfl;rw[ho,hc]at h0;simp only[zr,DataW.weightsEach,Nx]at hw;obtain⟨d1,h1,h2⟩:=h h0 (fun m hm=>hw m (.inl hm));obtain⟨d2,h3,h4⟩:=hr (xs:=ys) (cs:=cs) FM (fun i f' hf=>by simpa using hx (i+1) f' (by simpa using hf)) (fun m hm=>hw m (.inr hm));refine⟨(d1,d2),⟨_,_,?_,h1,h3⟩,h2,h4⟩;subst he;show(cs.drop off).take (a.n+b.n)=_;rw[List.take_add,Jd]
def cM(ht:P.underlying t=some (.struct fs.toArray))(hc:P.cellsOf t=rt.n)(h:xR P fs 0 rt φ):OpensW P t rt φ:=fun hx hw=>by obtain⟨xs,n,_,hx2,hl,hlen,hf⟩:=DataW.trod_struct ht hx;subst hx2;simp only[DataW.weights,ht]at hw;obtain⟨d,h1,h2⟩:=h (xs:=xs) Nn (fun i f hf'=>hf i f (by simpa using hf')) (by simpa using hw);refine⟨d,?_,h2⟩;rw[Pv,fV So]at h1;exact h1
def OpensW.arg(h:OpensW P t rt φ){H:Type}{enc:TypeId×Value→H}{base:Nat}{spare:Nat→Bool}{held:Bool}{d:DataW H}{ps:List MemPlace}
 (hv:v=(if rt.agg then .agg v.cells else v.cells.toList.getD 0 undef)) (hd:DataW.Trod enc P w base spare held t v d ps) (hw:∀m∈DataW.weights P t d,m≤reachBytes):∃x,rt.val w (Old w) v x∧φ x:=by obtain⟨fuel,hf⟩:=hd;obtain⟨x,h1,h2⟩:=h hf hw;exact⟨x,⟨_,h1,by simpa using hv⟩,h2⟩
end
def mo:prog.follows .mixedOrders=true:=zk
def Sj:Ty prog 3 (ay .i64):=Ty.mk_ underlying3 rfl zk
def z3:TyZero prog 3 (ay .i64) (0:Int):=Gh
def J7:(prog.info? 3).map (·.bytes)=some 8:=zk
def Gf:Ty prog 4 cq:=Ty.mk_ underlying4 rfl zk
def z4:TyZero prog 4 cq (false:Bool):=Gh
def Cz:(prog.info? 4).map (·.bytes)=some 1:=zk
def z5:TyZero prog 5 (ay .u8) (0:Int):=Gh
def Md:Ty prog 9 du:=Ty.mk_ underlying9 rfl zk
def z9:TyZero prog 9 du ([]:(List UInt8)):=Gh
def by9:(prog.info? 9).map (·.bytes)=some 16:=zk
def o9:Ty prog 154 (ag du):=Ty.mk_ underlying154 rfl zk
abbrev dN:=(List UInt8)×(List (List UInt8))
@[reducible] def dl:RT dN:=(bF du (ag du))
def iR:Ty prog 156 dl:=Ty.mk_ underlying156 rfl zk
def Dn:TyZero prog 156 dl (([],[]):dN):=Gh
def RV:(prog.info? 156).map (·.bytes)=some 40:=zk
def pl156:lD prog 156=some [(0,1),(1,1)]:=zk
def rC:aB prog 156 0=some 0:=zk
def r8:Lens dl 0 du (fun d=>d.1) (fun d x=>(x,d.2)):=YA
def iC:aB prog 156 1=some 1:=zk
def jk:Lens dl 1 (ag du) (fun d=>d.2) (fun d x=>(d.1,x)):=Kv
def ku:Ty prog 22 (ag dl):=Ty.mk_ underlying22 rfl zk
def z22:TyZero prog 22 (ag dl) ([]:(List dN)):=Gh
abbrev ce:=Int×Int
@[reducible] def bt:RT ce:=(bF (ay .i64) (ay .i64))
def aQ:Ty prog 90 bt:=Ty.mk_ underlying90 rfl zk
def JI:TyZero prog 90 bt ((0,0):ce):=Gh
def QW:(prog.info? 90).map (·.bytes)=some 16:=zk
def gu:lD prog 90=some [(0,1),(1,1)]:=zk
def cz:aB prog 90 0=some 0:=zk
def cv:Lens bt 0 (ay .i64) (fun d=>d.1) (fun d x=>(x,d.2)):=YA
def acn:aB prog 90 1=some 1:=zk
def gX:Lens bt 1 (ay .i64) (fun d=>d.2) (fun d x=>(d.1,x)):=Kv
def s8:te prog 90 bt 2:=lN rfl zk (fs:=[⟨ "Kind",3,0,false,"","",0⟩,⟨ "Enum",3,1,false,"","",8⟩]) zk zk (gS Sp rfl Sj (fx (jc underlying3) zo) (og Sp rfl Sj (fx (jc underlying3) zo)) rfl)
def s9:prog.eqGuardType prog.depth 90=false:=zk
abbrev lT:=Int×Int
@[reducible] def cL:RT lT:=(bF (ay .i64) (ay .i64))
def jN:Ty prog 63 cL:=Ty.mk_ underlying63 rfl zk
def Kj:TyZero prog 63 cL ((0,0):lT):=Gh
def Cn:lD prog 63=some [(0,1),(1,1)]:=zk
def ad3:aB prog 63 0=some 0:=zk
def ip:Lens cL 0 (ay .i64) (fun d=>d.1) (fun d x=>(x,d.2)):=YA
def iv:aB prog 63 1=some 1:=zk
def gN:Lens cL 1 (ay .i64) (fun d=>d.2) (fun d x=>(d.1,x)):=Kv
def eq63:te prog 63 cL 2:=lN rfl zk (fs:=[⟨ "From",3,0,false,"","",0⟩,⟨ "To",3,1,false,"","",8⟩]) zk zk (gS Sp rfl Sj (fx (jc underlying3) zo) (og Sp rfl Sj (fx (jc underlying3) zo)) rfl)
def eg63:prog.eqGuardType prog.depth 63=false:=zk
abbrev dA:=lT×Int×Int×Int
@[reducible] def dD:RT dA:=(bF cL (bF (ay .i64) (bF (ay .i64) (ay .i64))))
def fe:Ty prog 65 dD:=Ty.mk_ underlying65 rfl zk
def Aj:TyZero prog 65 dD (((0,0),(0,(0,0))):dA):=Gh
def jX:(prog.info? 65).map (·.bytes)=some 40:=zk
def pl65:lD prog 65=some [(0,2),(2,1),(3,1),(4,1)]:=zk
def ad4:aB prog 65 0=some 0:=zk
def mT:Lens dD 0 cL (fun d=>d.1) (fun d x=>(x,d.2)):=YA
def l8:aB prog 65 1=some 2:=zk
def nV:Lens dD 2 (ay .i64) (fun d=>d.2.1) (fun d x=>(d.1,(x,d.2.2))):=J5
def l7:aB prog 65 2=some 3:=zk
def nU:Lens dD 3 (ay .i64) (fun d=>d.2.2.1) (fun d x=>(d.1,(d.2.1,(x,d.2.2.2)))):=ij
def uX:aB prog 65 3=some 4:=zk
def vU:Lens dD 4 (ay .i64) (fun d=>d.2.2.2) (fun d x=>(d.1,(d.2.1,(d.2.2.1,x)))):=I6
def o8:Ty prog 157 (ag dD):=Ty.mk_ underlying157 rfl zk
abbrev bS:=(List UInt8)×ce×ce×(List dA)
@[reducible] def b9:RT bS:=(bF du (bF bt (bF bt (ag dD))))
def eZ:Ty prog 159 b9:=Ty.mk_ underlying159 rfl zk
def Aq:TyZero prog 159 b9 (([],((0,0),((0,0),[]))):bS):=Gh
def RU:(prog.info? 159).map (·.bytes)=some 72:=zk
def ad5:aB prog 159 0=some 0:=zk
def r7:Lens b9 0 du (fun d=>d.1) (fun d x=>(x,d.2)):=YA
def adu:aB prog 159 1=some 1:=zk
def qn:Lens b9 1 bt (fun d=>d.2.1) (fun d x=>(d.1,(x,d.2.2))):=J5
def TyV:aB prog 159 2=some 3:=zk
def l5:Lens b9 3 bt (fun d=>d.2.2.1) (fun d x=>(d.1,(d.2.1,(x,d.2.2.2)))):=ij
def ig:aB prog 159 3=some 5:=zk
def lZ:Lens b9 5 (ag dD) (fun d=>d.2.2.2) (fun d x=>(d.1,(d.2.1,(d.2.2.1,x)))):=I6
def i8:Ty prog 23 (ag b9):=Ty.mk_ underlying23 rfl zk
abbrev dG:=(List UInt8)×ce
@[reducible] def dm:RT dG:=(bF du bt)
def jM:Ty prog 92 dm:=Ty.mk_ underlying92 rfl zk
def Qt:TyZero prog 92 dm (([],(0,0)):dG):=Gh
def by92:(prog.info? 92).map (·.bytes)=some 32:=zk
def pl92:lD prog 92=some [(0,1),(1,2)]:=zk
def guE:aB prog 92 0=some 0:=zk
def qk:Lens dm 0 du (fun d=>d.1) (fun d x=>(x,d.2)):=YA
def ad6:aB prog 92 1=some 1:=zk
def qj:Lens dm 1 bt (fun d=>d.2) (fun d x=>(d.1,x)):=Kv
def gW:Ty prog 78 (ag dm):=Ty.mk_ underlying78 rfl zk
abbrev aF:=Int×Int
@[reducible] def aZ:RT aF:=(bF (ay .i64) (ay .i64))
def bE:Ty prog 163 aZ:=Ty.mk_ underlying163 rfl zk
def eP:TyZero prog 163 aZ ((0,0):aF):=Gh
def mH:(prog.info? 163).map (·.bytes)=some 16:=zk
def kW:lD prog 163=some [(0,1),(1,1)]:=zk
def jec:aB prog 163 0=some 0:=zk
def bM:Lens aZ 0 (ay .i64) (fun d=>d.1) (fun d x=>(x,d.2)):=YA
def aV:aB prog 163 1=some 1:=zk
def bc:Lens aZ 1 (ay .i64) (fun d=>d.2) (fun d x=>(d.1,x)):=Kv
def RN:te prog 163 aZ 2:=lN rfl zk (fs:=[⟨ "Op",3,0,false,"","",0⟩,⟨ "N",3,1,false,"","",8⟩]) zk zk (gS Sp rfl Sj (fx (jc underlying3) zo) (og Sp rfl Sj (fx (jc underlying3) zo)) rfl)
def RO:prog.eqGuardType prog.depth 163=false:=zk
def iw:Ty prog 61 (ag aZ):=Ty.mk_ underlying61 rfl zk
def z61:TyZero prog 61 (ag aZ) ([]:(List aF)):=Gh
def by61:(prog.info? 61).map (·.bytes)=some 24:=zk
abbrev ba:=(List UInt8)×Int×Int×Int×lT×(List aF)×(List aF)×(List UInt8)
@[reducible] def ct:RT ba:=(bF du (bF (ay .i64) (bF (ay .i64) (bF (ay .i64) (bF cL (bF (ag aZ) (bF (ag aZ) du)))))))
def dh:Ty prog 120 ct:=Ty.mk_ underlying120 rfl zk
def kN:TyZero prog 120 ct (([],(0,(0,(0,((0,0),([],([],[]))))))):ba):=Gh
def BQ:(prog.info? 120).map (·.bytes)=some 120:=zk
def LU:lD prog 120=some [(0,1),(1,1),(2,1),(3,1),(4,2),(6,1),(7,1),(8,1)]:=zk
def Yl2f:aB prog 120 0=some 0:=zk
def ie:Lens ct 0 du (fun d=>d.1) (fun d x=>(x,d.2)):=YA
def fC:aB prog 120 1=some 1:=zk
def fZ:Lens ct 1 (ay .i64) (fun d=>d.2.1) (fun d x=>(d.1,(x,d.2.2))):=J5
def z46:aB prog 120 2=some 2:=zk
def ic:Lens ct 2 (ay .i64) (fun d=>d.2.2.1) (fun d x=>(d.1,(d.2.1,(x,d.2.2.2)))):=ij
def rvs:aB prog 120 3=some 3:=zk
def r9:Lens ct 3 (ay .i64) (fun d=>d.2.2.2.1) (fun d x=>(d.1,(d.2.1,(d.2.2.1,(x,d.2.2.2.2))))):=Jl
def iV:aB prog 120 4=some 4:=zk
def iP:Lens ct 4 cL (fun d=>d.2.2.2.2.1) (fun d x=>(d.1,(d.2.1,(d.2.2.1,(d.2.2.2.1,(x,d.2.2.2.2.2)))))):=Yl4f
def iE:aB prog 120 5=some 6:=zk
def iO:Lens ct 6 (ag aZ) (fun d=>d.2.2.2.2.2.1) (fun d x=>(d.1,(d.2.1,(d.2.2.1,(d.2.2.2.1,(d.2.2.2.2.1,(x,d.2.2.2.2.2.2))))))):=Yl5f
def iU:aB prog 120 6=some 7:=zk
def iN:Lens ct 7 (ag aZ) (fun d=>d.2.2.2.2.2.2.1) (fun d x=>(d.1,(d.2.1,(d.2.2.1,(d.2.2.2.1,(d.2.2.2.2.1,(d.2.2.2.2.2.1,(x,d.2.2.2.2.2.2.2)))))))):=Yl6f
def loP:aB prog 120 7=some 8:=zk
def uH:Lens ct 8 du (fun d=>d.2.2.2.2.2.2.2) (fun d x=>(d.1,(d.2.1,(d.2.2.1,(d.2.2.2.1,(d.2.2.2.2.1,(d.2.2.2.2.2.1,(d.2.2.2.2.2.2.1,x)))))))):=Yl7
def i7:Ty prog 79 (ag ct):=Ty.mk_ underlying79 rfl zk
abbrev aL:=(List UInt8)×Int×(List dG)×(List dG)×(List ba)
@[reducible] def bw:RT aL:=(bF du (bF (ay .i64) (bF (ag dm) (bF (ag dm) (ag ct)))))
def dO:Ty prog 81 bw:=Ty.mk_ underlying81 rfl zk
def KB:TyZero prog 81 bw (([],(0,([],([],[])))):aL):=Gh
def by81:(prog.info? 81).map (·.bytes)=some 96:=zk
def pl81:lD prog 81=some [(0,1),(1,1),(2,1),(3,1),(4,1)]:=zk
def hiP:aB prog 81 0=some 0:=zk
def kE:Lens bw 0 du (fun d=>d.1) (fun d x=>(x,d.2)):=YA
def ko:aB prog 81 1=some 1:=zk
def lJ:Lens bw 1 (ay .i64) (fun d=>d.2.1) (fun d x=>(d.1,(x,d.2.2))):=J5
def cpt:aB prog 81 2=some 2:=zk
def kD:Lens bw 2 (ag dm) (fun d=>d.2.2.1) (fun d x=>(d.1,(d.2.1,(x,d.2.2.2)))):=ij
def d8:aB prog 81 3=some 3:=zk
def eX:Lens bw 3 (ag dm) (fun d=>d.2.2.2.1) (fun d x=>(d.1,(d.2.1,(d.2.2.1,(x,d.2.2.2.2))))):=Jl
def dq:aB prog 81 4=some 4:=zk
def eN:Lens bw 4 (ag ct) (fun d=>d.2.2.2.2) (fun d x=>(d.1,(d.2.1,(d.2.2.1,(d.2.2.2.1,x))))):=Yl4
def js:Ty prog 24 (ag bw):=Ty.mk_ underlying24 rfl zk
abbrev bZ:=(List dN)×(List bS)×(List aL)
@[reducible] def bl:RT bZ:=(bF (ag dl) (bF (ag b9) (ag bw)))
def dj:Ty prog 26 bl:=Ty.mk_ underlying26 rfl zk
def Ol:TyZero prog 26 bl (([],([],[])):bZ):=Gh
def tC:lD prog 26=some [(0,1),(1,1),(2,1)]:=zk
def e9:aB prog 26 0=some 0:=zk
def gZ:Lens bl 0 (ag dl) (fun d=>d.1) (fun d x=>(x,d.2)):=YA
def eu:aB prog 26 1=some 1:=zk
def gO:Lens bl 1 (ag b9) (fun d=>d.2.1) (fun d x=>(d.1,(x,d.2.2))):=J5
def dx:aB prog 26 2=some 2:=zk
def eI:Lens bl 2 (ag bw) (fun d=>d.2.2) (fun d x=>(d.1,(d.2.1,x))):=FT
abbrev aN:=Int×Int×Int
@[reducible] def aK:RT aN:=(bF (ay .i64) (bF (ay .i64) (ay .i64)))
def z182:TyZero prog 182 aK ((0,(0,0)):aN):=Gh
def aM:Ty prog 183 aK:=Ty.mk_ underlying183 rfl zk
def Qg:TyZero prog 183 aK ((0,(0,0)):aN):=Gh
def Fv:(prog.info? 183).map (·.bytes)=some 24:=zk
def eq:lD prog 183=some [(0,1),(1,1),(2,1)]:=zk
def ad7:aB prog 183 0=some 0:=zk
def bU:Lens aK 0 (ay .i64) (fun d=>d.1) (fun d x=>(x,d.2)):=YA
def adr:aB prog 183 1=some 1:=zk
def km:Lens aK 1 (ay .i64) (fun d=>d.2.1) (fun d x=>(d.1,(x,d.2.2))):=J5
def ad8:aB prog 183 2=some 2:=zk
def bj:Lens aK 2 (ay .i64) (fun d=>d.2.2) (fun d x=>(d.1,(d.2.1,x))):=FT
def eq183:te prog 183 aK 2:=lN rfl zk (fs:=[⟨ "Kind",3,0,false,"","",0⟩,⟨ "Enum",3,1,false,"","",8⟩,⟨ "N",3,2,false,"","",16⟩]) zk zk (gS Sp rfl Sj (fx (jc underlying3) zo) (gS Sp rfl Sj (fx (jc underlying3) zo) (og Sp rfl Sj (fx (jc underlying3) zo)) rfl) rfl)
def eg183:prog.eqGuardType prog.depth 183=false:=zk
def iF:Ty prog 27 (ag aK):=Ty.mk_ underlying27 rfl zk
def z27:TyZero prog 27 (ag aK) ([]:(List aN)):=Gh
def by27:(prog.info? 27).map (·.bytes)=some 24:=zk
def x6:Ty prog 28 (ag (ag aK)):=Ty.mk_ underlying28 rfl zk
def z28:TyZero prog 28 (ag (ag aK)) ([]:(List (List aN))):=Gh
abbrev fo:=Int×(List aN)×(List (List aN))
@[reducible] def gL:RT fo:=(bF (ay .i64) (bF (ag aK) (ag (ag aK))))
def ysI:Ty prog 30 gL:=Ty.mk_ underlying30 rfl zk
def ngv:aB prog 30 0=some 0:=zk
def oT:Lens gL 0 (ay .i64) (fun d=>d.1) (fun d x=>(x,d.2)):=YA
def chS:aB prog 30 1=some 1:=zk
def CE:Lens gL 1 (ag aK) (fun d=>d.2.1) (fun d x=>(d.1,(x,d.2.2))):=J5
def ad9:aB prog 30 2=some 2:=zk
def tJ:Lens gL 2 (ag (ag aK)) (fun d=>d.2.2) (fun d x=>(d.1,(d.2.1,x))):=FT
def kr:Ty prog 37 (ag (ay .i64)):=Ty.mk_ underlying37 rfl zk
def by37:(prog.info? 37).map (·.bytes)=some 24:=zk
def kQ:Ty prog 34 (ay .i64):=Ty.mk_ underlying34 rfl zk
abbrev fk:=Int×Int×Int×Int
@[reducible] def bh:RT fk:=(bF (ay .i64) (bF (ay .i64) (bF (ay .i64) (ay .i64))))
def dJ:Ty prog 46 bh:=Ty.mk_ underlying46 rfl zk
def ii:TyZero prog 46 bh ((0,(0,(0,0))):fk):=Gh
def nN:lD prog 46=some [(0,1),(1,1),(2,1),(3,1)]:=zk
def aea:aB prog 46 0=some 0:=zk
def gx:Lens bh 0 (ay .i64) (fun d=>d.1) (fun d x=>(x,d.2)):=YA
def lf:Lens bh 1 (ay .i64) (fun d=>d.2.1) (fun d x=>(d.1,(x,d.2.2))):=J5
def ld:Lens bh 2 (ay .i64) (fun d=>d.2.2.1) (fun d x=>(d.1,(d.2.1,(x,d.2.2.2)))):=ij
def lc:Lens bh 3 (ay .i64) (fun d=>d.2.2.2) (fun d x=>(d.1,(d.2.1,(d.2.2.1,x)))):=I6
def eq46:te prog 46 bh 2:=lN rfl zk (fs:=[⟨ "Code",34,0,false,"","",0⟩,⟨ "Member",3,1,false,"","",8⟩,⟨ "Def",3,2,false,"","",16⟩,⟨ "Rule",3,3,false,"","",24⟩]) zk zk (gS Sp rfl kQ (fx (jc underlying34) zo) (gS Sp rfl Sj (fx (jc underlying3) zo) (gS Sp rfl Sj (fx (jc underlying3) zo) (og Sp rfl Sj (fx (jc underlying3) zo)) rfl) rfl) rfl)
def eg46:prog.eqGuardType prog.depth 46=false:=zk
abbrev bJ:=Int×Int×(List UInt8)×(List UInt8)×(List UInt8)×(List UInt8)×Int×(List aF)×(List aF)×(List UInt8)×(List UInt8)×dA
@[reducible] def cX:RT bJ:=(bF (ay .i64) (bF (ay .i64) (bF du (bF du (bF du (bF du (bF (ay .i64) (bF (ag aZ) (bF (ag aZ) (bF du (bF du dD)))))))))))
def ud:Ty prog 67 cX:=Ty.mk_ underlying67 rfl zk
def z67:TyZero prog 67 cX ((0,(0,([],([],([],([],(0,([],([],([],([],((0,0),(0,(0,0)))))))))))))):bJ):=Gh
def pl67:lD prog 67=some [(0,1),(1,1),(2,1),(3,1),(4,1),(5,1),(6,1),(7,1),(8,1),(9,1),(10,1),(11,5)]:=zk
def aaE:aB prog 67 0=some 0:=zk
def vT:Lens cX 0 (ay .i64) (fun d=>d.1) (fun d x=>(x,d.2)):=YA
def l6:aB prog 67 1=some 1:=zk
def nS:Lens cX 1 (ay .i64) (fun d=>d.2.1) (fun d x=>(d.1,(x,d.2.2))):=J5
def abI:aB prog 67 2=some 2:=zk
def CB:Lens cX 2 du (fun d=>d.2.2.1) (fun d x=>(d.1,(d.2.1,(x,d.2.2.2)))):=ij
def xB:aB prog 67 3=some 3:=zk
def yV:Lens cX 3 du (fun d=>d.2.2.2.1) (fun d x=>(d.1,(d.2.1,(d.2.2.1,(x,d.2.2.2.2))))):=Jl
def acp:aB prog 67 4=some 4:=zk
def ln67_4:Lens cX 4 du (fun d=>d.2.2.2.2.1) (fun d x=>(d.1,(d.2.1,(d.2.2.1,(d.2.2.2.1,(x,d.2.2.2.2.2)))))):=Yl4f
def Res:aB prog 67 5=some 5:=zk
def CA:Lens cX 5 du (fun d=>d.2.2.2.2.2.1) (fun d x=>(d.1,(d.2.1,(d.2.2.1,(d.2.2.2.1,(d.2.2.2.2.1,(x,d.2.2.2.2.2.2))))))):=Yl5f
def Iz:aB prog 67 6=some 6:=zk
def MB:Lens cX 6 (ay .i64) (fun d=>d.2.2.2.2.2.2.1) (fun d x=>(d.1,(d.2.1,(d.2.2.1,(d.2.2.2.1,(d.2.2.2.2.1,(d.2.2.2.2.2.1,(x,d.2.2.2.2.2.2.2)))))))):=Yl6f
def Iy:aB prog 67 7=some 7:=zk
def MA:Lens cX 7 (ag aZ) (fun d=>d.2.2.2.2.2.2.2.1) (fun d x=>(d.1,(d.2.1,(d.2.2.1,(d.2.2.2.1,(d.2.2.2.2.1,(d.2.2.2.2.2.1,(d.2.2.2.2.2.2.1,(x,d.2.2.2.2.2.2.2.2))))))))):=Yl7f
def Ix:aB prog 67 8=some 8:=zk
def Mz:Lens cX 8 (ag aZ) (fun d=>d.2.2.2.2.2.2.2.2.1) (fun d x=>(d.1,(d.2.1,(d.2.2.1,(d.2.2.2.1,(d.2.2.2.2.1,(d.2.2.2.2.2.1,(d.2.2.2.2.2.2.1,(d.2.2.2.2.2.2.2.1,(x,d.2.2.2.2.2.2.2.2.2)))))))))):=Yl8f
def Iw:aB prog 67 9=some 9:=zk
def My:Lens cX 9 du (fun d=>d.2.2.2.2.2.2.2.2.2.1) (fun d x=>(d.1,(d.2.1,(d.2.2.1,(d.2.2.2.1,(d.2.2.2.2.1,(d.2.2.2.2.2.1,(d.2.2.2.2.2.2.1,(d.2.2.2.2.2.2.2.1,(d.2.2.2.2.2.2.2.2.1,(x,d.2.2.2.2.2.2.2.2.2.2))))))))))):=Yl9f
def Y19:aB prog 67 10=some 10:=zk
def HQ:Lens cX 10 du (fun d=>d.2.2.2.2.2.2.2.2.2.2.1) (fun d x=>(d.1,(d.2.1,(d.2.2.1,(d.2.2.2.1,(d.2.2.2.2.1,(d.2.2.2.2.2.1,(d.2.2.2.2.2.2.1,(d.2.2.2.2.2.2.2.1,(d.2.2.2.2.2.2.2.2.1,(d.2.2.2.2.2.2.2.2.2.1,(x,d.2.2.2.2.2.2.2.2.2.2.2)))))))))))):=Yl10f
def rB:aB prog 67 11=some 11:=zk
def uF:Lens cX 11 dD (fun d=>d.2.2.2.2.2.2.2.2.2.2.2) (fun d x=>(d.1,(d.2.1,(d.2.2.1,(d.2.2.2.1,(d.2.2.2.2.1,(d.2.2.2.2.2.1,(d.2.2.2.2.2.2.1,(d.2.2.2.2.2.2.2.1,(d.2.2.2.2.2.2.2.2.1,(d.2.2.2.2.2.2.2.2.2.1,(d.2.2.2.2.2.2.2.2.2.2.1,x)))))))))))):=Yl11
abbrev wm:=Int×Int×Int×Int
@[reducible] def cm:RT wm:=(bF (ay .i64) (bF (ay .i64) (bF (ay .i64) (ay .i64))))
def z51:TyZero prog 51 cm ((0,(0,(0,0))):wm):=Gh
def hO:Ty prog 52 cm:=Ty.mk_ underlying52 rfl zk
def Jn:TyZero prog 52 cm ((0,(0,(0,0))):wm):=Gh
def Az:lD prog 52=some [(0,1),(1,1),(2,1),(3,1)]:=zk
def rIx:aB prog 52 0=some 0:=zk
def gY:Lens cm 0 (ay .i64) (fun d=>d.1) (fun d x=>(x,d.2)):=YA
def vW:Lens cm 1 (ay .i64) (fun d=>d.2.1) (fun d x=>(d.1,(x,d.2.2))):=J5
def vV:Lens cm 2 (ay .i64) (fun d=>d.2.2.1) (fun d x=>(d.1,(d.2.1,(x,d.2.2.2)))):=ij
def chR:aB prog 52 3=some 3:=zk
def Gc:Lens cm 3 (ay .i64) (fun d=>d.2.2.2) (fun d x=>(d.1,(d.2.1,(d.2.2.1,x)))):=I6
def eq52:te prog 52 cm 2:=lN rfl zk (fs:=[⟨ "Code",34,0,false,"","",0⟩,⟨ "Section",3,1,false,"","",8⟩,⟨ "Item",3,2,false,"","",16⟩,⟨ "Element",3,3,false,"","",24⟩]) zk zk (gS Sp rfl kQ (fx (jc underlying34) zo) (gS Sp rfl Sj (fx (jc underlying3) zo) (gS Sp rfl Sj (fx (jc underlying3) zo) (og Sp rfl Sj (fx (jc underlying3) zo)) rfl) rfl) rfl)
def eg52:prog.eqGuardType prog.depth 52=false:=zk
abbrev il:=(List UInt8)×(List UInt8)×Int
@[reducible] def cw:RT il:=(bF du (bF du (ay .i64)))
def DA:Ty prog 60 cw:=Ty.mk_ underlying60 rfl zk
def PO:TyZero prog 60 cw (([],([],0)):il):=Gh
def by60:(prog.info? 60).map (·.bytes)=some 40:=zk
def pl60:lD prog 60=some [(0,1),(1,1),(2,1)]:=zk
def aeb:aB prog 60 0=some 0:=zk
def CD:Lens cw 0 du (fun d=>d.1) (fun d x=>(x,d.2)):=YA
def aa5:aB prog 60 1=some 1:=zk
def CC:Lens cw 1 du (fun d=>d.2.1) (fun d x=>(d.1,(x,d.2.2))):=J5
def Gb:Lens cw 2 (ay .i64) (fun d=>d.2.2) (fun d x=>(d.1,(d.2.1,x))):=FT
abbrev i6:=(List aN)×(List Int)
@[reducible] def cu:RT i6:=(bF (ag aK) (ag (ay .i64)))
def ww:Ty prog 150 cu:=Ty.mk_ underlying150 rfl zk
def I8:TyZero prog 150 cu (([],[]):i6):=Gh
def RW:(prog.info? 150).map (·.bytes)=some 48:=zk
def Ru:lD prog 150=some [(0,1),(1,1)]:=zk
def abK:aB prog 150 0=some 0:=zk
def xt:Lens cu 0 (ag aK) (fun d=>d.1) (fun d x=>(x,d.2)):=YA
def acl:aB prog 150 1=some 1:=zk
def xr:Lens cu 1 (ag (ay .i64)) (fun d=>d.2) (fun d x=>(d.1,x)):=Kv
def ty68:Ty prog 68 (ag cu):=Ty.mk_ underlying68 rfl zk
abbrev sB:=(List aN)×(List Int)×(List i6)
@[reducible] def cZ:RT sB:=(bF (ag aK) (bF (ag (ay .i64)) (ag cu)))
def iQ:Ty prog 70 cZ:=Ty.mk_ underlying70 rfl zk
def PP:TyZero prog 70 cZ (([],([],[])):sB):=Gh
def Cm:lD prog 70=some [(0,1),(1,1),(2,1)]:=zk
def uV:aB prog 70 0=some 0:=zk
def yU:Lens cZ 0 (ag aK) (fun d=>d.1) (fun d x=>(x,d.2)):=YA
def uU:aB prog 70 1=some 1:=zk
def yT:Lens cZ 1 (ag (ay .i64)) (fun d=>d.2.1) (fun d x=>(d.1,(x,d.2.2))):=J5
def so:aB prog 70 2=some 2:=zk
def Mx:Lens cZ 2 (ag cu) (fun d=>d.2.2) (fun d x=>(d.1,(d.2.1,x))):=FT
def ty82:Ty prog 82 (ag (ag aZ)):=Ty.mk_ underlying82 rfl zk
def uc:Ty prog 84 (ag bt):=Ty.mk_ underlying84 rfl zk
abbrev bG:=(List dN)×(List bS)×(List ce)×(List ce)×(List ce)×Bool
@[reducible] def dg:RT bG:=(bF (ag dl) (bF (ag b9) (bF (ag bt) (bF (ag bt) (bF (ag bt) cq)))))
def kM:Ty prog 86 dg:=Ty.mk_ underlying86 rfl zk
def z86:TyZero prog 86 dg (([],([],([],([],([],false))))):bG):=Gh
def pl86:lD prog 86=some [(0,1),(1,1),(2,1),(3,1),(4,1),(5,1)]:=zk
def stE:aB prog 86 0=some 0:=zk
def ql:Lens dg 0 (ag dl) (fun d=>d.1) (fun d x=>(x,d.2)):=YA
def Z13:aB prog 86 1=some 1:=zk
def tI:Lens dg 1 (ag b9) (fun d=>d.2.1) (fun d x=>(d.1,(x,d.2.2))):=J5
def Y15:aB prog 86 2=some 2:=zk
def Mw:Lens dg 2 (ag bt) (fun d=>d.2.2.1) (fun d x=>(d.1,(d.2.1,(x,d.2.2.2)))):=ij
def ocS:aB prog 86 3=some 3:=zk
def Mv:Lens dg 3 (ag bt) (fun d=>d.2.2.2.1) (fun d x=>(d.1,(d.2.1,(d.2.2.1,(x,d.2.2.2.2))))):=Jl
def reT:aB prog 86 4=some 4:=zk
def Mu:Lens dg 4 (ag bt) (fun d=>d.2.2.2.2.1) (fun d x=>(d.1,(d.2.1,(d.2.2.1,(d.2.2.2.1,(x,d.2.2.2.2.2)))))):=Yl4f
def IKd:aB prog 86 5=some 5:=zk
def Mt:Lens dg 5 cq (fun d=>d.2.2.2.2.2) (fun d x=>(d.1,(d.2.1,(d.2.2.1,(d.2.2.2.1,(d.2.2.2.2.1,x)))))):=Yl5
def La:Ty prog 101 (ag cq):=Ty.mk_ underlying101 rfl zk
abbrev cP:=Int×(List aN)×(List aN)×(List (List aN))×(List ce)×(List bS)
@[reducible] def gD:RT cP:=(bF (ay .i64) (bF (ag aK) (bF (ag aK) (bF (ag (ag aK)) (bF (ag bt) (ag b9))))))
def jf:Ty prog 123 gD:=Ty.mk_ underlying123 rfl zk
def BW:TyZero prog 123 gD ((0,([],([],([],([],[]))))):cP):=Gh
def ym:lD prog 123=some [(0,1),(1,1),(2,1),(3,1),(4,1),(5,1)]:=zk
def aec:aB prog 123 0=some 0:=zk
def qo:Lens gD 0 (ay .i64) (fun d=>d.1) (fun d x=>(x,d.2)):=YA
def aed:aB prog 123 1=some 1:=zk
def uG:Lens gD 1 (ag aK) (fun d=>d.2.1) (fun d x=>(d.1,(x,d.2.2))):=J5
def gR:aB prog 123 2=some 2:=zk
def gy:Lens gD 2 (ag aK) (fun d=>d.2.2.1) (fun d x=>(d.1,(d.2.1,(x,d.2.2.2)))):=ij
def oe:aB prog 123 3=some 3:=zk
def CI:Lens gD 3 (ag (ag aK)) (fun d=>d.2.2.2.1) (fun d x=>(d.1,(d.2.1,(d.2.2.1,(x,d.2.2.2.2))))):=Jl
def iD:aB prog 123 4=some 4:=zk
def ne:Lens gD 4 (ag bt) (fun d=>d.2.2.2.2.1) (fun d x=>(d.1,(d.2.1,(d.2.2.1,(d.2.2.2.1,(x,d.2.2.2.2.2)))))):=Yl4f
def Y17:aB prog 123 5=some 5:=zk
def oD:Lens gD 5 (ag b9) (fun d=>d.2.2.2.2.2) (fun d x=>(d.1,(d.2.1,(d.2.2.1,(d.2.2.2.1,(d.2.2.2.2.1,x)))))):=Yl5
abbrev Tneeds:=aL×aL×(List Bool)×(List Bool)
@[reducible] def pQ:RT Tneeds:=(bF bw (bF bw (bF (ag cq) (ag cq))))
def pl137:lD prog 137=some [(0,5),(5,5),(10,1),(11,1)]:=zk
def u5:aB prog 137 0=some 0:=zk
def P4:Lens pQ 0 bw (fun d=>d.1) (fun d x=>(x,d.2)):=YA
def u4:aB prog 137 1=some 5:=zk
def HY:Lens pQ 5 bw (fun d=>d.2.1) (fun d x=>(d.1,(x,d.2.2))):=J5
def uZ:aB prog 137 2=some 10:=zk
def P3:Lens pQ 10 (ag cq) (fun d=>d.2.2.1) (fun d x=>(d.1,(d.2.1,(x,d.2.2.2)))):=ij
def uY:aB prog 137 3=some 11:=zk
def P2:Lens pQ 11 (ag cq) (fun d=>d.2.2.2) (fun d x=>(d.1,(d.2.1,(d.2.2.1,x)))):=I6
abbrev vw:=(List Int)×(List ba)×(List (List aF))×(List (List aF))
@[reducible] def fz:RT vw:=(bF (ag (ay .i64)) (bF (ag ct) (bF (ag (ag aZ)) (ag (ag aZ)))))
def K9:Ty prog 143 fz:=Ty.mk_ underlying143 rfl zk
def z143:TyZero prog 143 fz (([],([],([],[]))):vw):=Gh
def evV:aB prog 143 0=some 0:=zk
def P1:Lens fz 0 (ag (ay .i64)) (fun d=>d.1) (fun d x=>(x,d.2)):=YA
def tvR:aB prog 143 1=some 1:=zk
def zx:aB prog 143 2=some 2:=zk
def P0:Lens fz 2 (ag (ag aZ)) (fun d=>d.2.2.1) (fun d x=>(d.1,(d.2.1,(x,d.2.2.2)))):=ij
def zu:aB prog 143 3=some 3:=zk
def PZ:Lens fz 3 (ag (ag aZ)) (fun d=>d.2.2.2) (fun d x=>(d.1,(d.2.1,(d.2.2.1,x)))):=I6
abbrev OE:=aL×vw×(List Int)
@[reducible] def hU:RT OE:=(bF bw (bF fz (ag (ay .i64))))
def pl145:lD prog 145=some [(0,5),(5,4),(9,1)]:=zk
def pz:aB prog 145 0=some 0:=zk
def xu:Lens hU 0 bw (fun d=>d.1) (fun d x=>(x,d.2)):=YA
def aee:aB prog 145 1=some 5:=zk
def CH:Lens hU 5 fz (fun d=>d.2.1) (fun d x=>(d.1,(x,d.2.2))):=J5
def py:aB prog 145 2=some 9:=zk
def CG:Lens hU 9 (ag (ay .i64)) (fun d=>d.2.2) (fun d x=>(d.1,(d.2.1,x))):=FT
abbrev rK:=(List Int)×(List Int)×(List Int)
@[reducible] def eF:RT rK:=(bF (ag (ay .i64)) (bF (ag (ay .i64)) (ag (ay .i64))))
def Rf:Ty prog 189 eF:=Ty.mk_ underlying189 rfl zk
def z189:TyZero prog 189 eF (([],([],[])):rK):=Gh
def Rt:lD prog 189=some [(0,1),(1,1),(2,1)]:=zk
def aef:aB prog 189 0=some 0:=zk
def HX:Lens eF 0 (ag (ay .i64)) (fun d=>d.1) (fun d x=>(x,d.2)):=YA
def aeg:aB prog 189 1=some 1:=zk
def qm:Lens eF 1 (ag (ay .i64)) (fun d=>d.2.1) (fun d x=>(d.1,(x,d.2.2))):=J5
def pv:aB prog 189 2=some 2:=zk
def xq:Lens eF 2 (ag (ay .i64)) (fun d=>d.2.2) (fun d x=>(d.1,(d.2.1,x))):=FT
abbrev rL:=(List UInt8)×(List UInt8)×Int×lT×(List UInt8)
@[reducible] def d6:RT rL:=(bF du (bF du (bF (ay .i64) (bF cL du))))
def o7:Ty prog 211 d6:=Ty.mk_ underlying211 rfl zk
def z211:TyZero prog 211 d6 (([],([],(0,((0,0),[])))):rL):=Gh
def pl211:lD prog 211=some [(0,1),(1,1),(2,1),(3,2),(5,1)]:=zk
def abX:aB prog 211 0=some 0:=zk
def PY:Lens d6 0 du (fun d=>d.1) (fun d x=>(x,d.2)):=YA
def ab2:aB prog 211 1=some 1:=zk
def HT:Lens d6 1 du (fun d=>d.2.1) (fun d x=>(d.1,(x,d.2.2))):=J5
def adb:Lens d6 2 (ay .i64) (fun d=>d.2.2.1) (fun d x=>(d.1,(d.2.1,(x,d.2.2.2)))):=ij
def adt:Lens d6 3 cL (fun d=>d.2.2.2.1) (fun d x=>(d.1,(d.2.1,(d.2.2.1,(x,d.2.2.2.2))))):=Jl
def fiD:Lens d6 5 du (fun d=>d.2.2.2.2) (fun d x=>(d.1,(d.2.1,(d.2.2.1,(d.2.2.2.1,x))))):=Yl4
def eq211:te prog 211 d6 3:=lN rfl zk (fs:=[⟨ "def",9,0,false,"","guerdon/lawdiff",0⟩,⟨ "parent",9,1,false,"","guerdon/lawdiff",16⟩,⟨ "priority",3,2,false,"","guerdon/lawdiff",32⟩,⟨ "valid",63,3,false,"","guerdon/lawdiff",40⟩,⟨ "source",9,5,false,"","guerdon/lawdiff",56⟩]) zk zk (gS Sp rfl Md (fx (Gr underlying9) zo) (gS Sp rfl Md (fx (Gr underlying9) zo) (gS Sp rfl Sj (fx (jc underlying3) zo) (gS Sp rfl jN (fx eq63 zo) (og Sp rfl Md (fx (Gr underlying9) zo)) rfl) rfl) rfl) rfl)
def eg211:prog.eqGuardType prog.depth 211=false:=zk
abbrev Am:=(List aF)×(List Int)×cP
@[reducible] def dQ:RT Am:=(bF (ag aZ) (bF (ag (ay .i64)) gD))
def Lim:Ty prog 237 dQ:=Ty.mk_ underlying237 rfl zk
def z237:TyZero prog 237 dQ (([],([],(0,([],([],([],([],[]))))))):Am):=Gh
def pl237:lD prog 237=some [(0,1),(1,1),(2,6)]:=zk
def sgn:aB prog 237 0=some 0:=zk
def CF:Lens dQ 0 (ag aZ) (fun d=>d.1) (fun d x=>(x,d.2)):=YA
def ovS:aB prog 237 1=some 1:=zk
def HS:Lens dQ 1 (ag (ay .i64)) (fun d=>d.2.1) (fun d x=>(d.1,(x,d.2.2))):=J5
def inT:aB prog 237 2=some 2:=zk
def HR:Lens dQ 2 gD (fun d=>d.2.2) (fun d x=>(d.1,(d.2.1,x))):=FT
def ty284:Ty prog 284 (ag (ay .i64)):=Ty.mk_ underlying284 rfl zk
def pl310:lD prog 310=some [(0,1)]:=zk
def j9:aB prog 310 0=some 0:=zk
def MV:type_of% underlying3:=underlying3
def QT:type_of% underlying4:=underlying4
def Qf:type_of% underlying9:=underlying9
def mc:type_of% underlying22:=underlying22
def ju:type_of% underlying23:=underlying23
def ga:type_of% underlying24:=underlying24
def eV:type_of% underlying27:=underlying27
def qJ:type_of% underlying28:=underlying28
def pK:type_of% underlying33:=underlying33
def bT:type_of% underlying37:=underlying37
def xZ:type_of% underlying50:=underlying50
def Dw:type_of% underlying56:=underlying56
def cU:type_of% underlying61:=underlying61
def Ar:type_of% underlying68:=underlying68
def gp:type_of% underlying78:=underlying78
def fy:type_of% underlying79:=underlying79
def Dv:type_of% underlying82:=underlying82
def dI:type_of% underlying84:=underlying84
def gG:type_of% underlying101:=underlying101
def K7:type_of% underlying131:=underlying131
def m1:type_of% underlying154:=underlying154
def dY:type_of% underlying157:=underlying157
def G1:type_of% underlying205:=underlying205
def uT207:type_of% underlying207:=underlying207
def K6:type_of% underlying234:=underlying234
def jZ:type_of% underlying280:=underlying280
def nt:type_of% underlying283:=underlying283
def oy:type_of% underlying284:=underlying284
def uT375:type_of% underlying375:=underlying375
def dL(f:α→Bool)(xs:List α):Int:=match xs.findIdx? f with|some i=>(i:Int)|none=>-1
def jr{f:α→Bool}{k:Nat}(hk:k<xs.length)(ht:f xs[k]=true)(hn:∀i,(h:i<xs.length)→i<k→f xs[i]=false):dL f xs=(k:Int):=by
 unfold dL;have:xs.findIdx? f=some k:=by rw[afx];exact⟨hk,ht,fun j hj=>by rw[hn j zo hj];decide⟩
 rw[this]
def jq{f:α→Bool}(hn:∀i,(h:i<xs.length)→f xs[i]=false):dL f xs = -1:=by
 unfold dL;have:xs.findIdx? f=none:=by rw[List.findIdx?_eq_none_iff];intro x hx;obtain⟨i,hi,rfl⟩:=Fe.1 hx;exact hn i hi
 rw[this]
def lm(f:α→Bool)(xs:List α):decide (0≤dL f xs)=xs.any f:=by
 unfold dL;rw[MZ,decide_eq_true_iff,Oo];cases h:xs.findIdx? f with
 | none=>rw[List.findIdx?_eq_none_iff]at h;exact⟨fun q=>by simp at q,fun⟨x,h1,h2⟩=>by rw[h x h1]at h2;cases h2⟩
 | some i=>rw[afx]at h;obtain⟨h1,h2,_⟩:=h;exact⟨fun _=>⟨_,aA h1,h2⟩,fun _=>Sp⟩
def aeh(xs:List aF)(x:aF):Ct prog 118 [.tv (ag aZ) xs,.tv aZ x] (Sx (dL (fun y=>decide (x=y)) xs)):=by refine Yk func118 ntmps118 fun w0 ok0=>?_;refine fT 0 Z (fun hl0=>?_);refine Qy ?_;refine bf (ι:=Nat) (fun k=>⟨[(0,.tv (ag aZ) xs),(3,Sy 3 aZ),(7,Sx xs.length),(8,Sx ((k:Nat)))],[(3,⟨aZ,[x]⟩)]⟩) (fun k=>k≤xs.length∧∀i,(h:i<xs.length)→i<k→(fun y=>decide (x=y)) xs[i]=false) (fun k=>xs.length-k) 0 (⟨P8 _,fun i h g=>So⟩) (fun a w hi=>(zI hi)) ?_;rintro k ⟨hk,hno⟩;refine Z6 ?_ ?_<;>intro h2;have h2:k<xs.length:=MX;refine pA ?_;refine GP (iM RN Z Z RO (.tv (.b Z)) (.tv (.b Z))) (jd0 ?_);refine aa ?_;refine Z0 ?_ ?_<;>intro h4;have h4:(fun y=>decide (x=y)) xs[k]=true:=Yo;refine Y9 ?_;refine b8 (ax (al ?_));exact z1 results118 Z (ri (jr h2 h4 hno).symm);exact UK;have h2:k=xs.length:=MX;refine dy ?_;exact z1 results118 Z (ri (jq (fun i hi=>hno i hi zo)).symm)
def aei(xs:List aF)(x:aF):Ct prog 73 [.tv (ag aZ) xs,.tv aZ x] (.raw (.bool (xs.any (fun y=>decide (x=y))))):=by refine Yk func73 ntmps73 fun w0 ok0=>?_;refine Qh ?_;refine YK (aeh _ _) ?_;refine Y5 ?_;exact z1 results73 Z (rb (lm _ _))
def ab0(xs:List (List UInt8))(x:(List UInt8)):Ct prog 178 [.tv (ag du) xs,.raw (e6 x)] (Sx (dL (fun y=>decide (x=y)) xs)):=by refine Yk func178 ntmps178 fun w0 ok0=>?_;refine fT 0 Z (fun hl0=>?_);refine Lc ?_;refine bf (ι:=Nat) (fun k=>⟨[(0,.tv (ag du) xs),(1,.raw (e6 x)),(7,Sx xs.length),(8,Sx ((k:Nat)))],[]⟩) (fun k=>k≤xs.length∧∀i,(h:i<xs.length)→i<k→(fun y=>decide (x=y)) xs[i]=false) (fun k=>xs.length-k) 0 (⟨P8 _,fun i h g=>So⟩) (fun a w hi=>(zI hi)) ?_;rintro k ⟨hk,hno⟩;refine Z6 ?_ ?_<;>intro h2;have h2:k<xs.length:=MX;refine J4 ?_;refine zD Md Z (zJ (dV Qf (.b Z) (.b Z)) (zZ ?_));refine Z0 ?_ ?_<;>intro h4;have h4:(fun y=>decide (x=y)) xs[k]=true:=Yo;refine Y9 ?_;refine b8 (ax (al ?_));exact z1 results178 Z (ri (jr h2 h4 hno).symm);exact UK;have h2:k=xs.length:=MX;refine dy ?_;exact z1 results178 Z (ri (jq (fun i hi=>hno i hi zo)).symm)
def Y18(xs:List (List UInt8))(x:(List UInt8)):Ct prog 128 [.tv (ag du) xs,.raw (e6 x)] (.raw (.bool (xs.any (fun y=>decide (x=y))))):=by refine Yk func128 ntmps128 fun w0 ok0=>?_;refine Y9 ?_;refine YK (ab0 _ _) ?_;refine Y5 ?_;exact z1 results128 Z (rb (lm _ _))
def rSt(xs:List dN)(f:dN→Bool):Ct prog 181 [.tv (ag dl) xs,.tv (ov prog dl cq (fun _=>True)) f] (Sx (dL f xs)):=by refine Yk func181 ntmps181 fun w0 ok0=>?_;refine fT 0 Z (fun hl0=>?_);refine Lc ?_;refine bf (ι:=Nat) (fun k=>⟨[(0,.tv (ag dl) xs),(1,.tv (ov prog dl cq (fun _=>True)) f),(7,Sx xs.length),(8,Sx ((k:Nat)))],[]⟩) (fun k=>k≤xs.length∧∀i,(h:i<xs.length)→i<k→f xs[i]=false) (fun k=>xs.length-k) 0 (⟨P8 _,fun i h g=>So⟩) (fun a w hi=>(zI hi)) ?_;rintro k ⟨hk,hno⟩;refine Z6 ?_ ?_<;>intro h2;have h2:k<xs.length:=MX;refine J4 ?_;refine zD iR Z (zJ (ml (.b Z) (.tv (.b Z)) trivial) (zZ ?_));refine Z0 ?_ ?_<;>intro h4;have h4:f xs[k]=true:=Yo;refine Y9 ?_;refine b8 (ax (al ?_));exact z1 results181 Z (ri (jr h2 h4 hno).symm);exact U4;have h2:k=xs.length:=MX;refine dy ?_;exact z1 results181 Z (ri (jq (fun i hi=>hno i hi zo)).symm)
def bst(xs:List dN)(f:dN→Bool):Ct prog 135 [.tv (ag dl) xs,.tv (ov prog dl cq (fun _=>True)) f] (.raw (.bool (xs.any f))):=by refine Yk func135 ntmps135 fun w0 ok0=>?_;refine Y9 ?_;refine YK (rSt _ _) ?_;refine Y5 ?_;exact z1 results135 Z (rb (lm _ _))
def elE(xs:List bS)(f:bS→Bool):Ct prog 182 [.tv (ag b9) xs,.tv (ov prog b9 cq (fun _=>True)) f] (Sx (dL f xs)):=by refine Yk func182 ntmps182 fun w0 ok0=>?_;refine fT 0 Z (fun hl0=>?_);refine Lc ?_;refine bf (ι:=Nat) (fun k=>⟨[(0,.tv (ag b9) xs),(1,.tv (ov prog b9 cq (fun _=>True)) f),(7,Sx xs.length),(8,Sx ((k:Nat)))],[]⟩) (fun k=>k≤xs.length∧∀i,(h:i<xs.length)→i<k→f xs[i]=false) (fun k=>xs.length-k) 0 (⟨P8 _,fun i h g=>So⟩) (fun a w hi=>(zI hi)) ?_;rintro k ⟨hk,hno⟩;refine Z6 ?_ ?_<;>intro h2;have h2:k<xs.length:=MX;refine J4 ?_;refine zD eZ Z (zJ (ml (.b Z) (.tv (.b Z)) trivial) (zZ ?_));refine Z0 ?_ ?_<;>intro h4;have h4:f xs[k]=true:=Yo;refine Y9 ?_;refine b8 (ax (al ?_));exact z1 results182 Z (ri (jr h2 h4 hno).symm);exact U4;have h2:k=xs.length:=MX;refine dy ?_;exact z1 results182 Z (ri (jq (fun i hi=>hno i hi zo)).symm)
def chA(xs:List bS)(f:bS→Bool):Ct prog 137 [.tv (ag b9) xs,.tv (ov prog b9 cq (fun _=>True)) f] (.raw (.bool (xs.any f))):=by refine Yk func137 ntmps137 fun w0 ok0=>?_;refine Y9 ?_;refine YK (elE _ _) ?_;refine Y5 ?_;exact z1 results137 Z (rb (lm _ _))
def aej(xs:List aL)(f:aL→Bool):Ct prog 183 [.tv (ag bw) xs,.tv (ov prog bw cq (fun _=>True)) f] (Sx (dL f xs)):=by refine Yk func183 ntmps183 fun w0 ok0=>?_;refine fT 0 Z (fun hl0=>?_);refine Lc ?_;refine bf (ι:=Nat) (fun k=>⟨[(0,.tv (ag bw) xs),(1,.tv (ov prog bw cq (fun _=>True)) f),(7,Sx xs.length),(8,Sx ((k:Nat)))],[]⟩) (fun k=>k≤xs.length∧∀i,(h:i<xs.length)→i<k→f xs[i]=false) (fun k=>xs.length-k) 0 (⟨P8 _,fun i h g=>So⟩) (fun a w hi=>(zI hi)) ?_;rintro k ⟨hk,hno⟩;refine Z6 ?_ ?_<;>intro h2;have h2:k<xs.length:=MX;refine J4 ?_;refine zD dO Z (zJ (ml (.b Z) (.tv (.b Z)) trivial) (zZ ?_));refine Z0 ?_ ?_<;>intro h4;have h4:f xs[k]=true:=Yo;refine Y9 ?_;refine b8 (ax (al ?_));exact z1 results183 Z (ri (jr h2 h4 hno).symm);exact U4;have h2:k=xs.length:=MX;refine dy ?_;exact z1 results183 Z (ri (jq (fun i hi=>hno i hi zo)).symm)
def aek(xs:List aL)(f:aL→Bool):Ct prog 139 [.tv (ag bw) xs,.tv (ov prog bw cq (fun _=>True)) f] (.raw (.bool (xs.any f))):=by refine Yk func139 ntmps139 fun w0 ok0=>?_;refine Y9 ?_;refine YK (aej _ _) ?_;refine Y5 ?_;exact z1 results139 Z (rb (lm _ _))
def adf(xs:List Int)(x:Int):Ct prog 190 [.tv (ag (ay .i64)) xs,Sx x] (Sx (dL (fun y=>decide (x=y)) xs)):=by refine Yk func190 ntmps190 fun w0 ok0=>?_;refine fT 0 Z (fun hl0=>?_);refine Lc ?_;refine bf (ι:=Nat) (fun k=>⟨[(0,.tv (ag (ay .i64)) xs),(1,Sx x),(7,Sx xs.length),(8,Sx ((k:Nat)))],[]⟩) (fun k=>k≤xs.length∧∀i,(h:i<xs.length)→i<k→(fun y=>decide (x=y)) xs[i]=false) (fun k=>xs.length-k) 0 (⟨P8 _,fun i h g=>So⟩) (fun a w hi=>(zI hi)) ?_;rintro k ⟨hk,hno⟩;refine Z6 ?_ ?_<;>intro h2;have h2:k<xs.length:=MX;refine GJ ?_ ?_<;>intro h4;have h4:(fun y=>decide (x=y)) xs[k]=true:=Yo;refine Y9 ?_;refine b8 (ax (al ?_));exact z1 results190 Z (ri (jr h2 h4 hno).symm);exact UK;have h2:k=xs.length:=MX;refine dy ?_;exact z1 results190 Z (ri (jq (fun i hi=>hno i hi zo)).symm)
def Is0(xs:List Int)(x:Int):Ct prog 143 [.tv (ag (ay .i64)) xs,Sx x] (.raw (.bool (xs.any (fun y=>decide (x=y))))):=by refine Yk func143 ntmps143 fun w0 ok0=>?_;refine Y9 ?_;refine YK (adf _ _) ?_;refine Y5 ?_;exact z1 results143 Z (rb (lm _ _))
def rtF(xs:List dG)(f:dG→Bool):Ct prog 220 [.tv (ag dm) xs,.tv (ov prog dm cq (fun _=>True)) f] (Sx (dL f xs)):=by refine Yk func220 ntmps220 fun w0 ok0=>?_;refine fT 0 Z (fun hl0=>?_);refine Lc ?_;refine bf (ι:=Nat) (fun k=>⟨[(0,.tv (ag dm) xs),(1,.tv (ov prog dm cq (fun _=>True)) f),(7,Sx xs.length),(8,Sx ((k:Nat)))],[]⟩) (fun k=>k≤xs.length∧∀i,(h:i<xs.length)→i<k→f xs[i]=false) (fun k=>xs.length-k) 0 (⟨P8 _,fun i h g=>So⟩) (fun a w hi=>(zI hi)) ?_;rintro k ⟨hk,hno⟩;refine Z6 ?_ ?_<;>intro h2;have h2:k<xs.length:=MX;refine J4 ?_;refine zD jM Z (zJ (ml (.b Z) (.tv (.b Z)) trivial) (zZ ?_));refine Z0 ?_ ?_<;>intro h4;have h4:f xs[k]=true:=Yo;refine Y9 ?_;refine b8 (ax (al ?_));exact z1 results220 Z (ri (jr h2 h4 hno).symm);exact U4;have h2:k=xs.length:=MX;refine dy ?_;exact z1 results220 Z (ri (jq (fun i hi=>hno i hi zo)).symm)
def Bz(xs:List dG)(f:dG→Bool):Ct prog 185 [.tv (ag dm) xs,.tv (ov prog dm cq (fun _=>True)) f] (.raw (.bool (xs.any f))):=by refine Yk func185 ntmps185 fun w0 ok0=>?_;refine Y9 ?_;refine YK (rtF _ _) ?_;refine Y5 ?_;exact z1 results185 Z (rb (lm _ _))
def elT(xs:List ba)(f:ba→Bool):Ct prog 221 [.tv (ag ct) xs,.tv (ov prog ct cq (fun _=>True)) f] (Sx (dL f xs)):=by refine Yk func221 ntmps221 fun w0 ok0=>?_;refine fT 0 Z (fun hl0=>?_);refine Lc ?_;refine bf (ι:=Nat) (fun k=>⟨[(0,.tv (ag ct) xs),(1,.tv (ov prog ct cq (fun _=>True)) f),(7,Sx xs.length),(8,Sx ((k:Nat)))],[]⟩) (fun k=>k≤xs.length∧∀i,(h:i<xs.length)→i<k→f xs[i]=false) (fun k=>xs.length-k) 0 (⟨P8 _,fun i h g=>So⟩) (fun a w hi=>(zI hi)) ?_;rintro k ⟨hk,hno⟩;refine Z6 ?_ ?_<;>intro h2;have h2:k<xs.length:=MX;refine J4 ?_;refine zD dh Z (zJ (ml (.b Z) (.tv (.b Z)) trivial) (zZ ?_));refine Z0 ?_ ?_<;>intro h4;have h4:f xs[k]=true:=Yo;refine Y9 ?_;refine b8 (ax (al ?_));exact z1 results221 Z (ri (jr h2 h4 hno).symm);exact U4;have h2:k=xs.length:=MX;refine dy ?_;exact z1 results221 Z (ri (jq (fun i hi=>hno i hi zo)).symm)
def rwA(xs:List ba)(f:ba→Bool):Ct prog 186 [.tv (ag ct) xs,.tv (ov prog ct cq (fun _=>True)) f] (.raw (.bool (xs.any f))):=by refine Yk func186 ntmps186 fun w0 ok0=>?_;refine Y9 ?_;refine YK (elT _ _) ?_;refine Y5 ?_;exact z1 results186 Z (rb (lm _ _))
def Bs(b:UInt8):Bool:=decide (97≤b.toNat)&&decide (b.toNat≤122)
def EQ(b:UInt8):Bool:=decide (48≤b.toNat)&&decide (b.toNat≤57)
def Aw(b:UInt8):Bool:=Bs b||EQ b||decide (b.toNat=95)
def PK(s:List UInt8):Nat:=(s.takeWhile Aw).length
def ac4{s:List UInt8}{k:Nat}(hk:k≤s.length)(hy:∀i,(h:i<s.length)→i<k→Aw s[i]=true)(hn:∀h:k<s.length,Aw s[k]=false):PK s=k:=by
 unfold PK;have e:s=s.take k++s.drop k:=(N4 k s).symm;have h1:∀x∈s.take k,Aw x=true:=fun x hx=>by obtain⟨i,hi,rfl⟩:=Fe.1 hx;simp at hi;simp only[List.getElem_take];exact hy i zo zo
 have h2:(s.drop k).takeWhile Aw=[]:=by by_cases c:k<s.length;rw[qv c,List.takeWhile_cons,hn c];rfl;rw[KD zo];rfl
 rw[e,List.takeWhile_append_of_pos h1,h2];simp;omega
def EP(b:UInt8):Ct prog 132 [.raw (.int .u8 ((b.toNat:Int)))] (.raw (.bool (Bs b))):=by refine Yk func132 ntmps132 fun w0 ok0=>?_;refine pA ?_;exact z1 results132 Z (rb (by unfold Bs;rw[MZ];simp;omega))
def jeg(b:UInt8):Ct prog 180 [.raw (.int .u8 ((b.toNat:Int)))] (.raw (.bool (EQ b))):=by refine Yk func180 ntmps180 fun w0 ok0=>?_;refine pA ?_;exact z1 results180 Z (rb (by unfold EQ;rw[MZ];simp;omega))
def Z16(s:List UInt8)(hl:s.length≤9223372036854775807):Ct prog 133 [.raw (e6 s)] (Sx (PK s:Int)):=by
 refine Yk func133 ntmps133 fun w0 ok0=>?_;refine zb ?_;refine bf (ι:=Nat) (fun k=>⟨[(0,.raw (e6 s)),(3,Sx ((k:Nat)))],[]⟩) (fun k=>k≤s.length∧∀i,(h:i<s.length)→i<k→Aw s[i]=true) (fun k=>s.length-k) 0 (⟨P8 _,fun i h g=>So⟩) (fun a w hi=>(zI hi)) ?_;rintro k ⟨hk,hy⟩;refine Y5 ?_;refine zJ (fI Qf (.b Z)) (Y4 ?_);refine zG rfl rfl (fun hg=>nj Qf (.gd rfl hg) (.gd rfl hg) rfl (getD_some (z:=(0:UInt8)) aaa)) (zG rfl rfl (fun hg=>an (EP _) (.cons (.gd rfl hg) .nil) rfl rfl) (zG rfl rfl (fun hg=>ai (.gd rfl hg)) ?_));refine Y2 ?_;refine cf _ _ _ _ _ _ _ rfl rfl rfl rfl rfl (fun hg=>nj Qf (.gd rfl hg) (.gd rfl hg) rfl (getD_some (z:=(0:UInt8)) aaa)) ?_;refine cf _ _ _ _ _ _ _ Z Z Z Z Z (fun hg=>an (jeg _) (.cons (.gd Z hg) .nil) Z Z) ?_;refine Y1 ?_;refine zG Z Z (fun hg=>ai (.gd Z hg)) ?_;refine Y2 ?_;refine cf _ _ _ _ _ _ _ rfl rfl rfl rfl rfl (fun hg=>nj Qf (.gd rfl hg) (.gd rfl hg) rfl (getD_some (z:=(0:UInt8)) aaa)) ?_;refine Z5 ?_ ?_<;>intro h2;have h2a:k<s.length:=by by_cases c:k<s.length;exact c;simp[show ¬((k:Int)<(s.length:Int))by omega]at h2
 have h2b:Aw s[k]=true:=by simp[h2a,zy]at h2;unfold Aw;cases e1:Bs s[k]<;>cases e2:EQ s[k]<;>simp[e1,e2]at h2⊢<;>omega
 have hy1:∀i,(h:i<s.length)→i<k+1→Aw s[i]=true:=fun i hi g=>by by_cases e:i=k;subst e;exact h2b;exact hy i hi zo
 refine Y9 ?_;exact ZU;have h2:∀h:k<s.length,Aw s[k]=false:=fun h=>by simp[h,zy]at h2;unfold Aw;cases e1:Bs s[k]<;>cases e2:EQ s[k]<;>simp[e1,e2]at h2⊢<;>omega
 refine zb ?_;exact z1 results133 Z (ri (by rw[ac4 hk hy h2]))
def aW(op:Int):Int:=
 if(1≤op∧op≤9)∨(35≤op∧op≤39)then 0
 else if op=10∨op=25∨(31≤op∧op≤34)then 1
 else if op=26 then 3
 else if 11≤op∧op≤30 then 2 else -1
def ot(op:Int):-1≤aW op∧aW op≤3:=by unfold aW;(repeat' split)<;>omega
def iq(L:Int):List aF→Nat→List Int→List Int→List Int×Int×Int
 | [],_,stack,starts=>if 1<stack.length then([],L,4)else(starts,0,0)
 | n::r,i,stack,starts=>
  if aW n.1<0 then([],i,2)
  else if(stack.length:Int)<aW n.1 then([],i,5)
  else if 12<(stack.take (stack.length-aW n.1).toNat).length+1 then([],i,16)
  else iq L r (i+1) (stack.take (stack.length-aW n.1).toNat++[if 0<aW n.1 then stack[(stack.length-aW n.1).toNat]?.getD 0 else i])
   (starts++[if 0<aW n.1 then stack[(stack.length-aW n.1).toNat]?.getD 0 else i])
def bK(e:List aF):List Int×Int×Int:=
 if 48<e.length then([],0,4)else if e.length=0 then([],0,5)else iq e.length e 0 [] []
def xb{k:Nat}(x:Int)(h:starts.length=k)(hk:k<m):(starts++List.replicate (m-k) 0).set k x=starts++[x]++List.replicate (m-(k+1)) 0:=by have e:m-k=(m-(k+1))+1:=So;rw[e,List.replicate_succ,←h,afp _ _ (Kl _)];simp
def scD{R:List Int}{k:Nat}(x y:Int)(h:starts.length=k):(starts++[x]++R).set k y=starts++[y]++R:=by rw[←h,F3,afp _ _ (Kl _)];simp
def xz{R:List Int}{k:Nat}(x:Int)(h:starts.length=k){g:k<(starts++[x]++R).length}:(starts++[x]++R)[k]=x:=by subst h;simp
def pN(L:Int){e:List aF}{k:Nat}{stack:List Int}(hk:k<e.length)(ha:0≤aW e[k].1)(hb:aW e[k].1≤(stack.length:Int))(hc:(stack.length-aW e[k].1).toNat+1≤12)(frm:Int)(hf:frm=if 0<aW e[k].1 then stack[(stack.length-aW e[k].1).toNat]?.getD 0 else k):
 iq L (e.drop k) k stack starts=iq L (e.drop (k+1)) (k+1) (stack.take (stack.length-aW e[k].1).toNat++[frm]) (starts++[frm]):=by rw[qv hk,iq,zE zo,zE zo,zE (by simp only[KC];omega),←hf]
def sv3(R:List Int×Int×Int):SV:=.tup3 (.tv (ag (ay .i64)) R.1) (Sx R.2.1) (Sx R.2.2)
def qV{R:List Int×Int×Int}{a:List Int}{b c:Int}(h:(a,b,c)=R):SV.tup3 (.tv (ag (ay .i64)) a) (Sx b) (Sx c)=sv3 R:=Mc
def sv2(R:List Int×Int):SV:=.tup2 (.tv (ag (ay .i64)) R.1) (Sx R.2)
def ff{t:Nat}(h:bg st.slots t=some (.raw (.slice none 0 0))):xA P cx st (.tmp t) (.tv (ag rt) []):=fun β a w hi=>by exact Wq
def kj(op:Int):Ct prog 115 [Sx op] (Sx (aW op)):=by
 refine Yk func115 ntmps115 fun w0 ok0=>?_;refine E0 ?_;iterate 12 (
  refine Z0 ?_ ?_<;>intro h
  ·exact Vi
  have g:=h;try simp at h
  refine Y5 ?_
  refine aa ?_)
 refine Z0 ?_ ?_<;>intro h;exact Vi;have g:=h;try simp at h
 refine Z5 ?_ ?_<;>intro h;exact VA;have g:=h;try simp at h
 refine Y7 ?_;iterate 4 (
  refine Z0 ?_ ?_<;>intro h
  ·exact Vi
  have g:=h;try simp at h
  refine Y5 ?_
  refine aa ?_)
 refine Z0 ?_ ?_<;>intro h;exact Vi;have g:=h;try simp at h
 refine Z5 ?_ ?_<;>intro h;exact VA;have g:=h;try simp at h
 refine Y7 ?_;iterate 16 (
  refine Z0 ?_ ?_<;>intro h
  ·exact Vi
  have g:=h;try simp at h
  refine Y5 ?_
  refine aa ?_)
 refine Z0 ?_ ?_<;>intro h;exact Vi;have g:=h;try simp at h
 refine Z5 ?_ ?_<;>intro h;exact VA;have g:=h;try simp at h
 refine Z6 ?_ ?_<;>intro h
 ·try simp at h
  refine Y8 ?_;exact VY
 try simp at h
 refine Y9 ?_;exact VY
def uh(e:List aF):Ct prog 113 [.tv (ag aZ) e] (sv3 (bK e)):=by
 refine Yk func113 ntmps113 fun w0 ok0=>?_;refine fT 0 Z (fun hl0=>?_);refine Ks ?_ ?_<;>intro h1
 ·try simp at h1
  refine Y9 ?_;exact db results113 (ff Z) (ar Z) (ar Z) ⟨Z,Z,Z⟩ (qV (by unfold bK;rw[Cg zo]))
 try simp at h1
 refine wz ?_ ?_<;>intro h3
 ·try simp at h3
  refine Y9 ?_;exact db results113 (ff Z) (ar Z) (ar Z) ⟨Z,Z,Z⟩ (qV (by subst h3;rfl))
 simp at h3;have h3':e.length≠0:=Av;refine Y6 ?_;refine zO (fM bT Sj z3 Z J7 (.b Z) (.b Z) zo Kw rfl rfl rfl) (pA ?_);refine jF 64 6 (ay .i64) Z Z Z ?_;refine bf (ι:=(Nat×List Int×List Int)) (fun(k,stack,starts)=>⟨[(0,.tv (ag aZ) e),(5,.own 18 1 0 e.length),(6,.own 64 1 0 stack.length),(19,.tv (ag aZ) e),(20,Sx e.length),(21,Sx ((k:Nat)))],[(18,⟨ay .i64,starts++List.replicate (e.length-k) 0⟩),(64,⟨ay .i64,stack⟩)]⟩) (fun(k,stack,starts)=>k≤e.length∧starts.length=k∧stack.length≤12∧iq e.length (e.drop k) k stack starts=bK e) (fun(k,stack,starts)=>e.length-k) (0,[],[]) (by refine⟨P8 _,rfl,Sp,?_⟩;unfold bK;rw[zE zo,zE zo];rfl) (fun a w hi=>(zI hi)) ?_;rintro⟨k,stack,starts⟩⟨hk,hs,hst,hp⟩;refine Z6 ?_ ?_<;>intro h8
 ·try simp at h8
  refine Ki ?_;refine YK (kj _) ?_;refine wz ?_ ?_<;>intro h11
  ·try simp at h11
   refine zb ?_;refine b8 (ax (al ?_));exact db results113 (ff Z) (ar Z) (ar Z) ⟨Z,Z,Z⟩ (qV (by rw[←hp,qv zo];rw[iq,Cg zo]))
  try simp at h11
  refine Jf ?_ ?_<;>intro h13
  ·try simp at h13
   refine zb ?_;refine b8 (ax (al ?_));exact db results113 (ff Z) (ar Z) (ar Z) ⟨Z,Z,Z⟩ (qV (by rw[←hp,qv zo];rw[iq,zE zo,Cg zo]))
  try simp at h13
  refine Y8 ?_;refine gV _ Z (bH Sj (.b Z) Z zg (Lens.id _) (.raw (.b Z) Z)) ?_;refine zQ [0,5,6,7,9,19,20,21] [18,64] (aa (ac (zR ?_)));refine Z4 ?_ ?_<;>intro h16
  ·try simp at h16
   refine Y8 ?_;refine zJ (bk bT Sj (.b Z) (.b Z) (J1 zo).symm zh) ?_;refine bi _ Z _ Z Z (ah Sj (.b Z) Z zg (Lens.id _)) ?_;refine Y1 ?_;refine gV _ Z (bH Sj (.b Z) Z zg (Lens.id _) (.raw (.b Z) Z)) ?_;refine zZ (ac ?_);exact SC
  try simp at h16
  refine Y3 ?_;exact SC
 try simp at h8
 refine sm ?_ ?_<;>intro h22
 ·try simp at h22
  refine dy ?_;exact db results113 (ff Z) (ar Z) (ar Z) ⟨Z,Z,Z⟩ (qV (by rw[←hp,KD zo,iq,Cg zo]))
 try simp at h22
 refine dy ?_;refine e8 18 2 [] Z Z QE (fun j s h=>by cases h) rfl ?_;exact db results113 (ar Z) (ar Z) (ar Z) ⟨Z,Z,Z⟩ (qV (by rw[←hp,KD (show e.length≤k by omega),iq,zE zo];have e1:e.length-k=0:=zo;rw[e1,List.replicate_zero,Nk,Pv,fV zo]))
def fd(op:Int):Bool:=decide ((1≤op∧op≤8)∨(14≤op∧op≤16)∨op=33∨op=34∨(36≤op∧op≤39))
def iX(m:Int):Bool:=decide (0≤m)&&decide (m≤5)
def eT(k:Int):Bool:=decide (2≤k∧k≤4)
def aP(t:ce)(en:List dN):Bool:=if 1≤t.1∧t.1≤5 then decide (t.2=0)else if t.1=6 then decide (0≤t.2)&&decide (t.2<en.length)else false
def Dt(op:Int):Ct prog 114 [Sx op] (.raw (.bool (fd op))):=by
 refine Yk func114 ntmps114 fun w0 ok0=>?_;refine E0 ?_;iterate 15 (
  refine Z0 ?_ ?_<;>intro h
  ·exact Uh
  have g:=h;try simp at h
  refine Y5 ?_
  refine aa ?_)
 refine Z0 ?_ ?_<;>intro h;exact Uh;have g:=h;try simp at h
 refine Z5 ?_ ?_<;>intro h
 ·have g:=h;try simp at h
  refine Y8 ?_;exact U5
 have g:=h;try simp at h
 refine Y9 ?_;exact U5
def m4(op:Int):Ct prog 159 [Sx op] (.raw (.bool (iX op))):=by refine Yk func159 ntmps159 fun w0 ok0=>?_;refine pA ?_;exact z1 results159 rfl (rb (by subst_vars;first|rfl|(simp[iX];done)|(simp[iX, *];done)|(rw[MZ];simp[iX, *];omega)|(rw[MZ];simp[iX];omega)|(unfold iX;simp;omega)|(unfold iX;(repeat' split)<;>first|rfl|omega|simp_all)))
def iJ(op:Int):Ct prog 208 [Sx op] (.raw (.bool (eT op))):=by refine Yk func208 ntmps208 fun w0 ok0=>?_;refine KO ?_;exact z1 results208 rfl (rb (by subst_vars;first|rfl|(simp[eT];done)|(simp[eT, *];done)|(rw[MZ];simp[eT, *];omega)|(rw[MZ];simp[eT];omega)|(unfold eT;simp;omega)|(unfold eT;(repeat' split)<;>first|rfl|omega|simp_all)))
def fc(t:ce)(en:List dN):Ct prog 74 [.tv bt t,.tv (ag dl) en] (.raw (.bool (aP t en))):=by
 refine Yk func74 ntmps74 fun w0 ok0=>?_;refine fT 1 Z (fun hl0=>?_);refine rZ ?_ ?_<;>intro h2
 ·have g2:=h2;try simp at h2
  refine ak (aa ?_);refine bR Z g2 (ac ?_);exact UX
 have g2:=h2;try simp at h2
 refine Z6 ?_ ?_<;>intro h3
 ·have g3:=h3;try simp at h3
  refine ak (aa ?_);refine bR Z g3 (ac ?_);exact UX
 have g3:=h3;try simp at h3
 refine Z6 ?_ ?_<;>intro h4
 ·have g4:=h4;try simp at h4
  refine ak (aa ?_);refine bR Z g4 (ac ?_);exact UX
 have g4:=h4;try simp at h4
 refine Z6 ?_ ?_<;>intro h5
 ·have g5:=h5;try simp at h5
  refine ak (aa ?_);refine bR Z g5 (ac ?_);exact UX
 have g5:=h5;try simp at h5
 refine Z5 ?_ ?_<;>intro h6
 ·have g6:=h6;try simp at h6
  refine dy ?_;exact U6
 have g6:=h6;try simp at h6
 refine Z6 ?_ ?_<;>intro h8
 ·try simp at h8
  refine Ki ?_;exact U6
 try simp at h8
 refine Y9 ?_;exact U6
def vH(e:List aF):Ct prog 78 [.tv (ag aZ) e] (sv2 ((bK e).1,(bK e).2.2)):=by refine Yk func78 ntmps78 fun w0 ok0=>?_;refine Y9 ?_;refine YK (uh e) ?_;refine zM Z (zJ (eS (.b Z)) (zJ (eR (.b Z)) (zJ (eQ (.b Z)) (Lc ?_))));exact z2 results78 Z Z Z
end Go.Eng
