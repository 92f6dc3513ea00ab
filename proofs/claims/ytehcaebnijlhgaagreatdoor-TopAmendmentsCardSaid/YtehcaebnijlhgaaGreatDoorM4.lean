import Derived.Laws.Small
import Derived.Laws.BytesArg
import Derived.Laws.Strings
import Derived.OpenShut
import Derived.ChangeOld
import Derived.Lib.SlicesCompact
import Derived.Lib.RowBridge
import Derived.Laws.Bits64
import Derived.Shelf.GgSortFunc.RowK
import Derived.Sort.AssemblyPlain
import Derived.Lib.Bits
import Derived.Maps.OwnSet
import Derived.Maps.RangeWalk
import Derived.Carry
import Derived.Test.YtehcaebnijlhgaaGreatDoorM3
set_option linter.all false
set_option maxRecDepth 100000
set_option maxHeartbeats 9000000
namespace Go.Eng
variable{A:Option Addr}{γ δ α ε:Type}{B r1:RT γ}{P:Program}{R hs ks:List Nat}{T hp hp0:List (Nat×HB)}{a:Act}{aft:Array Edge}{b c0 cap d i j m n nb nm off sz:Nat}{c:Code}{cx:Cx}{d1:γ}{d2:δ}{ds:List (Option (Option Addr×Nat×Nat))}{dst:Option Tmp}{e t ty yt:TypeId}{enc:α→List Value}{f:Option Addr×Nat×Nat→δ}{fn:Func}{gd:Option (Nat×Bool)}{hds:List (Option Addr×Nat×Nat)}{k:Kn}{kk ky:IntKind}{l:List Oper}{obj:Obj}{ok:Ok}{om:Oper}{ops:Array Oper}{p:List UInt8}{pos:String}{q:Int}{r0:RT ε}{r2:RT δ}{rt:RT α}{st st':St}{ts:Array TypeId}{u v:Value}{w w':World}{x y:Operand}{xs ys:List α}{xss:List (List α)}{β:Loc}{φ:α→Prop}
section
def kJ{p q:Bool}(ht:P.underlying t=some .bool)(hx:Ev st x (.raw (.bool p)))(hy:Ev st y (.raw (.bool q))):
 aH P cx st ⟨dst,.binOp .eql t x y yt,ty,pos,aft,gd⟩ (.raw (.bool (p==q))):=
 bz fun st' hag β a w hi=>⟨_,by have h1:=hi.raw (hag.ev aT hx);have h2:=hi.raw (hag.ev aT hy);simp[execOp,h1,h2,eqGuard_at_bool,run_eql_bool _ _ _ _ ht],rfl⟩
def yu{p:Int}(hx:Ev st x (.raw (.int kk p)))(hy:Ev st y (.raw (.int kk q))):
 aH P cx st ⟨dst,.call {callee:=.builtin .min,args:=#[x,y],argTypes:=ts},ty,pos,aft,gd⟩ (.raw (.int kk (if q<p then q else p))):=
 bz fun st' hag β a w hi=>⟨_,by have h1:=hi.raw (hag.ev ug hx);have h2:=hi.raw (hag.ev ug hy);simp[execOp,resolve,invoke,builtin,h1,h2,run_min_int2],rfl⟩
def mQ{p:Int}(hx:Ev st x (.raw (.int kk p)))(hy:Ev st y (.raw (.int kk q))):
 aH P cx st ⟨dst,.call {callee:=.builtin .max,args:=#[x,y],argTypes:=ts},ty,pos,aft,gd⟩ (.raw (.int kk (if p<q then q else p))):=
 bz fun st' hag β a w hi=>⟨_,by have h1:=hi.raw (hag.ev ug hx);have h2:=hi.raw (hag.ev ug hy);simp[execOp,resolve,invoke,builtin,h1,h2,run_max_int2],rfl⟩
end
section
def asc{d:α}:(SV.of rt d).plain=true:=by unfold SV.of;split<;>rfl
def ov(P:Program)(A:RT α)(B:RT γ)(φ:α→Prop):RT (α→γ) where
 n:=1
 agg:=false
 raw _:=none
 rep w ok cs f:=∃g caps,cs=[.func (.func g) #[] caps]∧(∀w args,(callFunc g args).run P w=.ok (.enter g args) w)∧
  ∀(w':World) (ok':Ok),(∀b,ok b→ok' b∧w'.heap[b]?=w.heap[b]?)→OkP w' ok'→∀x v,φ x→A.val w' ok' v x→Calls P g (#[v]++caps) w' (Di (Cx.of w' ok' 0) (SV.of B (f x)))
 len:=by rintro w ok cs d ⟨g,caps,rfl,_⟩;rfl
 one:=by rintro w ok cs d ⟨g,caps,rfl,_⟩ v hv;simp at hv;simp[hv,Value.oneCell']
 keep:=by
  rintro w w' ok ok' cs d h ⟨g,caps,rfl,h1,h2⟩
  exact⟨g,caps,rfl,h1,fun w2 ok2 h3=>h2 w2 ok2 fun b hb=>⟨(h3 b (h b hb).1).1,(h3 b (h b hb).1).2.trans (h b hb).2⟩⟩
 scal _:=rfl
 exact_ h:=ob
 exact' h:=ob
def tq:∀{aS:List SV} {vs:List Value} {ok ok':Ok},(aS.all SV.plain)=true→(∀b,ok b→ok' b∧w'.heap[b]?=w.heap[b]?)→gh w ok aS vs→gh w' ok' aS vs
 | [],_,_,_,_,_,h=>h
 | _::_,_,_,_,hp,hk,⟨v,vr,h1,h2,h3⟩=>by simp only[LO,YC]at hp;exact⟨v,vr,h1,SV.plain_keep hp.1 hk h2,tq hp.2 hk h3⟩
def j7{g:FuncId}{A:RT α}(f:α→γ){xs:List Operand}{aS:List SV}(hent:∀w args,(callFunc g args).run P w=.ok (.enter g args) w)
 (h:∀x,φ x→Ct P g (SV.of A x::aS) (SV.of B (f x))) (ha:Args st xs aS) (hp:(aS.all SV.plain)=true):aH P cx st ⟨dst,.makeFunc (.func g) #[] xs.toArray,ty,pos,aft,gd⟩ (.tv (ov P A B φ) f):=
 bz fun st' hag β a w hi=>by have hargs:=ha.holds (cx:=cx) (β:=β) (a:=a) (w:=w) (st':=st') (fun x hx=>hag.ops x (by simp[Op.operands,hx])) hi hp;refine⟨.func (.func g) #[] (xs.map a.eval).toArray,by simp[execOp,Instr.makeFunc],_,⟨g,_,rfl,hent,fun w' ok' hk hok x v hx hv=>?_⟩,rfl⟩;have:=(h x hx).calls w' ok' (v::xs.map a.eval) hok ⟨_,_,rfl,jz hv,tq hp hk hargs⟩;simpa using this
def adM{A:RT α}{f:α→γ}(h:(SV.tv (ov P A B φ) f).holds β w ok v):∃g caps,v=.func (.func g) #[] caps∧(∀w args,(callFunc g args).run P w=.ok (.enter g args) w)∧
 ∀(w':World) (ok':Ok),(∀b,ok b→ok' b∧w'.heap[b]?=w.heap[b]?)→OkP w' ok'→∀x v,φ x→A.val w' ok' v x→Calls P g (#[v]++caps) w' (Di (Cx.of w' ok' 0) (SV.of B (f x))):=by obtain⟨cs,⟨g,caps,rfl,h1,h2⟩,rfl⟩:=h;exact⟨g,caps,rfl,h1,h2⟩
def ac9{r:SV}(hr:r.plain=true)(hdn:d<cx.n)(hi:InvB cx st β a w)(hb:Below w.heap.size w w')(hv:r.holds qI w' (Nd (Cx.of w (bY cx st.heap β w) 0) w') v):Inv cx (st.put d r) (a.put (some d) v) w':=by have hl:=hi.later hb;refine⟨β,hl.put hdn (SV.plain_keep hr (fun b hb'=>⟨⟨?_,hb'.2,?_⟩,rfl⟩) hv)⟩;exact WH;exact Wa
def ml{A:RT α}{f:α→γ}{d:α}(hf:Ev st y (.tv (ov P A B φ) f))(hx:Rd st x A d)(hφ:φ d):
 aH P cx st ⟨dst,.call {callee:=.value y,args:=#[x],argTypes:=ts},ty,pos,aft,gd⟩ (SV.of B (f d)):=by
 intro st' hag d' hd hdn a w ⟨β,hi⟩ Q;obtain⟨g,caps,h1,h2,h3⟩:=adM (hi.ev (hag.ev ug hf));have hv:=(hx.tr (hag.ops x ug)).val hi;have hrun:(execOp a.eval ⟨dst,.call {callee:=.value y,args:=#[x],argTypes:=ts},ty,pos,aft,gd⟩).run P w=.ok (.enter g (#[a.eval x]++caps)) w:=by simp[execOp,resolve,h1,Deferred.ofValue,invoke,h2]
 unfold Oper.wp;rw[hrun,Oper.upon_enter];refine(h3 w _ (fun b hb=>⟨hb,rfl⟩) hi.okP d _ hφ hv).mono ?_;rintro e w' ⟨v,rfl,hb,hv⟩;have hb:=hb.plain (fun _ h=>h);subst hd;exact ac9 asc hdn hi hb hv
def kX{T:TypeId}[NM rt]{z:α}(hx:Rd st x rt z):aH P cx st ⟨dst,.box T x,ty,pos,aft,gd⟩ (.eptr rt z):=
 wk fun st' hag β a w hi=>by have hval:=(hx.tr (hag.ops x aT)).val hi;have hb:Below w.heap.size w (w.alloc (.cells (a.eval x).cells T)):=(Below.refl _ _).alloc (Kl _) _;refine⟨_,_,by simp[execOp,Instr.box,newVar,newRow],hb,w.heap.size,0,(a.eval x).cells.toList,rfl,⟨.inr (.inl hi.below.size),Sp,fun nm hb hh y hy e1=>by have:=(hi.own nm hb hh y hy).2;omega⟩,?_,fun j v hj=>?_⟩;exact rt.keep (fun b hb'=>⟨⟨hb'.1,by simp;have:=hb'.2.1;omega,hb'.2.2⟩,hb.block b hb'.2.1⟩) (rt.val_cells hval);rw[World.cell?_alloc_new];simpa using hj
def ada[NM rt]{x:α}(hs:bg st.slots i=some (.optr nm rt.n 0 0))(hn:aG st.heap nm=some ⟨rt,[x]⟩)(hsub:∀j s,aG hp j=some s→aG st.heap j=some s)(hno:aG hp nm=none)(hi:Inv cx st a w):
 Inv cx ⟨(i,.eptr rt x)::st.slots,hp⟩ a w:=by obtain⟨β,hb⟩:=hi;have hok:∀b,bY cx st.heap β w b→bY cx hp β w b:=fun b ⟨h1,h2,h3⟩=>⟨h1,h2,fun k h hk=>h3 k h (hsub _ _ hk)⟩;have hb':InvB cx ⟨st.slots,hp⟩ β a w:=hb.toHeap hsub;obtain⟨v,h1,b,o,h2,h3⟩:=hb.slots i _ hs;refine⟨β,hb'.below,hb'.old,hb'.defers,hb'.size,hb'.own,hb'.sep,hb'.rows,fun j s hj=>?_⟩;simp only[bC]at hj;split at hj;rename_i e1;subst e1;injection hj with hj;subst hj;obtain⟨cur,e,h4,h5,h6⟩:=jS hb hn h2;obtain⟨cs,h7,h8⟩:=h6 0 x rfl;have hown:=hb.own nm _ hn _ h2;refine⟨v,h1,b,o,cs,Av,⟨.inr hown.1,hown.2,fun k h hk y hy e1=>?_⟩,rt.keep (fun b h=>⟨hok b h,rfl⟩) h7,fun j u hj=>?_⟩;have:k=nm:=hb.sep k nm _ _ (hsub _ _ hk) hn y (b,o) hy h2 e1;subst this;rw[hno]at hk;cases hk;have:=h8 j u hj;simp only[Jc,M6]at this;simp[World.cell?,h4,this];exact hb'.slots j s hj
def uK(nm i:Nat)[NM rt]{x:α}(hp:List (Nat×HB))(hs:bg st.slots i=some (.optr nm rt.n 0 0))(hn:aG st.heap nm=some ⟨rt,[x]⟩)(hsub:∀j s,aG hp j=some s→aG st.heap j=some s)(hno:aG hp nm=none)
 (h:J P cx ⟨(i,.eptr rt x)::st.slots,hp⟩ c k):J P cx st c k:=fun a w hi=>h a w (ada hs hn hsub hno hi)
def wn(rt:RT α)(w w':World)(ok:Ok)(xs:List α)(v:Value):Prop:=
 (xs=[]∧v=.slice none 0 0)∨∃A b o cap cur e,v=.slice A xs.length cap∧((xs=[]∧cap=0)∨A=some ⟨b,o,none⟩)∧xs.length≤cap∧cap≤maxLen∧w.heap.size≤b∧w'.heap[b]?=some (.cells cur e (0,0))∧o+cap*rt.n≤cur.size∧
  ∀i x,xs[i]?=some x→∃cs,rt.rep w' (fun b'=>ok b'∧b'≠b) cs x∧∀j v,cs[j]?=some v→cur[o+i*rt.n+j]?=some v
structure CtO(P:Program)(k:FuncId)(aS:List SV)(rt:RT α)(xs:List α):Prop where
 ent:∀w args,(callFunc k args).run P w=.ok (.enter k args) w
 calls:∀w ok0 vs,OkP w ok0→gh w ok0 aS vs→Calls P k vs.toArray w (fun e w'=>∃v,e=.returned v∧BelowX (fun _=>False) w.heap.size w w'∧wn rt w w' (Nd (Cx.of w ok0 0) w') xs v)
def inN(hi:InvB cx st β a w)[NM rt](hn:aG st.heap nm=some ⟨rt,xs⟩)(hv:Yq β w nm rt.n off n v)(hle:off+n≤xs.length)(hex:∀b,¬cx.ex b):wn rt cx.w0 w (Nd cx w) ((xs.drop off).take n) v:=by
 have hr:=hi.rows nm _ hn;have hlen:((xs.drop off).take n).length=n:=QE;unfold Yq at hv;cases hb:β nm with
 | none=>rw[hb]at hv hr;refine .inl ⟨by rw[hv.2];simp,hv.1⟩
 | some q=>
  obtain⟨b,o⟩:=q;rw[hb]at hv hr;obtain⟨A,cap,g1,g2,g3,g4⟩:=hv;have hown:cx.w0.heap.size≤b∧b<w.heap.size:=⟨(hi.own nm _ hn _ hb).1.elim id (fun q=>absurd q (hex b)),(hi.own nm _ hn _ hb).2⟩;obtain⟨cur,e,h2,h3,h4⟩:gT rt w _ b o xs:=hr.1 NM.no;have hrep:∀i x,((xs.drop off).take n)[i]?=some x→∃cs,rt.rep w (fun b'=>Nd cx w b'∧b'≠b) cs x∧∀j v,cs[j]?=some v→cur[o+off*rt.n+i*rt.n+j]?=some v:=fun i x hx=>by
   have hi':i<n:=by have:=(Y0.1 hx).1;omega
   rw[rD hi',KE]at hx;obtain⟨cs,h5,h6⟩:=h4 _ x hx;refine⟨cs,rt.keep (fun b' hb'=>⟨⟨⟨hb'.1,hb'.2.1⟩,fun e1=>hb'.2.2 nm _ hn _ hb e1.symm⟩,rfl⟩) h5,fun j u hj=>?_⟩;have:=h6 j u hj;rw[Qd]at this;rw[←this];congr 1;omega
  have hsz:(off+n)*rt.n≤xs.length*rt.n:=bn _ hle;rcases g4 with⟨g4,g5⟩|⟨g4,cur',e',fr,g5,g6⟩;subst g4 g5;exact .inr ⟨A,b,o+off*rt.n,0,cur,e,by rw[hlen,g1],.inl ⟨Sp,rfl⟩,So,g3,hown.1,h2,by rw[Qd]at hsz;omega,hrep⟩;rw[h2]at g5;injection g5 with g5;injection g5 with g5 _ _;subst g5;exact .inr ⟨A,b,o+off*rt.n,cap,cur,e,by rw[hlen,g1],.inr g4,So,g3,hown.1,h2,by rw[Qd]at g6;omega,hrep⟩
def CL{t:Nat}[NM rt](hr:fn.results = #[.tmp t])(hs:bg st.slots t=some (.own nm rt.n off n))(hn:aG st.heap nm=some ⟨rt,xs⟩)(hle:off+n≤xs.length)(e:(xs.drop off).take n=ys)(hex:∀b,¬cx.ex b:=by intro _ h;exact h):
 JR P cx st (.fin fn (fun e w'=>∃v,e=.returned v∧BelowX cx.ex cx.w0.heap.size cx.w0 w'∧wn rt cx.w0 w' (Nd cx w') ys v)):=by rintro a w ⟨β,hi⟩;obtain⟨v,h1,h2⟩:=hi.slots t _ hs;subst e;refine⟨hi.defers,v,?_,v,rfl,hi.below,inN hi hn h2 hle hex⟩;simp[gJ,hr,pR,h1]
def wL{t:Nat}[NM rt](hr:fn.results = #[.tmp t])(hs:bg st.slots t=some (.raw (.slice none 0 0)))(e:[]=ys):
 JR P cx st (.fin fn (fun e w'=>∃v,e=.returned v∧BelowX cx.ex cx.w0.heap.size cx.w0 w'∧wn rt cx.w0 w' (Nd cx w') ys v)):=by rintro a w ⟨β,hi⟩;obtain⟨v,h1,h2⟩:=hi.slots t _ hs;subst e;refine⟨hi.defers,v,?_,v,rfl,hi.below,.inl ⟨rfl,h2⟩⟩;simp[gJ,hr,pR,h1]
def wg{k:FuncId}{aS:List SV}[NM rt](hf:P.funcs[k]?=some fn)(hb:fn.body=some c)(hn:(fn.name == "runtime.NumGoroutine")=false)(hm:fn.ntmps=m)(hlen:Nat.ble aS.length m=true)
 (hp:(aS.all SV.plain)=true) (h:∀(w0:World) (ok0:Ok),J P (Cx.of w0 ok0 m) ⟨nC 0 aS,[]⟩ c (.fin fn (fun e w'=>∃v,e=.returned v∧BelowX (fun _=>False) w0.heap.size w0 w'∧wn rt w0 w' (Nd (Cx.of w0 ok0 m) w') xs v))):CtO P k aS rt xs:=by refine⟨cJ hf hb hn,fun w ok0 vs hok hh=>?_⟩;have hl:=fO hh;have hlen':aS.length≤m:=Nn;refine calls_of_wp hf hb ?_;have:=h w ok0 {tmps:=vs.toArray++Array.replicate (fn.ntmps-vs.toArray.size) undef,defers:=[]} w ⟨qI,?_⟩;exact wp_mono this fun e a w hq=>hq;exact S9
def bsF(hi:InvB cx st β a w)[NM rt](hdn:d<cx.n)(hf:fb nm st.slots=true)(hn:aG st.heap nm=none)(hb:Below w.heap.size w w')(hv:wn rt w w' (Nd (Cx.of w (bY cx st.heap β w) 0) w') xs v):
 Inv cx ⟨(d,.own nm rt.n 0 xs.length)::st.slots,(nm,⟨rt,xs⟩)::st.heap⟩ (a.put (some d) v) w':=by
 have hl:=hi.later hb;have key:∀(l:Option (Nat×Nat)),(∀x,l=some x→w.heap.size≤x.1∧x.1<w'.heap.size)→(HB.mk rt xs).holds w' (bY cx ((nm,⟨rt,xs⟩)::st.heap) (fun k=>if k=nm then l else β k) w') l→
  (∀β',β' nm=l→Yq β' w' nm rt.n 0 xs.length v)→Inv cx ⟨(d,.own nm rt.n 0 xs.length)::st.slots,(nm,⟨rt,xs⟩)::st.heap⟩ (a.put (some d) v) w':=by
  intro l hl1 hl2 hl3
  have hok:∀b,bY cx st.heap β w b→bY cx ((nm,⟨rt,xs⟩)::st.heap) (fun k=>if k=nm then l else β k) w' b∧w'.heap[b]?=w.heap[b]?:=by
   exact US
  have hbase:InvB cx ⟨st.slots,(nm,⟨rt,xs⟩)::st.heap⟩ (fun k=>if k=nm then l else β k) a w':=by
   refine⟨hl.below,hl.old,hl.defers,hl.size,fun k hb' hk x hx=>?_,fun k k' h1 h2 hk hk' x y hx hy hxy=>?_,fun k hb' hk=>?_,fun i s hs=>?_⟩
   ·exact Vu
   ·exact Ti
   ·exact UZ
   exact UL
  exact⟨_,hbase.put hdn (hl3 _ Sp)⟩
 rcases hv with⟨rfl,rfl⟩|⟨A,b,o,cap,cur,e,rfl,hA,h1,h2,h3,h4,h5,h6⟩;exact key none (fun x h=>LD) rfl (fun β' h=>by simp[Yq,h]);have hbs:=InvB.cell_lt h4;refine key (some (b,o)) (fun x h=>by injection h with h;subst h;exact⟨h3,hbs⟩) ⟨fun _=>⟨cur,e,h4,?_,fun i x hx=>?_⟩,fun hm=>aak⟩ (fun β' h=>?_);have:=bn rt.n h1;simp only;omega;obtain⟨cs,g1,g2⟩:=h6 i x hx;refine⟨cs,rt.keep (fun b' hb'=>⟨⟨?_,hb'.1.2,fun k hb2 hk y hy e1=>?_⟩,rfl⟩) g1,g2⟩;rcases hb'.1.1 with h|h;exact h.1;exact .inr (.inl (wb hi.below.size (Cx.new_of h)));rw[bA]at hk;by_cases e2:k=nm;subst e2;simp at hy;subst hy;exact hb'.2 e1.symm;rw[zE (Ne.symm e2)]at hk;simp only[zE e2]at hy;rcases hb'.1.1 with h|h;exact h.2.2 k hb2 hk y hy e1;have:=(hi.own k hb2 hk y hy).2;have h:w.heap.size≤b':=Cx.new_of h;omega;simp only[Yq,h];refine⟨A,cap,rfl,h1,h2,?_⟩;rcases hA with⟨hA,hc⟩|hA;subst hA;exact .inl ⟨rfl,hc⟩;exact .inr ⟨by rw[hA];simp,cur,e,_,h4,by rw[N1];exact h5⟩
def uw{k:FuncId}{aS:List SV}[NM rt]{xs:List Operand}(h:CtO P k aS rt ys)(ha:Args st xs aS)(hp:(aS.all SV.plain)=true)(hd:Nat.blt d cx.n=true)(hf:fb d st.slots=true)(hn:aG st.heap d=none):
 OS P cx ⟨some d,.call {callee:=.value (.func k),args:=xs.toArray,argTypes:=ts},ty,pos,aft,gd⟩ st ⟨(d,.own d rt.n 0 ys.length)::st.slots,(d,⟨rt,ys⟩)::st.heap⟩:=by
 rintro a w ⟨β,hi⟩ Q;have hargs:=ha.holds (cx:=cx) (β:=β) (a:=a) (w:=w) (st':=st) (fun x hx=>rfl) hi hp;have hrun:(execOp a.eval ⟨some d,.call {callee:=.value (.func k),args:=xs.toArray,argTypes:=ts},ty,pos,aft,gd⟩).run P w=.ok (.enter k (xs.map a.eval).toArray) w:=by exact Xb
 unfold Oper.wp;rw[hrun,Oper.upon_enter];refine(h.calls w (bY cx st.heap β w) _ hi.okP hargs).mono ?_;rintro e w' ⟨v,rfl,hb,hv⟩;have hb:=hb.plain (fun _ h=>h);exact bsF hi PX hf hn hb hv
end
section
def kC{T:TypeId}[NM rt]{ps:List (Nat×Operand)}{ds:List α}{z:α}(ht:P.underlying T=some (.slice e))(he:Ty P e rt)(hz:TyZero P e rt z)(hn:ps.length=n)(hr:RowRd st rt 0 ps ds)(h1:Nat.ble 1 rt.n=true)(hb:Nat.ble (n*rt.n) 16777216=true)
 (hd:Nat.blt d cx.n=true) (hf:fb d st.slots=true) (hno:aG st.heap d=none):
 OS P cx ⟨some d,.buildSlice T n ps.toArray,ty,pos,aft,gd⟩ st ⟨(d,.own d rt.n 0 ds.length)::st.slots,(d,⟨rt,ds⟩)::st.heap⟩:=by
 rintro a w ⟨β,hi⟩ Q;subst hn;have hb':ps.length*rt.n≤16777216:=by simpa using hb
 obtain⟨cells,h2,h3,h4⟩:=yi (P:=P) ht he hz hr (fun x hx=>rfl) hi hb';have hl:=hr.len;have h1':1≤rt.n:=LF;have hpl:ps.length≤maxLen:=by exact WZ
 have hrun:(execOp a.eval ⟨some d,.buildSlice T ps.length ps.toArray,ty,pos,aft,gd⟩).run P w=.ok (.value (.slice (some ⟨w.heap.size,0,none⟩) ps.length ps.length)) (w.alloc (.cells cells e)):=by change ((Instr.buildSlice T ps.length (ps.toArray.map fun p=>(p.1,a.eval p.2))) >>= fun v=>pure (Next.value v)).run P w=_;rw[Sem.run_bind,h2];rfl
 unfold Oper.wp;rw[hrun,Oper.upon_value];have:=hi.alloc (e:=e) hf hno (by rw[hl,h3];exact Kl _) h4;refine⟨_,this.put PX ?_⟩;simp only[SV.holds,Yq,Cg];exact⟨_,ps.length,by rw[hl],So,hpl,.inr ⟨Sp,cells,e,_,heap_alloc_new w _,JB⟩⟩
end
section
def uT9(hj:bg st.slots j=some (.tv (ag rt) xs))(hi:Inv cx st a w):
 ∃A cap,(A=none→xs=[])∧Inv cx ⟨(j,.raw (.slice A xs.length cap))::st.slots,st.heap⟩ a w:=by obtain⟨β,hb⟩:=hi;obtain⟨u,h1,h2⟩:=hb.slots j _ hj;obtain⟨A,cap,rfl,h3,h4,h5⟩:=qQ h2;refine⟨A,cap,fun e=>?_,β,hb.below,hb.old,hb.defers,hb.size,hb.own,hb.sep,hb.rows,fun q s hs=>?_⟩;rcases Classical.em (xs=[])with q|q;exact q;obtain⟨b,o,hA,_⟩:=h5 q;rw[e]at hA;cases hA;rw[bC]at hs;split at hs;rename_i e;subst e;injection hs with hs;subst hs;exact⟨_,h1,rfl⟩;exact hb.slots q s hs
def y4(j:Nat)(hj:bg st.slots j=some (.tv (ag rt) xs))(h:∀A cap,(A=none→xs=[])→JG P cx ops ⟨(j,.raw (.slice A xs.length cap))::st.slots,st.heap⟩ l k):JG P cx ops st l k:=fun a w hi=>by obtain⟨A,cap,h1,h2⟩:=uT9 hj hi;exact h A cap h1 a w h2
def acj(P:Program)(w:World)(d:Nat)(t e:TypeId)(A:Option Addr)(n c:Nat)(ht:P.underlying t=some (.slice e)):(Op.equalIn (d+1) t (.slice A n c) (.slice none 0 0)).run P w=.ok A.isNone w:=by
 simp only[Op.equalIn];cases A with
 | none=>simp[run_underlying ht]
 | some b=>simp[run_underlying ht]
def ruV(P:Program)(w:World)(t e:TypeId)(A:Option Addr)(n c:Nat)(ht:P.underlying t=some (.slice e)):(binOp .eql t (.slice A n c) (.slice none 0 0)).run P w=.ok (.bool A.isNone) w:=by have h:(Op.equal t (.slice A n c) (.slice none 0 0)).run P w=.ok A.isNone w:=acj P w 9999 t e A n c ht;simp only[binOp];simp[h]
def adN(P:Program)(w:World)(op:BinOp)(t:TypeId)(x y:Operand)(A:Option Addr)(n c:Nat)(B:Value):(eqGuard op t x y (.slice A n c) B).run P w=.ok () w:=by cases op<;>simp[eqGuard]
def pi{c:Nat}(ht:P.underlying t=some (.slice e))(hx:Ev st x (.raw (.slice A n c)))(hy:Ev st y (.raw (.slice none 0 0))):
 aH P cx st ⟨dst,.binOp .eql t x y yt,ty,pos,aft,gd⟩ (.raw (.bool A.isNone)):=
 bz fun st' hag β a w hi=>⟨_,by have h1:=hi.raw (hag.ev aT hx);have h2:=hi.raw (hag.ev aT hy);simp[execOp,h1,h2,adN,ruV _ _ _ _ _ _ _ ht],rfl⟩
def oJ(P:Program)(w:World)(op:BinOp)(t:TypeId)(x y:Operand)(p:ByteArray)(B:Value):(eqGuard op t x y (.string p) B).run P w=.ok () w:=by cases op<;>simp[eqGuard]
def dV{q:List UInt8}(ht:P.underlying t=some .string)(hx:Ev st x (.raw (e6 p)))(hy:Ev st y (.raw (e6 q))):
 aH P cx st ⟨dst,.binOp .eql t x y yt,ty,pos,aft,gd⟩ (.raw (.bool (p==q))):=
 bz fun st' hag β a w hi=>⟨_,by have h1:=hi.raw (hag.ev aT hx);have h2:=hi.raw (hag.ev aT hy);simp only[e6]at h1 h2;simp[execOp,h1,h2,oJ,binOp,Op.stringOp,rP],rfl⟩
def lY{q:List UInt8}(ht:P.underlying t=some .string)(hx:Ev st x (.raw (e6 p)))(hy:Ev st y (.raw (e6 q))):
 aH P cx st ⟨dst,.binOp .neq t x y yt,ty,pos,aft,gd⟩ (.raw (.bool (p != q))):=
 bz fun st' hag β a w hi=>⟨_,by have h1:=hi.raw (hag.ev aT hx);have h2:=hi.raw (hag.ev aT hy);simp only[e6]at h1 h2;simp[execOp,h1,h2,oJ,binOp,Op.stringOp,rP,bne],rfl⟩
def fI(ht:P.underlying t=some .string)(hx:Ev st x (.raw (e6 p))):
 aH P cx st ⟨dst,.call {callee:=.builtin .len,args:=#[x],argTypes:=#[t]},ty,pos,aft,gd⟩ (.raw (.int .i64 (p.length:Int))):=
 bz fun st' hag β a w hi=>by
 have h1:=hi.raw (hag.ev ug hx);simp only[e6]at h1;refine⟨.int .i64 _,?_,rfl⟩;have h2:(ByteArray.mk p.toArray).size=p.length:=by simp[ByteArray.size]
 simp[execOp,resolve,invoke,builtin,h1,Builtin.len_,run_underlying ht,goInt,h2]
end
section
def nj{i:Int}{b:UInt8}(ht:P.underlying t=some .string)(hx:Ev st x (.raw (e6 p)))(hy:Ev st y (.raw (.int kk i)))(hij:i=(j:Int))(hb:p[j]?=some b):
 aH P cx st ⟨dst,.index t x y,ty,pos,aft,gd⟩ (.raw (.int .u8 (b.toNat:Int))):=
 bz fun st' hag β a w hi=>by
 have h1:=hi.raw (hag.ev aT hx);have h2:=hi.raw (hag.ev aT hy);have hj:j<p.length:=(Y0.1 hb).1;have hsz:(⟨p.toArray⟩:ByteArray).size=p.length:=by simp[ByteArray.size]
 have hr:=run_index_string (P:=P) w t ⟨p.toArray⟩ kk i ht;rw[dif_pos ⟨So,by rw[hsz];omega⟩]at hr;subst hij;rw[RY hj]at hb;injection hb with hb;have e1:(⟨p.toArray⟩:ByteArray)[((j:Int)).toNat]'(by rw[hsz];omega)=b:=by rw[←hb];rfl
 rw[e1]at hr;exact⟨_,by simp[execOp,h1,h2,e6,hr],rfl⟩
end
section
abbrev Old(w:World):Ok:=fun b=>b<w.heap.size
def Yj(k:IntKind)(n:Int):Prop:=k.min≤n∧n≤k.max
def Opens(P:Program)(t:TypeId)(rt:RT α)(φ:α→Prop):Prop:=
 ∀{H:Type} {enc:TypeId×Value→H} {w:World} {base:Nat} {spare:Nat→Bool} {held:Bool} {fuel:Nat} {cs:List Value} {x:DataW H×List MemPlace},
  DataW.trod enc P w base spare held fuel t cs=some x→∃d,rt.rep w (Old w) cs d∧φ d
def cF{k:IntKind}(ht:P.underlying t=some (.int k)):Opens P t (ay k) (Yj k):=fun h=>by obtain⟨n,rfl,_,hw⟩:=DataW.trod_int ht h;simp only[Lit.wf,YC,Ek]at hw;exact⟨n,rfl,hw⟩
def fY(ht:P.underlying t=some .string):Opens P t du (fun s=>s.length≤maxLen):=fun h=>by obtain⟨s,rfl,_,hl⟩:=DataW.trod_string ht h;exact⟨s.data.toList,by simp[du,e6],FM⟩
def Opens.arg(h:Opens P t rt φ){H:Type}{enc:TypeId×Value→H}{base:Nat}{spare:Nat→Bool}{held:Bool}{d:DataW H}{ps:List MemPlace}
 (hv:v=(if rt.agg then .agg v.cells else v.cells.toList.getD 0 undef)) (hd:DataW.Trod enc P w base spare held t v d ps):∃x,rt.val w (Old w) v x∧φ x:=by obtain⟨fuel,hf⟩:=hd;obtain⟨x,h1,h2⟩:=h hf;exact⟨x,⟨_,h1,by simpa using hv⟩,h2⟩
end
def EO{ι:Type}(fam:ι→St)(p:ι→Prop)(h:J P cx st c (.loop (fun a w=>∃j,p j∧Eng.Inv cx (fam j) a w) k))(hn:∀j,p j→JN P cx (fam j) k):J P cx st c k:=fun a w hi=>by
 refine Code.wp_mono (fun e a w q=>?_) (h a w hi);cases e with
 | normal=>obtain⟨j,hp,hj⟩:∃j,p j∧Eng.Inv cx (fam j) a w:=q;exact hn j hp a w hj
 | _=>exact q
def vG:∀{a b:List Int},a.Pairwise (· < ·)→b.Pairwise (· < ·)→(∀x,x∈a↔x∈b)→a=b
 | [],[],_,_,_=>rfl
 | [],y::b,_,_,h=>by have:=(h y).2 Sp;simp at this
 | x::a,[],_,_,h=>by have:=(h x).1 Sp;simp at this
 | x::a,y::b,ha,hb,h=>by
  rw[Jb]at ha hb;have hxy:x=y:=by have h1:=(h x).1 Sp;have h2:=(h y).2 Sp;rcases L5.1 h1 with h1|h1;exact h1;rcases L5.1 h2 with h2|h2;exact h2.symm;have:=ha.1 y h2;have:=hb.1 x h1;omega
  subst hxy;rw[vG ha.2 hb.2 fun z=>⟨fun hz=>?_,fun hz=>?_⟩];rcases L5.1 ((h z).1 (f9 _ hz))with e|e;subst e;exact absurd (ha.1 z hz) So;exact e;rcases L5.1 ((h z).2 (f9 _ hz))with e|e;subst e;exact absurd (hb.1 z hz) So;exact e
def dX(l:List Int):List Int:=Lib.compact (l.mergeSort fun x y=>decide (x≤y))
def ol{d:Array Int}(hs:d.toList.Pairwise (·≤·)):∀m,m≤d.size→(Lib.compactUpTo d m).Pairwise (· < ·)∧∀x,x∈Lib.compactUpTo d m↔∃j,∃h:j<d.size,j<m∧d[j]=x
 | 0,_=>by simp[Lib.compactUpTo]
 | m+1,hm=>by
  obtain⟨h1,h2⟩:=ol hs m So;have hle:∀i j,∀(hi:i<d.size) (hj:j<d.size),i≤j→d[i]≤d[j]:=fun i j hi hj hij=>by rcases Qa i j with h|h;have:=Nb.1 hs i j Dq JP h;simpa using this;have:i=j:=So;subst this;exact Int.le_refl _
  rw[Lib.compactUpTo_succ];have gm:d[m]! = d[m]:=getElem!_pos d m So;by_cases hk:Lib.keeps d m=true;rw[Cg hk,gm];refine⟨List.pairwise_append.2 ⟨h1,Sp,fun a ha b hb=>?_⟩,fun x=>?_⟩;obtain rfl:=J0.1 hb;obtain⟨j,hj,hjm,rfl⟩:=(h2 a).1 ha;simp only[Lib.keeps,Ek]at hk;rcases hk with hk|hk;omega;rw[gm,getElem!_pos d (m-1) So]at hk;have a1:=hle j (m-1) hj So So;have a2:=hle (m-1) m So So So;omega;rw[Nx,h2,J0];constructor;rintro(⟨j,hj,hjm,e⟩|e);exact⟨j,hj,So,e⟩;exact⟨m,So,So,e.symm⟩;rintro⟨j,hj,hjm,e⟩;by_cases hjm':j=m;subst hjm';exact .inr e.symm;exact .inl ⟨j,hj,So,e⟩;rw[zE hk,Nk];refine⟨h1,fun x=>?_⟩;rw[h2];simp only[Lib.keeps,Ek,not_or,ne_eq,Classical.not_not]at hk;constructor;rintro⟨j,hj,hjm,e⟩;exact⟨j,hj,So,e⟩;rintro⟨j,hj,hjm,e⟩;by_cases hjm':j=m;subst hjm';refine⟨j-1,So,So,?_⟩;have:=hk.2;rw[gm,getElem!_pos d (j-1) So]at this;rw[←this];exact e;exact⟨j,hj,So,e⟩
def AT(l:List Int):(l.mergeSort fun x y=>decide (x≤y)).Pairwise (·≤·):=by have:=List.pairwise_mergeSort (le:=fun x y:Int=>decide (x≤y)) (fun a b c h1 h2=>by simp at h1 h2⊢;omega) (fun a b=>QE) l;exact this.imp (fun h=>PW)
def kP(l:List Int):(dX l).Pairwise (· < ·)∧∀x,x∈dX l↔x∈l:=by
 have hs:=AT l;obtain⟨h1,h2⟩:=ol (d:=(l.mergeSort fun x y=>decide (x≤y)).toArray) (by simpa using hs) _ (Kl _);have e:dX l=Lib.compactUpTo (l.mergeSort fun x y=>decide (x≤y)).toArray (l.mergeSort fun x y=>decide (x≤y)).toArray.size:=by simp[dX,Lib.compact]
 rw[e];refine⟨h1,fun x=>?_⟩;rw[h2,←List.mem_mergeSort (le:=fun x y=>decide (x≤y)),Fe];constructor;rintro⟨j,hj,_,e⟩;exact⟨j,JP,Lm⟩;rintro⟨j,hj,e⟩;exact⟨j,JP,JP,Lm⟩
def adO{l m:List Int}(h1:m.Pairwise (· < ·))(h2:∀x,x∈m↔x∈l):dX l=m:=
 vG (kP l).1 h1 (fun x=>by rw[(kP l).2,h2])
def zf(x:Int):List Int→List Int
 | []=>[x]
 | y::r=>if x<y then x::y::r else if x=y then y::r else y::zf x r
def uL(x:Int):∀(l:List Int) (z:Int),z∈zf x l↔z=x∨z∈l
 | [],z=>by simp[zf]
 | y::r,z=>by unfold zf;split;simp;split;rename_i h1 h2;subst h2;simp;simp only[L5,uL x r z];constructor<;>(rintro(h|h|h)<;>simp[h])
def rx(x:Int):∀(l:List Int),l.Pairwise (· < ·)→(zf x l).Pairwise (· < ·)
 | [],_=>by simp[zf]
 | y::r,h=>by rw[Jb]at h;unfold zf;split;rename_i h1;refine Jb.2 ⟨fun z hz=>?_,Jb.2 h⟩;rcases L5.1 hz with e|e;omega;have:=h.1 z e;omega;split;exact Jb.2 h;refine Jb.2 ⟨fun z hz=>?_,rx x r h.2⟩;rcases(uL x r z).1 hz with e|e;omega;exact h.1 z e
def AL(l:List Int):List Int:=l.foldr zf []
def xY:∀(l:List Int),(AL l).Pairwise (· < ·)∧∀z,z∈AL l↔z∈l
 | []=>by simp[AL]
 | x::r=>by obtain⟨h1,h2⟩:=xY r;exact⟨rx x _ h1,fun z=>by rw[show AL (x::r)=zf x (AL r)from rfl,uL,h2];simp⟩
def acm(l:List Int):dX l=AL l:=adO (xY l).1 (xY l).2
def iY(l:List Int):(dX l).length≤l.length:=by have:=Lib.compact_length_le (l.mergeSort fun x y=>decide (x≤y));rw[J2]at this;exact this
section
def F1{k:IntKind}{p r:Int}(hx:Ev st x (.raw (.int k p)))(hy:Ev st y (.raw (.int ky q)))(h0:0≤q)(hr:k.wrap (p*2 ^ (min q.toNat k.bits))=r):
 aH P cx st ⟨dst,.binOp .shl t x y yt,ty,pos,aft,gd⟩ (.raw (.int k r)):=
 bz fun st' hag β a w hi=>⟨.int k r,by have h1:=hi.raw (hag.ev aT hx);have h2:=hi.raw (hag.ev aT hy);have h3:¬q<0:=So;simp[execOp,h1,h2,eqGuard_at_int,binOp_shl,Op.shift,h3,hr],rfl⟩
def yq{k:IntKind}{p r:Int}(hx:Ev st x (.raw (.int k p)))(hy:Ev st y (.raw (.int ky q)))(h0:0≤q)(hr:p.fdiv (2 ^ (min q.toNat k.bits))=r):
 aH P cx st ⟨dst,.binOp .shr t x y yt,ty,pos,aft,gd⟩ (.raw (.int k r)):=
 bz fun st' hag β a w hi=>⟨.int k r,by have h1:=hi.raw (hag.ev aT hx);have h2:=hi.raw (hag.ev aT hy);have h3:¬q<0:=So;simp[execOp,h1,h2,eqGuard_at_int,binOp_shr,Op.shift,h3,hr],rfl⟩
def bI(op:BinOp)(k:IntKind)(x y:Int):Int:=
 let a:=BitVec.ofInt k.bits x
 let b:=BitVec.ofInt k.bits y
 k.wrap ((match op with | .and=>a&&& b | .or=>a||| b | .xor=>a ^^^ b|_=>a&&& ~~~b).toNat:Int)
def L6{k:IntKind}{p r:Int}(hx:Ev st x (.raw (.int k p)))(hy:Ev st y (.raw (.int k q)))(hr:bI .and k p q=r):
 aH P cx st ⟨dst,.binOp .and t x y yt,ty,pos,aft,gd⟩ (.raw (.int k r)):=
 bz fun st' hag β a w hi=>⟨.int k r,by have h1:=hi.raw (hag.ev aT hx);have h2:=hi.raw (hag.ev aT hy);subst hr;simp[execOp,h1,h2,eqGuard_at_int,binOp_and,Op.intBits,bI],rfl⟩
def op_or{k:IntKind}{p r:Int}(hx:Ev st x (.raw (.int k p)))(hy:Ev st y (.raw (.int k q)))(hr:bI .or k p q=r):
 aH P cx st ⟨dst,.binOp .or t x y yt,ty,pos,aft,gd⟩ (.raw (.int k r)):=
 bz fun st' hag β a w hi=>⟨.int k r,by have h1:=hi.raw (hag.ev aT hx);have h2:=hi.raw (hag.ev aT hy);subst hr;simp[execOp,h1,h2,eqGuard_at_int,binOp_or,Op.intBits,bI],rfl⟩
def mj{p q:Bool}(ht:P.underlying t=some .bool)(hx:Ev st x (.raw (.bool p)))(hy:Ev st y (.raw (.bool q))):
 aH P cx st ⟨dst,.binOp .neq t x y yt,ty,pos,aft,gd⟩ (.raw (.bool (p != q))):=
 bz fun st' hag β a w hi=>⟨_,by have h1:=hi.raw (hag.ev aT hx);have h2:=hi.raw (hag.ev aT hy);simp[execOp,h1,h2,eqGuard_at_bool,run_neq_bool _ _ _ _ ht];cases p<;>cases q<;>rfl,rfl⟩
end
def bv64(h:n<18446744073709551616):(BitVec.ofInt 64 (n:Int)).toNat=n:=by rw[BitVec.ofInt_natCast,BitVec.toNat_ofNat];exact Nat.mod_eq_of_lt So
def wu(h:n<18446744073709551616):IntKind.u64.wrap (n:Int)=(n:Int):=I9 So
def FG(n:Nat):IntKind.u64.wrap (n:Int)=((n%18446744073709551616:Nat):Int):=by rw[IntKind.wrap_u64];omega
def Fz(h:n<18446744073709551616):bI .and .u64 (n:Int) 4294967295=((n%4294967296:Nat):Int):=by have h2:(BitVec.ofInt 64 4294967295).toNat=4294967295:=cy;show IntKind.u64.wrap ((BitVec.ofInt 64 (n:Int)&&& BitVec.ofInt 64 4294967295).toNat:Int)=_;rw[BitVec.toNat_and,bv64 h,h2,show(4294967295:Nat)=2 ^ 32-1 from rfl,Nat.and_two_pow_sub_one_eq_mod];exact wu (F2 (Na _ cy) cy)
def or_add{x s:Nat}(hb:b<2 ^ s)(h:x*2 ^ s+b<18446744073709551616):bI .or .u64 ((x*2 ^ s:Nat):Int) (b:Int)=((x*2 ^ s+b:Nat):Int):=by show IntKind.u64.wrap ((BitVec.ofInt 64 ((x*2 ^ s:Nat):Int)||| BitVec.ofInt 64 (b:Int)).toNat:Int)=_;rw[BitVec.toNat_or,bv64 So,bv64 So];have:=Nat.two_pow_add_eq_or_of_lt hb x;rw[O6 x,←this];rw[O6]at h;exact wu h
def B6{s:Nat}(hs:s≤64):IntKind.u64.wrap ((n:Int)*2 ^ (min ((s:Int)).toNat IntKind.u64.bits))=((n*2 ^ s%18446744073709551616:Nat):Int):=by
 have:min ((s:Int)).toNat IntKind.u64.bits=s:=by simp[IntKind.bits];omega
 rw[this,←FG];congr 1
def xa{s:Nat}(hs:s≤64):(n:Int).fdiv (2 ^ (min ((s:Int)).toNat IntKind.u64.bits))=((n/2 ^ s:Nat):Int):=by
 have:min ((s:Int)).toNat IntKind.u64.bits=s:=by simp[IntKind.bits];omega
 rw[this,Int.fdiv_eq_ediv_of_nonneg _ (by exact Int.pow_nonneg cy)];simp
def xh(h:n<18446744073709551616):IntKind.u64.wrap ((n:Int).tdiv (m:Int))=((n/m:Nat):Int):=by rw[Int.tdiv_eq_ediv_of_nonneg So,←Int.natCast_ediv];exact wu (Nat.lt_of_le_of_lt (Nat.div_le_self _ _) h)
def xg:(n:Int).tmod (m:Int)=((n%m:Nat):Int):=by rw[Int.tmod_eq_emod_of_nonneg So];simp
def p5(h:n*m<18446744073709551616):IntKind.u64.wrap ((n:Int)*(m:Int))=((n*m:Nat):Int):=by rw[←Int.natCast_mul];exact wu h
def sA(h:n+m<18446744073709551616):IntKind.u64.wrap ((n:Int)+(m:Int))=((n+m:Nat):Int):=by rw[←Int.natCast_add];exact wu h
def kR(h:m≤n)(hn:n<18446744073709551616):IntKind.u64.wrap ((n:Int)-(m:Int))=((n-m:Nat):Int):=by rw[←Int.ofNat_sub h];exact wu So
section
open Go.Sort (Holds putRow grow putCells mapBlock onCells flatK putRowK HoldsK)
def Exact(rt:RT α)(enc:α→List Value):Prop:=∀{w:World} {ok:Ok} {cs:List Value} {x:α},rt.rep w ok cs x↔cs=enc x
def Exact.len[NM rt](he:Exact rt enc)(x:α):(enc x).length=rt.n:=rt.len (w:=default) (ok:=fun _=>True) (he.2 rfl)
section
variable[Inhabited α][NM rt]
def sk[NM rt]{ix:Operand}{k:IntKind}{i:Int}(hdn:Nat.blt d cx.n=true)(ht:P.underlying t=some (.slice e))(he:Ty P e rt)
 (hx:Ev st x (.own nm rt.n off n)) (hi':Ev st ix (.raw (.int k i))) (hij:i=(j:Int)) (hj:j<n):
 GH P cx ops st ⟨some d,.indexAddr t x ix,ty,pos,aft,none⟩ (some (d,.optr nm rt.n (off+j) 0),none) [] []:=by intro st' hag _ a w hi Q;rw[Cg L0];exact bk ht he (hag.ev aT hx) (hag.ev aT hi') hij hj st' (Agr.refl _ _) d rfl QQ a w hi Q
end
end
section
open Go.Sort (SWO PermIn SortedIn pdq)
end
section
open Go.Sort (SWO pdq Holds putRow putCells mapBlock)
def Below.grow(h:Below w.heap.size w w'):∃q os,w'=Sort.grow (w.drewN q) os:=by
 refine⟨w'.drawn-w.drawn,(w'.heap.toList.drop w.heap.size).toArray,?_⟩;obtain⟨h1,h2,h3,h4,h5,h6⟩:=h;obtain⟨hp,tp,dr,os,ou⟩:=w';obtain⟨hp0,tp0,dr0,os0,ou0⟩:=w;simp only at h1 h2 h3 h4 h5 h6;subst h1 h2 h3;simp only[Sort.grow,World.drewN,World.mk.injEq,and_true,true_and];refine⟨?_,So⟩;apply Array.ext';have e:hp0.toList=hp.toList.take hp0.size:=by apply Lv;intro i;by_cases hi:i<hp0.size;have:=h5 i hi;rw[rD hi];simpa using this.symm;rw[jp Dq,jp QE]
 rw[Array.toList_append];show hp.toList=hp0.toList++hp.toList.drop hp0.size;rw[e];exact(N4 hp0.size hp.toList).symm
section
end
end
section
def rHd:RT (Option Addr×Nat×Nat) where
 n:=1
 agg:=false
 raw d:=some (.slice d.1 d.2.1 d.2.2)
 rep _ _ cs d:=cs=[.slice d.1 d.2.1 d.2.2]
 len h:=Ph
 one h:=aa9
 keep _ h:=h
 scal _:=rfl
 exact_ h1 h2:=aa7
 exact' h:=abF
instance:NM rHd:=⟨rfl⟩
def inv_up{s:SV}(h0:bg st.slots i=some (.both s v))(hj:bg st.slots j=some (.raw v))(hi:Inv cx st a w):Inv cx ⟨(j,s)::st.slots,st.heap⟩ a w:=by obtain⟨β,hb⟩:=hi;obtain⟨u,h1,h2,h3⟩:=hb.slots i _ h0;obtain⟨u',h4,h5⟩:=hb.slots j _ hj;have h5:u'=v:=h5;refine⟨β,hb.below,hb.old,hb.defers,hb.size,hb.own,hb.sep,hb.rows,fun q s' hs=>?_⟩;rw[bC]at hs;split at hs;rename_i e;subst e;injection hs with hs;subst hs;exact⟨u',h4,by rw[h5,←h3];exact h2⟩;exact hb.slots q s' hs
def Br(i j:Nat){s:SV}(h0:bg st.slots i=some (.both s v))(hj:bg st.slots j=some (.raw v))(h:JG P cx ops ⟨(j,s)::st.slots,st.heap⟩ l k):JG P cx ops st l k:=fun a w hi=>h a w (inv_up h0 hj hi)
def Yl1f[NM rt](hs:bg st.slots i=some (.both (.own nm rt.n off n) v))(hn:aG st.heap nm=some ⟨rt,xs⟩)(hle:off+n≤xs.length)(hsub:∀j s,aG hp j=some s→aG st.heap j=some s)(hno:aG hp nm=none)(hi:Inv cx st a w):
 Inv cx ⟨(i,.both (.tv (ag rt) ((xs.drop off).take n)) v)::st.slots,hp⟩ a w:=by obtain⟨β,hb⟩:=hi;have hok:∀b,bY cx st.heap β w b→bY cx hp β w b:=fun b ⟨h1,h2,h3⟩=>⟨h1,h2,fun k h hk=>h3 k h (hsub _ _ hk)⟩;have hb':InvB cx ⟨st.slots,hp⟩ β a w:=hb.toHeap hsub;obtain⟨u,h1,h2,h3⟩:=hb.slots i _ hs;refine⟨β,hb'.below,hb'.old,hb'.defers,hb'.size,hb'.own,hb'.sep,hb'.rows,fun j s hj=>?_⟩;simp only[bC]at hj;split at hj;rename_i e1;subst e1;injection hj with hj;subst hj;refine⟨u,h1,fK hb hn h2 hle hok (fun b o hbo=>?_),h3⟩;exact VF;exact hb'.slots j s hj
def rN(rt:RT α)(ys:List α)(v:Value)(r1:RT γ)(d1:γ)(r2:RT δ)(d2:δ):Prop:=
 r1.agg=r2.agg∧∀(w:World) (ok:Ok) (cs:List Value),(ag rt).val w ok v ys→r1.rep w ok cs d1→r2.rep w ok cs d2
def dc:rN rt ys (.slice A n cap) rHd (A,n,cap) (ag rt) ys:=by refine⟨rfl,fun w ok cs hv h=>?_⟩;have h:cs=[.slice A n cap]:=h;subst h;obtain⟨cs',h1,h2⟩:=hv;obtain⟨c',hc⟩:=um (ag rt) rfl h1;subst hc;have h2:Value.slice A n cap=c':=h2;rw[h2];exact h1
def aY(x:ε)(h:rN rt ys v r1 d1 r2 d2):rN rt ys v (bF r0 r1) (x,d1) (bF r0 r2) (x,d2):=
 ⟨rfl,fun w ok _ hv ⟨c1,c2,e,g1,g2⟩=>⟨c1,c2,e,g1,h.2 w ok c2 hv g2⟩⟩
end
section
open Go.Maps (Keyed IsMap)
open Go.MapKept Go.ChangeMaps
structure ElT(P:Program)(e:TypeId)(γ:Type)(z:γ)where
 enc:γ→Value
 lit:γ→Lit
 ok:γ→Prop
 zok:ok z
 read:∀x,ok x→plainElem (H:=Unit) P e (enc x)=some (.lit (lit x),[])
 back:∀v x ps,plainElem (H:=Unit) P e v=some (.lit (lit x),ps)→v=enc x
 zero:∀w,(zeroValue e).run P w=.ok (enc z) w
structure KeyT(P:Program)(kt:TypeId)(κ:Type)where
 enc:κ→Value
 lit:κ→Lit
 ok:κ→Prop
 keyed:Keyed P kt
 read:∀x,ok x→keyOf P kt (enc x)=some (lit x)
 back:∀v l,keyOf P kt v=some l→∃x,ok x∧v=enc x
 inj:∀x y,enc x=enc y→x=y
section
variable{kt et:TypeId}{κ:Type}{z:γ}{K:KeyT P kt κ}{E:ElT P et γ z}
def DAt(E:ElT P et γ z)(D:DataW Unit)(l:Lit):Option γ→Prop
 | none=>Maps.has D l=false
 | some v=>Maps.has D l=true∧∀zd,D.atKey l zd=.lit (E.lit v)
def MapRep(K:KeyT P kt κ)(E:ElT P et γ z)(obj:Obj)(n:Nat)(f:κ→Option γ):Prop:=
 (∀i v,f i=some v→K.ok i∧E.ok v)∧∃D:DataW Unit,IsMap D∧(∀(w:World) (b:Nat),w.heap[b]?=some obj→w.ownsMap P kt (plainElem P et) b n D)∧∀i,K.ok i→DAt E D (K.lit i) (f i)
def DAt.get{D:DataW Unit}{l:Lit}{o:Option γ}(h:DAt E D l o):D.atKey l (.lit (E.lit z))=.lit (E.lit (o.getD z)):=by
 cases o with
 | none=>exact Maps.atKey_of_not_has h _
 | some v=>exact h.2 _
def MapRep.mono{n':Nat}{f:κ→Option γ}(h:MapRep K E obj n f)(hn:n≤n'):MapRep K E obj n' f:=
 ⟨h.1,h.2.imp fun D hD=>⟨hD.1,fun w b hb=>(hD.2.1 w b hb).mono hn,hD.2.2⟩⟩
def InvB.fresh(hi:InvB cx st β a w){hb0:HB}{l:Option (Nat×Nat)}(hf:fb nm st.slots=true)(hb:Below w.heap.size w w')(hl1:∀x,l=some x→w.heap.size≤x.1∧x.1<w'.heap.size)
 (hl2:hb0.holds w' (bY cx ((nm,hb0)::st.heap) (fun k=>if k=nm then l else β k) w') l):InvB cx ⟨st.slots,(nm,hb0)::st.heap⟩ (fun k=>if k=nm then l else β k) a w':=by
 have hl:=hi.later hb;have hok:∀b,bY cx st.heap β w b→bY cx ((nm,hb0)::st.heap) (fun k=>if k=nm then l else β k) w' b∧w'.heap[b]?=w.heap[b]?:=by exact US
 refine⟨hl.below,hl.old,hl.defers,hl.size,fun k hb' hk x hx=>?_,fun k k' h1 h2 hk hk' x y hx hy hxy=>?_,fun k hb' hk=>?_,fun i s hs=>?_⟩;exact Vu;exact Ti;exact UZ;exact UL
def InvB.turnMap(hi:InvB cx st β a w){o:Nat}{α':Type}{rt':RT α'}{xs':List α'}(hn:aG st.heap nm=some ⟨rt,xs⟩)(hb:β nm=some (b,o))(hobj:w.heap[b]?=some obj)(hnc:∀cur e fr,obj≠.cells cur e fr)
 (hg:BelowX (fun q=>q=b) w.heap.size w w') (hh:∀ok,(HB.mk rt' xs').holds w' ok (some (b,o))):InvB cx ⟨st.slots,(nm,⟨rt',xs'⟩)::st.heap⟩ β a w':=by
 have hown:=hi.own nm _ hn _ hb;have hothers:∀k hb',aG st.heap k=some hb'→k≠nm→∀x,β k=some x→x.1≠b:=fun k hb' hk hne x hx e1=>hne (hi.sep k nm _ _ hk hn x (b,o) hx hb e1);have hbl:∀k,k<w.heap.size→k≠b→w'.heap[k]?=w.heap[k]?:=fun k hk hne=>hg.blockX k hk hne;have hh0:∀k,aG ((nm,⟨rt',xs'⟩)::st.heap) k=if nm=k then some ⟨rt',xs'⟩else aG st.heap k:=fun k=>bA _ _ _ _
 have hok:∀b',bY cx st.heap β w b'→bY cx ((nm,⟨rt',xs'⟩)::st.heap) β w' b'∧w'.heap[b']?=w.heap[b']?:=by exact Ur
 refine⟨⟨hg.os.trans hi.below.os,hg.tape.trans hi.below.tape,hg.output.trans hi.below.output,wb hi.below.size hg.size,fun k hk hx=>?_,wb hi.below.drawn hg.drawn⟩,hi.old,hi.defers,hi.size,fun k hb' hk x hx=>?_,fun k k' h1 h2 hk hk' x y hx hy hxy=>?_,fun k hb' hk=>?_,fun i s hs'=>?_⟩;exact VT;exact Vl;exact UA;rw[hh0]at hk;by_cases e1:nm=k;subst e1;rw[Cg rfl]at hk;injection hk with hk;subst hk;rw[hb];exact hh _;rw[zE e1]at hk;exact HB.keep hok (fun x hx=>hbl _ (hi.own k hb' hk x hx).2 (hothers k _ hk (Ne.symm e1) x hx)) (hi.rows k hb' hk);obtain⟨v,h1,h2⟩:=hi.slots i s hs';refine⟨v,h1,SV.keep hok (fun k hk=>⟨rfl,fun b1 o1 _ cur e fr hc=>?_⟩) h2⟩;by_cases e1:b1=b;subst e1;rw[hobj]at hc;injection hc with hc;exact absurd hc (hnc _ _ _);exact⟨cur,e,fr,by rw[hbl b1 (InvB.cell_lt hc) e1];exact hc,rfl⟩
def z65{o':Obj}(w1:World)(hw:w1=w∨w1=w.drew):BelowX (fun q=>q=b) w.heap.size w (setBlock w1 b o'):=by rcases hw with rfl|rfl;exact⟨rfl,rfl,rfl,by simp[setBlock],fun k _ hk=>by simp only[setBlock];exact afw (fun e=>hk e.symm),Kl _⟩;exact⟨rfl,rfl,rfl,by show w.heap.size≤(w.heap.setIfInBounds b o').size;simp,fun k _ hk=>by show(w.heap.setIfInBounds b o')[k]?=_;exact afw (fun e=>hk e.symm),Nat.le_succ _⟩
end
end
section
open Go.Maps (Keyed IsMap)
open Go.MapKept Go.ChangeMaps
section
variable{kt et:TypeId}{κ:Type}{z:γ}{K:KeyT P kt κ}{E:ElT P et γ z}
end
end
section
variable[NM rt]
def xy{s:SV}(hdn:Nat.blt d cx.n=true)(hx:Ev st x s):
 GH P cx ops st ⟨some d,.move x,ty,pos,aft,none⟩ (some (d,s),none) [] []:=by intro st' hag _ a w hi Q;rw[Cg L0];exact ai (hag.ev aT hx) st' (Agr.refl _ _) d rfl QQ a w hi Q
def RetT(cx:Cx)(b o cap:Nat)(rt:RT α)(Q:List α→Prop)(r:SV):Ending→World→Prop:=fun e w'=>
 ∃v,e=.returned v∧BelowX cx.ex cx.w0.heap.size cx.w0 w'∧(∃ys cur' e',Q ys∧w'.heap[b]?=some (.cells cur' e' (0,0))∧o+cap*rt.n≤cur'.size∧gT rt w' (fun q=>Nd cx w' q∧q≠b) b o ys)∧r.holds qI w' (fun q=>Nd cx w' q∧q≠b) v
inductive KeepT(R:List Nat)(l:List (Nat×SV))(nm sz n:Nat)(v:Value):List Nat→List (Nat×SV)→Prop
 | nil:KeepT R l nm sz n v [] []
 | free {j:Nat} {ks:List Nat} {t:SV} {r:List (Nat×SV)} (h:bg l j=some t) (hf:t.within R=true) (hr:KeepT R l nm sz n v ks r):KeepT R l nm sz n v (j::ks) ((j,t)::r)
 | both {j:Nat} {ks:List Nat} {r:List (Nat×SV)} (h:bg l j=some (.both (.own nm sz 0 n) v)) (hr:KeepT R l nm sz n v ks r):KeepT R l nm sz n v (j::ks) ((j,.both (.own nm sz 0 n) v)::r)
 | lnk {j:Nat} {ks:List Nat} {s:SV} {r:List (Nat×SV)} (h:bg l j=some (.lnk s v (.own nm sz 0 n))) (hf:s.within R=true) (hr:KeepT R l nm sz n v ks r):KeepT R l nm sz n v (j::ks) ((j,.lnk s v (.own nm sz 0 n))::r)
def KeepT.look{l:List (Nat×SV)}{r:List (Nat×SV)}(h:KeepT R l nm sz n v ks r):∀i s,bg r i=some s→bg l i=some s∧(s.within R=true∨s=.both (.own nm sz 0 n) v∨∃s',s=.lnk s' v (.own nm sz 0 n)∧s'.within R=true):=by
 induction h with
 | nil=>intro i s hs;simp[bg]at hs
 | free h hf _ ih=>intro i s hs;rw[bC]at hs;split at hs;rename_i e;subst e;injection hs with hs;subst hs;exact⟨h,.inl hf⟩;exact ih i s hs
 | both h _ ih=>intro i s hs;rw[bC]at hs;split at hs;rename_i e;subst e;injection hs with hs;subst hs;exact⟨h,.inr (.inl rfl)⟩;exact ih i s hs
 | lnk h hf _ ih=>intro i s hs;rw[bC]at hs;split at hs;rename_i e;subst e;injection hs with hs;subst hs;exact⟨h,.inr (.inr ⟨_,rfl,hf⟩)⟩;exact ih i s hs
def InvB.turnRow(hi:InvB cx st β a w){o:Nat}{r:List (Nat×SV)}(hR:(R.all fun k=>!Nat.beq k nm&&(aG st.heap k).isSome)=true)(hn:aG st.heap nm=some ⟨rt,xs⟩)(hb:β nm=some (b,o))(hcap:n≤cap∧cap≤maxLen)
 (hk:KeepT R st.slots nm rt.n n (.slice (some ⟨b,o,none⟩) n cap) ks r) (hg:BelowX (fun q=>q=b) w.heap.size w w') {cur':Array Value} {e':TypeId} (hcur:w'.heap[b]?=some (.cells cur' e' (0,0))) (hfit:o+cap*rt.n≤cur'.size)
 (hrow:gT rt w' (fun q=>Nd (Cx.mk w (bY cx st.heap β w) 0 (fun q=>q=b)) w' q∧q≠b) b o ys):InvB cx ⟨r,(nm,⟨rt,ys⟩)::st.heap⟩ β a w':=by
 have hown:=hi.own nm _ hn _ hb;have hothers:∀k hb',aG st.heap k=some hb'→k≠nm→∀x,β k=some x→x.1≠b:=fun k hb' hk hne x hx e1=>hne (hi.sep k nm _ _ hk hn x (b,o) hx hb e1);have hbl:∀k,k<w.heap.size→k≠b→w'.heap[k]?=w.heap[k]?:=fun k hk hne=>hg.blockX k hk hne;have hh0:∀k,aG ((nm,HB.mk rt ys)::st.heap) k=if nm=k then some ⟨rt,ys⟩else aG st.heap k:=fun k=>bA _ _ _ _
 have hok:∀b',bY cx st.heap β w b'→bY cx ((nm,⟨rt,ys⟩)::st.heap) β w' b'∧w'.heap[b']?=w.heap[b']?:=by exact Ur
 have hok2:∀q,(Nd (Cx.mk w (bY cx st.heap β w) 0 (fun q=>q=b)) w' q∧q≠b)→bY cx ((nm,⟨rt,ys⟩)::st.heap) β w' q:=fun q hq=>by exact Uc
 refine⟨⟨hg.os.trans hi.below.os,hg.tape.trans hi.below.tape,hg.output.trans hi.below.output,wb hi.below.size hg.size,fun k hk hx=>?_,wb hi.below.drawn hg.drawn⟩,hi.old,hi.defers,hi.size,fun k hb' hk x hx=>?_,fun k k' h1 h2 hk hk' x y hx hy hxy=>?_,fun k hb' hk=>?_,fun i s hs'=>?_⟩;exact VT;exact Vl;exact UA;exact Tr;obtain⟨hs0,hcase⟩:=hk.look i s hs';obtain⟨v,h1,h2⟩:=hi.slots i s hs0;have hRk:∀k∈R,k≠nm∧∃hb,aG st.heap k=some hb:=fun k hk=>by
  have:=Qe.1 hR k hk;rw[YC]at this;refine⟨fun e=>abm,?_⟩;cases h:aG st.heap k with
  | none=>rw[h]at this;simp at this
  | some hb=>exact⟨hb,rfl⟩
 have hfree:∀(s:SV) (v:Value),s.within R=true→s.holds β w (bY cx st.heap β w) v→s.holds β w' (bY cx ((nm,⟨rt,ys⟩)::st.heap) β w') v:=fun s v hf hv=>
  SV.keep hok (fun k hk=>⟨rfl,fun b1 o1 hbo cur e fr hc=>by
   obtain⟨hne,hb2,hlk⟩:=hRk k (SV.within_mem hf hk)
   have hb1:b1≠b:=hothers k hb2 hlk hne (b1,o1) hbo
   exact⟨cur,e,fr,by rw[hbl b1 (InvB.cell_lt hc) hb1];exact hc,rfl⟩⟩) hv
 have hhd:Yq β w' nm rt.n 0 n (.slice (some ⟨b,o,none⟩) n cap):=by simp only[Yq];rw[hb];exact⟨_,cap,rfl,hcap.1,hcap.2,.inr ⟨Sp,cur',e',(0,0),hcur,by rw[N1];exact hfit⟩⟩
 rcases hcase with hf|rfl|⟨s',rfl,hf⟩;exact⟨v,h1,hfree s v hf h2⟩;obtain⟨_,q2⟩:=h2;exact⟨v,h1,by rw[q2];exact hhd,q2⟩;obtain⟨q1,q2⟩:=h2;exact⟨v,h1,hfree s' v hf q1,hhd⟩
end
section
def InvB.turnS(hb:InvB cx st β a w){s s':SV}(hs:bg st.slots i=some s)(h:∀v,s.holds β w (bY cx st.heap β w) v→s'.holds β w (bY cx st.heap β w) v):InvB cx ⟨(i,s')::st.slots,st.heap⟩ β a w:=by refine⟨hb.below,hb.old,hb.defers,hb.size,hb.own,hb.sep,hb.rows,fun q t hq=>?_⟩;rw[bC]at hq;split at hq;rename_i e;subst e;injection hq with hq;subst hq;obtain⟨v,h1,h2⟩:=hb.slots i _ hs;exact⟨v,h1,h v h2⟩;exact hb.slots q t hq
def okR{s:SV}(rt:RT α)[NM rt](hs:bg st.slots c0=some s)(hf:fb nm st.slots=true)(hno:aG st.heap nm=none)(hi:Inv cx st a w):
 Inv cx ⟨(c0,.lnk s (.slice none 0 0) (.own nm rt.n 0 0))::st.slots,(nm,⟨rt,([]:List α)⟩)::st.heap⟩ a w:=by
 obtain⟨β,hb⟩:=hi;have hk:∀k h,aG ((nm,HB.mk rt ([]:List α))::st.heap) k=some h→(k=nm∧h=⟨rt,[]⟩)∨(k≠nm∧aG st.heap k=some h):=fun k h hh=>by exact V5
 let β':Loc:=fun k=>if k=nm then none else β k
 have hβ:∀k,k≠nm→β' k=β k:=fun k hk=>by simp[β',hk]
 have hβn:β' nm=none:=by simp[β']
 have hok:∀b,bY cx st.heap β w b→bY cx ((nm,HB.mk rt ([]:List α))::st.heap) β' w b∧w.heap[b]?=w.heap[b]?:=fun b ⟨h1,h2,h3⟩=>⟨⟨h1,h2,fun k h hh x hx=>by rcases hk k h hh with⟨rfl,_⟩|⟨hne,hh⟩;rw[hβn]at hx;cases hx;rw[hβ k hne]at hx;exact h3 k h hh x hx⟩,rfl⟩
 have hfree:∀(t:SV) (v:Value),t.free nm=true→t.holds β w (bY cx st.heap β w) v→t.holds β' w (bY cx ((nm,HB.mk rt ([]:List α))::st.heap) β' w) v:=fun t v ht hv=>
  SV.keep hok (fun k hkf=>⟨hβ k (fun e=>by subst e;rw[ht]at hkf;cases hkf),fun b o _ cur e fr hc=>⟨cur,e,fr,hc,rfl⟩⟩) hv
 refine⟨β',hb.below,hb.old,hb.defers,hb.size,fun k h hh x hx=>?_,fun k k' h h' hh hh' x y hx hy he=>?_,fun k h hh=>?_,fun q t hq=>?_⟩;rcases hk k h hh with⟨rfl,_⟩|⟨hne,hh⟩;rw[hβn]at hx;cases hx;rw[hβ k hne]at hx;exact hb.own k h hh x hx;rcases hk k h hh with⟨rfl,_⟩|⟨hne,hh⟩;rw[hβn]at hx;cases hx;rcases hk k' h' hh' with⟨rfl,_⟩|⟨hne',hh'⟩;rw[hβn]at hy;cases hy;rw[hβ k hne]at hx;rw[hβ k' hne']at hy;exact hb.sep k k' h h' hh hh' x y hx hy he;rcases hk k h hh with⟨rfl,rfl⟩|⟨hne,hh⟩;rw[hβn];rfl;rw[hβ k hne];exact HB.keep hok (fun x hx=>rfl) (hb.rows k h hh);rw[bC]at hq;split at hq;rename_i e;subst e;injection hq with hq;subst hq;obtain⟨v,h1,h2⟩:=hb.slots c0 _ hs;refine⟨v,h1,hfree s v (gQ hf hs) h2,?_⟩;simp only[SV.holds,Yq,hβn];exact⟨trivial,trivial⟩;obtain⟨v,h1,h2⟩:=hb.slots q t hq;exact⟨v,h1,hfree t v (gQ hf hq) h2⟩
def iB(c0 nm:Nat){s:SV}(rt:RT α)[NM rt](hs:bg st.slots c0=some s)(hf:fb nm st.slots=true)(hno:aG st.heap nm=none)
 (h:J P cx ⟨(c0,.lnk s (.slice none 0 0) (.own nm rt.n 0 0))::st.slots,(nm,⟨rt,([]:List α)⟩)::st.heap⟩ c k):J P cx st c k:=fun a w hi=>h a w (okR rt hs hf hno hi)
def si{s t:SV}(hc:bg st.slots c0=some (.lnk s u t))(hj:bg st.slots j=some (.raw u))(hne:Nat.beq j c0=false)(hi:Inv cx st a w):Inv cx ⟨(c0,s)::(j,t)::st.slots,st.heap⟩ a w:=by
 obtain⟨β,hb⟩:=hi;obtain⟨_,_,_,ht⟩:=hb.slots c0 _ hc;have h1:=hb.turnS (s':=t) hj fun v hv=>aaN;have hc':bg ((j,t)::st.slots) c0=some (.lnk s u t):=by rw[show bg ((j,t)::st.slots) c0=bif Nat.beq j c0 then some t else bg st.slots c0 from rfl,hne];exact hc
 exact⟨β,h1.turnS (s':=s) hc' fun v hv=>hv.1⟩
def jD(c0 j:Nat){s t:SV}(hc:bg st.slots c0=some (.lnk s u t))(hj:bg st.slots j=some (.raw u))(hne:Nat.beq j c0=false)(h:JG P cx ops ⟨(c0,s)::(j,t)::st.slots,st.heap⟩ l k):JG P cx ops st l k:=fun a w hi=>h a w (si hc hj hne hi)
def vZ{s:SV}(hc:bg st.slots c0=some s)(hj:bg st.slots j=some (.own nm sz off n))(hi:Inv cx st a w):
 ∃A cap,Inv cx ⟨(c0,.lnk s (.slice A n cap) (.own nm sz off n))::(j,.raw (.slice A n cap))::st.slots,st.heap⟩ a w:=by obtain⟨β,hb⟩:=hi;obtain⟨v,h1,h2⟩:=hb.slots j _ hj;obtain⟨A,cap,rfl⟩:=mC h2;obtain⟨v0,h3,h4⟩:=hb.slots c0 _ hc;refine⟨A,cap,β,hb.below,hb.old,hb.defers,hb.size,hb.own,hb.sep,hb.rows,fun q t hq=>?_⟩;rw[bC]at hq;split at hq;rename_i e;subst e;injection hq with hq;subst hq;exact⟨v0,h3,h4,h2⟩;rw[bC]at hq;split at hq;rename_i e;subst e;injection hq with hq;subst hq;exact⟨_,h1,rfl⟩;exact hb.slots q t hq
def ge(c0 j:Nat){s:SV}(hc:bg st.slots c0=some s)(hj:bg st.slots j=some (.own nm sz off n))
 (h:∀A cap,JG P cx ops ⟨(c0,.lnk s (.slice A n cap) (.own nm sz off n))::(j,.raw (.slice A n cap))::st.slots,st.heap⟩ l k):JG P cx ops st l k:=fun a w hi=>by obtain⟨A,cap,h1⟩:=vZ hc hj hi;exact h A cap a w h1
def Y16[NM rt]{s:SV}(hs:bg st.slots c0=some (.lnk s u (.own nm rt.n off n)))(hn:aG st.heap nm=some ⟨rt,xs⟩)(hle:off+n≤xs.length)(hsub:∀j s,aG hp j=some s→aG st.heap j=some s)(hno:aG hp nm=none)(hi:Inv cx st a w):
 Inv cx ⟨(c0,.lnk s u (.tv (ag rt) ((xs.drop off).take n)))::st.slots,hp⟩ a w:=by obtain⟨β,hb⟩:=hi;have hok:∀b,bY cx st.heap β w b→bY cx hp β w b:=fun b ⟨h1,h2,h3⟩=>⟨h1,h2,fun k h hk=>h3 k h (hsub _ _ hk)⟩;have hb':InvB cx ⟨st.slots,hp⟩ β a w:=hb.toHeap hsub;obtain⟨v,h1,h2,h3⟩:=hb.slots c0 _ hs;obtain⟨v',h1',h2',_⟩:=hb'.slots c0 _ hs;refine⟨β,hb'.below,hb'.old,hb'.defers,hb'.size,hb'.own,hb'.sep,hb'.rows,fun j s hj=>?_⟩;simp only[bC]at hj;split at hj;rename_i e1;subst e1;injection hj with hj;subst hj;refine⟨v',h1',h2',fK hb hn h3 hle hok (fun b o hbo=>?_)⟩;exact VF;exact hb'.slots j s hj
def dv(nm c0:Nat)[NM rt]{s:SV}(hp:List (Nat×HB))(hs:bg st.slots c0=some (.lnk s u (.own nm rt.n off n)))(hn:aG st.heap nm=some ⟨rt,xs⟩)(hle:off+n≤xs.length)(hsub:∀j s,aG hp j=some s→aG st.heap j=some s)(hno:aG hp nm=none)
 (h:J P cx ⟨(c0,.lnk s u (.tv (ag rt) ((xs.drop off).take n)))::st.slots,hp⟩ c k):J P cx st c k:=fun a w hi=>h a w (Y16 hs hn hle hsub hno hi)
def rvK{s:SV}[NM r1][NM r2](hc:rN rt ys u r1 d1 r2 d2)(hnn:r1.n=r2.n)(hs:bg st.slots c0=some (.lnk s u (.tv (ag rt) ys)))(hn:aG st.heap nb=some ⟨r1,[d1]⟩)(hi:Inv cx st a w):
 Inv cx ⟨(c0,s)::st.slots,(nb,⟨r2,[d2]⟩)::st.heap⟩ a w:=by
 obtain⟨β,hb⟩:=hi;obtain⟨v0,h0,h1,h2⟩:=hb.slots c0 _ hs;have hk:∀k h,aG ((nb,HB.mk r2 [d2])::st.heap) k=some h→(k=nb∧h=⟨r2,[d2]⟩)∨(k≠nb∧aG st.heap k=some h):=fun k h hh=>by exact V5
 have hk':∀k h,aG ((nb,HB.mk r2 [d2])::st.heap) k=some h→∃h',aG st.heap k=some h':=fun k h hh=>by rcases hk k h hh with⟨rfl,_⟩|⟨_,hh⟩;exact⟨_,hn⟩;exact⟨_,hh⟩
 have hok:∀b,bY cx st.heap β w b→bY cx ((nb,HB.mk r2 [d2])::st.heap) β w b∧w.heap[b]?=w.heap[b]?:=fun b ⟨g1,g2,g3⟩=>⟨⟨g1,g2,fun k h hh x hx=>by obtain⟨h',hh'⟩:=hk' k h hh;exact g3 k h' hh' x hx⟩,rfl⟩
 have hkeep:∀(t:SV) (v:Value),t.holds β w (bY cx st.heap β w) v→t.holds β w (bY cx ((nb,HB.mk r2 [d2])::st.heap) β w) v:=fun t v hv=>
  SV.keep hok (fun k _=>⟨rfl,fun b o _ cur e fr hc=>⟨cur,e,fr,hc,rfl⟩⟩) hv
 refine⟨β,hb.below,hb.old,hb.defers,hb.size,fun k h hh x hx=>?_,fun k k' h h' hh hh' x y hx hy he=>?_,fun k h hh=>?_,fun q t hq=>?_⟩;obtain⟨h',hh'⟩:=hk' k h hh;exact hb.own k h' hh' x hx;obtain⟨g,hg⟩:=hk' k h hh;obtain⟨g',hg'⟩:=hk' k' h' hh';exact hb.sep k k' g g' hg hg' x y hx hy he;rcases hk k h hh with⟨rfl,rfl⟩|⟨hne,hh⟩;have hr:=hb.rows k _ hn;cases hβ:β k with
 | none=>rw[hβ]at hr;cases hr
 | some bo=>
  obtain⟨b,o⟩:=bo;rw[hβ]at hr;refine⟨fun _=>?_,fun hm=>aaj⟩;obtain⟨cur,e,g1,g2,g3⟩:=hr.1 NM.no;refine⟨cur,e,g1,by simpa[←hnn]using g2,fun i x hx=>?_⟩;cases i with
  | succ i=>simp at hx
  | zero=>simp at hx;subst hx;obtain⟨cs,g4,g5⟩:=g3 0 d1 rfl;exact⟨cs,hc.2 _ _ _ ((ag rt).val_keep hok h2) (r1.keep hok g4),by simpa[←hnn]using g5⟩
 exact HB.keep hok (fun x hx=>rfl) (hb.rows k h hh);rw[bC]at hq;split at hq;rename_i e;subst e;injection hq with hq;subst hq;exact⟨v0,h0,hkeep _ _ h1⟩;obtain⟨v,g1,g2⟩:=hb.slots q t hq;exact⟨v,g1,hkeep _ _ g2⟩
def eg(c0 nb:Nat){s:SV}[NM r1](r2:RT δ)[NM r2](d2:δ)(hc:rN rt ys u r1 d1 r2 d2)(hnn:r1.n=r2.n)(hs:bg st.slots c0=some (.lnk s u (.tv (ag rt) ys)))(hn:aG st.heap nb=some ⟨r1,[d1]⟩)
 (h:J P cx ⟨(c0,s)::st.slots,(nb,⟨r2,[d2]⟩)::st.heap⟩ c k):J P cx st c k:=fun a w hi=>h a w (rvK hc hnn hs hn hi)
def eC(x:ε)(h:rN rt ys v r1 d1 r2 d2):rN rt ys v (bF r1 r0) (d1,x) (bF r2 r0) (d2,x):=
 ⟨rfl,fun w ok _ hv ⟨c1,c2,e,g1,g2⟩=>⟨c1,c2,e,h.2 w ok c1 hv g1,g2⟩⟩
def vx(r1:RT γ)(d1:γ)(r2:RT δ)(f:Option Addr×Nat×Nat→δ):Prop:=
 r1.agg=r2.agg∧∀(w:World) (ok:Ok) (cs:List Value),r1.rep w ok cs d1→∃h,r2.rep w ok cs (f h)
def ut:vx (ag rt) ys rHd (fun h=>h):=by refine⟨rfl,fun w ok cs h=>?_⟩;obtain⟨A,cap,e,_⟩:=h;exact⟨(A,ys.length,cap),e⟩
def gM(x:ε)(h:vx r1 d1 r2 f):vx (bF r0 r1) (x,d1) (bF r0 r2) (fun y=>(x,f y)):=
 ⟨rfl,fun w ok _ ⟨c1,c2,e,g1,g2⟩=>by obtain⟨y,hy⟩:=h.2 w ok c2 g2;exact⟨y,c1,c2,e,g1,hy⟩⟩
def Bf(x:ε)(h:vx r1 d1 r2 f):vx (bF r1 r0) (d1,x) (bF r2 r0) (fun y=>(f y,x)):=
 ⟨rfl,fun w ok _ ⟨c1,c2,e,g1,g2⟩=>by obtain⟨y,hy⟩:=h.2 w ok c1 g1;exact⟨y,c1,c2,e,hy,g2⟩⟩
def Bu[NM r1][NM r2](hc:vx r1 d1 r2 f)(hnn:r1.n=r2.n)(hn:aG st.heap nb=some ⟨r1,[d1]⟩)(hi:Inv cx st a w):
 ∃h,Inv cx ⟨st.slots,(nb,⟨r2,[f h]⟩)::st.heap⟩ a w:=by
 obtain⟨β,hb⟩:=hi;have hr:=hb.rows nb _ hn;cases hβ:β nb with
 | none=>rw[hβ]at hr;cases hr
 | some bo=>
 obtain⟨b,o⟩:=bo;rw[hβ]at hr;obtain⟨cur,e,g1,g2,g3⟩:=hr.1 NM.no;obtain⟨cs,g4,g5⟩:=g3 0 d1 rfl;obtain⟨h,hh2⟩:=hc.2 _ _ _ g4;refine⟨h,?_⟩;have hk:∀k h',aG ((nb,HB.mk r2 [f h])::st.heap) k=some h'→(k=nb∧h'=⟨r2,[f h]⟩)∨(k≠nb∧aG st.heap k=some h'):=fun k h' hh=>by exact V5
 have hk':∀k h',aG ((nb,HB.mk r2 [f h])::st.heap) k=some h'→∃h'',aG st.heap k=some h'':=fun k h' hh=>by rcases hk k h' hh with⟨rfl,_⟩|⟨_,hh⟩;exact⟨_,hn⟩;exact⟨_,hh⟩
 have hok:∀b,bY cx st.heap β w b→bY cx ((nb,HB.mk r2 [f h])::st.heap) β w b∧w.heap[b]?=w.heap[b]?:=fun b ⟨g1,g2,g3⟩=>⟨⟨g1,g2,fun k h' hh x hx=>by obtain⟨h'',hh'⟩:=hk' k h' hh;exact g3 k h'' hh' x hx⟩,rfl⟩
 have hkeep:∀(t:SV) (v:Value),t.holds β w (bY cx st.heap β w) v→t.holds β w (bY cx ((nb,HB.mk r2 [f h])::st.heap) β w) v:=fun t v hv=>
  SV.keep hok (fun k _=>⟨rfl,fun b o _ cur e fr hc=>⟨cur,e,fr,hc,rfl⟩⟩) hv
 refine⟨β,hb.below,hb.old,hb.defers,hb.size,fun k h' hh x hx=>?_,fun k k' h' h'' hh hh' x y hx hy he=>?_,fun k h' hh=>?_,fun q t hq=>?_⟩;obtain⟨g,hg⟩:=hk' k h' hh;exact hb.own k g hg x hx;obtain⟨q,hg⟩:=hk' k h' hh;obtain⟨q',hg'⟩:=hk' k' h'' hh';exact hb.sep k k' q q' hg hg' x y hx hy he;rcases hk k h' hh with⟨rfl,rfl⟩|⟨hne,hh⟩;rw[hβ];refine⟨fun _=>?_,fun hm=>aaj⟩;refine⟨cur,e,g1,by simpa[←hnn]using g2,fun i x hx=>?_⟩;cases i with
 | succ i=>simp at hx
 | zero=>simp at hx;subst hx;exact⟨cs,r2.keep hok hh2,by simpa[←hnn]using g5⟩
 exact HB.keep hok (fun x hx=>rfl) (hb.rows k h' hh);obtain⟨v,g1,g2⟩:=hb.slots q t hq;exact⟨v,g1,hkeep _ _ g2⟩
def adP(nb:Nat)[NM r1](r2:RT δ)[NM r2](hc:vx r1 d1 r2 f)(hnn:r1.n=r2.n)(hn:aG st.heap nb=some ⟨r1,[d1]⟩)
 (h:∀y,J P cx ⟨st.slots,(nb,⟨r2,[f y]⟩)::st.heap⟩ c k):J P cx st c k:=fun a w hi=>by obtain⟨y,h1⟩:=Bu hc hnn hn hi;exact h y a w h1
def JT(P:Program)(cx:Cx)(l:List Oper)(i:Nat)(st:St)(k:Kn):Prop:=∀a w,Inv cx st a w→wpAny P .any l.toArray (k.post P) (l.length-i) (Yw l.toArray.size i) a w
def oW(hi':i=l.length)(hn:JN P cx st k):JT P cx l i st k:=by
 subst hi';intro a w hi;rw[O5];refine⟨?_,hn a w hi⟩;cases hr:Region.ready .any l.toArray (Yw l.toArray.size l.length)with
 | nil=>rfl
 | cons i r=>
  exfalso;have hmem:i∈Region.ready .any l.toArray (Yw l.toArray.size l.length):=by rw[hr];simp
  obtain⟨hun,oi,hoi,_⟩:=mem_ready.1 hmem;have:=(Gm.1 hoi).1;rw[dR true this]at hun;simp at hun;simp at this;omega
def H5(hom:l[i]?=some om)(hg:om.guard=none)(hrd:Region.ready .any l.toArray (Yw l.toArray.size i)=[i])
 (h:∀a w,Inv cx st a w→∀Q,om.wp P a w (fun a' w'=>Inv cx st' a' w') Q) (hn:JT P cx l (i+1) st' k):JT P cx l i st k:=by
 intro a w hi;have hil:i<l.length:=(Y0.1 hom).1;have homs:l.toArray[i]?=some om:=by simpa using hom
 rw[show l.length-i=l.length-(i+1)+1 by omega];refine⟨fun hnil=>(by rw[hrd]at hnil;cases hnil),fun j hr=>?_⟩;rw[hrd]at hr;obtain rfl:j=i:=acu;have hset:(Yw l.toArray.size j).setIfInBounds j true=Yw l.toArray.size (j+1):=by refine oX (by simp[Yw]) fun q hq=>?_;by_cases e:j=q;subst e;simp[Yw,hil];rw[getD_set_ne false e,dR false hq];simp;omega
 rw[hset];unfold wpOp;simp only[homs];rw[Cg aa8];exact .inl (Oper.wp_mono hn (h a w hi _))
def oE(st1:St)(hom:l[i]?=some om)(hg:om.guard=none)(hrd:Region.ready .any l.toArray (Yw l.toArray.size i)=[i])(h:OS P cx om st st1)(hn:JT P cx l (i+1) st1 k):JT P cx l i st k:=
 H5 hom hg hrd (fun a w hi Q=>h a w hi Q) hn
def kF(s:SV)(d:Nat)(hom:l[i]?=some om)(hg:om.guard=none)(hd:om.dst=some d)(hdn:Nat.blt d cx.n=true)(hrd:Region.ready .any l.toArray (Yw l.toArray.size i)=[i])(h:aH P cx st om s)(hn:JT P cx l (i+1) (st.put d s) k):JT P cx l i st k:=
 H5 hom hg hrd (fun a w hi Q=>h st (.refl om st) d hd QQ a w hi Q) hn
def uI(c0 j:Nat){s t:SV}(hc:bg st.slots c0=some (.lnk s u t))(hj:bg st.slots j=some (.raw u))(hne:Nat.beq j c0=false)(h:JT P cx l i ⟨(c0,s)::(j,t)::st.slots,st.heap⟩ k):JT P cx l i st k:=fun a w hi=>h a w (si hc hj hne hi)
def mv(c0 j:Nat){s:SV}(hc:bg st.slots c0=some s)(hj:bg st.slots j=some (.own nm sz off n))
 (h:∀A cap,JT P cx l i ⟨(c0,.lnk s (.slice A n cap) (.own nm sz off n))::(j,.raw (.slice A n cap))::st.slots,st.heap⟩ k):JT P cx l i st k:=fun a w hi=>by obtain⟨A,cap,h1⟩:=vZ hc hj hi;exact h A cap a w h1
def my{id:Nat}{cs1:List (Nat×SV)}(m:Nat)(hm:P.follows .mixedOrders=true)(hB:vh l.toArray=true)(hbar:QY l.toArray m=true)(hml:m<l.length)
 (has1:AS P cx l.toArray st (l.take m) cs1) (ht:JT P cx l m (iy st cs1 (fun _=>true)) k):J P cx st (.region id l.toArray true) k:=by
 have dk:=pE hB
 unfold QY at hbar
 rw[YC,Qe,Qe]at hbar
 obtain⟨hb1,hb2⟩:=hbar
 intro a w hi
 refine wp_region_any hm ?_
 obtain⟨β,hb⟩:=hi
 have hi0:Inv cx st a w.drew:=⟨β,hb.later (Below.drew' w)⟩
 have hst0:Inv cx (iy st cs1 (fun i=>(Array.replicate l.toArray.size false).getD (0+i) false)) a w.drew:=by
  exact VZ
 have hL:Lst l.toArray 0 m (Array.replicate l.toArray.size false):=
  ⟨Sp,fun i h=>So,fun i h1 h2=>aaw,fun j oj hj hl=>aaF⟩
 have hu:Nf (Array.replicate l.toArray.size false)=m+(l.toArray.size-m):=by rw[t8];simp;omega
 have hbehind:∀(hi':Nat) (listed:Array Bool),hi'≤m→Lst l.toArray 0 hi' listed→∀i∈Region.ready .any l.toArray listed,m<i→False:=by
  exact Tq
 have hmid:∀a w,Inv cx (iy st cs1 (fun _=>true)) a w→wpAny P .any l.toArray (k.post P) (l.length-(m+1)+1) (Yw l.toArray.size m) a w:=by
  intro a w hi
  have:=ht a w hi
  rwa [show l.length-m=l.length-(m+1)+1 by omega]at this
 have:=vg (P:=P) (Q:=k.post P) (g:=l.length-(m+1)+1) dk (lo:=0) (hi:=m) (P8 _) QE QE (fun i hi=>by
  simp only[KC]at hi
  rw[rD So];simp) has1
  (fun listed hL i hr hge=>by
   have him:i=m:=by
    exact WC
   subst him
   obtain⟨_,oi,hoi,hdeps⟩:=mem_ready.1 hr
   have hall:∀d j,i-j=d→j<i→listed.getD j false=true:=by
    exact Tg
   have he:listed=Yw l.toArray.size i:=oX hL.size fun j hj=>by
    exact Wj
   have hcnt:∀n mm:Nat,Nf (Yw n mm)=n-mm:=by
    exact UN
   rw[he,hcnt])
  hmid m _ hL hu a w.drew hst0
 have e2:l.toArray.size=m+(l.length-(m+1)+1):=QE
 rw[e2]
 rw[e2]at this
 exact this
end
section
variable[NM rt]
abbrev qH(bo:Option (Nat×Nat))(q:Nat):Prop:=∀x,bo=some x→x.1≠q
def IY(rt:RT α)(w:World)(ok:Ok)(pb po:Nat)(A:Option Addr)(n cap:Nat)(bo:Option (Nat×Nat))(xs:List α):Prop:=
 gT rHd w ok pb po [(A,n,cap)]∧HB.holds w ok ⟨rt,xs⟩ bo∧Yq (fun _=>bo) w 101 rt.n 0 n (.slice A n cap)
abbrev dE(pb po:Nat):Value:=.pointer (some ⟨pb,po,none⟩)
def Q8(cx:Cx)(pb po:Nat)(rt:RT α)(Q:List α→Prop)(r:SV):Ending→World→Prop:=fun e w'=>
 ∃v,e=.returned v∧BelowX cx.ex cx.w0.heap.size cx.w0 w'∧∃ys A n cap bo,Q ys∧n=ys.length∧(∀x,bo=some x→cx.new x.1∧x.1<w'.heap.size∧x.1≠pb)∧
  IY rt w' (fun q=>Nd cx w' q∧q≠pb∧qH bo q) pb po A n cap bo ys∧r.holds qI w' (fun q=>Nd cx w' q∧q≠pb∧qH bo q) v
inductive KeepP(R:List Nat)(l:List (Nat×SV)):List Nat→List (Nat×SV)→Prop
 | nil:KeepP R l [] []
 | free {j:Nat} {ks:List Nat} {t:SV} {r:List (Nat×SV)} (h:bg l j=some t) (hf:t.within R=true) (hr:KeepP R l ks r):KeepP R l (j::ks) ((j,t)::r)
def KeepP.look{l:List (Nat×SV)}{r:List (Nat×SV)}(h:KeepP R l ks r):∀i s,bg r i=some s→bg l i=some s∧s.within R=true:=by
 induction h with
 | nil=>intro i s hs;simp[bg]at hs
 | free h hf _ ih=>intro i s hs;rw[bC]at hs;split at hs;rename_i e;subst e;injection hs with hs;subst hs;exact⟨h,hf⟩;exact ih i s hs
def boxS(nb:Nat)(s:SV):Prop:=s=.optr nb 1 0 0∨∃p,s=.both (.optr nb 1 0 0) p
def boxS.holds{nb:Nat}{s:SV}(h:boxS nb s){ok ok':Ok}{β':Loc}(e:β' nb=β nb){v:Value}(hv:s.holds β w ok v):s.holds β' w' ok' v:=by rcases h with rfl|⟨p,rfl⟩;obtain⟨b,o,h1,h2⟩:=hv;exact⟨b,o,e.trans h1,h2⟩;obtain⟨⟨b,o,h1,h2⟩,h3⟩:=hv;exact⟨⟨b,o,e.trans h1,h2⟩,h3⟩
def boxS.at{s:SV}(h:boxS nb s)(hv:s.holds β w ok v):∃b o,β nb=some (b,o)∧v=dE b o:=by rcases h with rfl|⟨p,rfl⟩;obtain⟨b,o,h1,h2⟩:=hv;exact⟨b,o,h1,J3⟩;obtain⟨⟨b,o,h1,h2⟩,h3⟩:=hv;exact⟨b,o,h1,J3⟩
end
section
def iW(rt:RT α):Nat→List (List α)→List (Nat×HB)
 | _,[]=>[]
 | b,xs::r=>(b,⟨rt,xs⟩)::iW rt (b+1) r
def jW(rt:RT α):∀(xss:List (List α)) (b k:Nat),aG (iW rt b xss) k=if b≤k then(xss[k-b]?).map (fun xs=>HB.mk rt xs)else none
 | [],b,k=>by simp[iW,aG]
 | xs::r,b,k=>by rw[iW,bA,jW rt r (b+1) k];by_cases h1:b=k;subst h1;simp;rw[zE h1];by_cases h2:b≤k;rw[Cg So,Cg h2,show k-b=(k-(b+1))+1 by omega];simp;rw[zE So,zE h2]
def xE{k:Nat}(h:Nat.blt k b=true):aG (iW rt b xss) k=none:=by rw[jW,zE];have:=oZ h;omega
def C1{x:Nat}:aG (iW rt b xss) (x+b)=(xss[x]?).map (fun xs=>HB.mk rt xs):=by rw[jW,Cg So,show x+b-b=x by omega]
inductive Tl(b:Nat)(T:List (Nat×HB)):List (Nat×HB)→Prop
 | nil:Tl b T T
 | cons {k:Nat} {x:HB} {l:List (Nat×HB)} (hk:Nat.blt k b=true) (h:Tl b T l):Tl b T ((k,x)::l)
def Tl.look{l:List (Nat×HB)}(h:Tl b T l){k:Nat}(hk:b≤k):aG l k=aG T k:=by
 induction h with
 | nil=>rfl
 | cons h1 _ ih=>rw[bA,zE (by have:=oZ h1;omega),ih]
def dU{xss':List (List α)}{l:List (Nat×HB)}(h:Tl b (iW rt b xss) l)(e:xss=xss'):∀i s,aG (iW rt b xss') i=some s→aG l i=some s:=by subst e;intro i s hs;rw[h.look,hs];rw[jW]at hs;split at hs;assumption;cases hs
inductive KeepHF(l T:List (Nat×HB)):List Nat→List (Nat×HB)→Prop
 | nil:KeepHF l T [] T
 | cons {j:Nat} {ks:List Nat} {t:HB} {r:List (Nat×HB)} (h:aG l j=some t) (hr:KeepHF l T ks r):KeepHF l T (j::ks) ((j,t)::r)
def KeepHF.sub{l:List (Nat×HB)}{r:List (Nat×HB)}(h:KeepHF l T ks r)(hT:∀i s,aG T i=some s→aG l i=some s):∀i s,aG r i=some s→aG l i=some s:=by
 induction h with
 | nil=>exact hT
 | cons h _ ih=>exact ao h rfl ih
def mY(b:Nat):List (Nat×HB)→Bool
 | []=>true
 | (k,_)::r=>Nat.blt k b&&mY b r
def mI{b:Nat}:∀{l:List (Nat×HB)} {k:Nat} {h:HB},mY b l=true→aG l k=some h→k<b
 | [],_,_,_,h=>by simp[aG]at h
 | (j,t)::r,k,s,hl,h=>by simp only[mY,YC]at hl;rw[bA]at h;split at h;rename_i e;subst e;exact oZ hl.1;exact mI hl.2 h
def SV.low(b:Nat):SV→Bool
 | .own k _ _ _ | .optr k _ _ _ | .mref k | .epown k _ _ _=>Nat.blt k b
 | .both s _=>s.low b
 | .lnk s _ t=>s.low b&&t.low b
 | .fam ..=>false
 | .gd _ s=>s.low b
 | .tup2 s t=>s.low b&&t.low b
 | .tup3 s t u=>s.low b&&t.low b&&u.low b
 | .tup4 s t u v=>s.low b&&t.low b&&u.low b&&v.low b
 | _=>true
def SV.low_free{b nm:Nat}(hb:b≤nm):∀{s:SV},s.low b=true→s.free nm=true
 | .raw _,_=>rfl
 | .tv _ _,_=>rfl
 | .eptr _ _,_=>rfl
 | .own k _ _ _,h | .optr k _ _ _,h | .mref k,h | .epown k _ _ _,h=>by
  simp only[SV.low]at h
  have:=oZ h
  simp only[SV.free,afo]
  cases e:Nat.beq k nm with
  | false=>rfl
  | true=>have:=OR e;omega
 | .both s _,h=>SV.low_free hb (s:=s) h
 | .gd _ s,h=>SV.low_free hb (s:=s) h
 | .lnk s _ t,h=>by simp only[SV.low,YC]at h;simp[SV.free,SV.low_free hb h.1,SV.low_free hb h.2]
 | .tup2 s t,h=>by simp only[SV.low,YC]at h;simp[SV.free,SV.low_free hb h.1,SV.low_free hb h.2]
 | .tup3 s t u,h=>by simp only[SV.low,YC]at h;simp[SV.free,SV.low_free hb h.1.1,SV.low_free hb h.1.2,SV.low_free hb h.2]
 | .tup4 s t u v,h=>by simp only[SV.low,YC]at h;simp[SV.free,SV.low_free hb h.1.1.1,SV.low_free hb h.1.1.2,SV.low_free hb h.1.2,SV.low_free hb h.2]
def mX(b:Nat):List (Nat×SV)→Bool
 | []=>true
 | (_,s)::r=>s.low b&&mX b r
def oM{b:Nat}:∀{l:List (Nat×SV)} {i:Nat} {s:SV},mX b l=true→bg l i=some s→s.low b=true
 | [],_,_,_,h=>by simp[bg]at h
 | (j,t)::r,i,s,hf,h=>by simp only[mX,YC]at hf;rw[bC]at h;split at h;injection h with h;subst h;exact hf.1;exact oM hf.2 h
end
variable{r:List (Nat×SV)}{s:SV}
section
variable[NM rt]
omit [NM rt] in
def dT(ks hs:List Nat)(h:Keep st.slots ks r)(hT:Tl b (iW rt b xss) st.heap)(hh:KeepHF st.heap (iW rt b xss) hs hp)(hj:JN P cx ⟨r,hp⟩ k):JN P cx st k:=
 MR (st':=⟨r,hp⟩) ⟨h.sub,hh.sub (dU hT rfl)⟩ hj
def InvB.re(hb:InvB cx st β a w){sl:List (Nat×SV)}(f:Nat→Nat)(β':Loc)
 (h1:∀k h,aG hp k=some h→(β' k=none∧h.xs=[])∨(β' k=β (f k)∧∃h0,aG st.heap (f k)=some h0∧∀l,h0.holds w (bY cx st.heap β w) l→h.holds w (bY cx st.heap β w) l))
 (h2:∀k k' h h',aG hp k=some h→aG hp k'=some h'→β' k≠none→β' k'≠none→f k=f k'→k=k')
 (h3:∀i s,bg sl i=some s→∃v,a.tmps[i]?=some v∧s.holds β' w (bY cx st.heap β w) v):InvB cx ⟨sl,hp⟩ β' a w:=by
 have hat:∀k h x,aG hp k=some h→β' k=some x→β (f k)=some x∧∃h0,aG st.heap (f k)=some h0:=fun k h x hk hx=>by rcases h1 k h hk with⟨e,_⟩|⟨e,h0,g1,_⟩;rw[e]at hx;cases hx;exact⟨e▸hx,h0,g1⟩
 have hok:∀b,bY cx st.heap β w b→bY cx hp β' w b∧w.heap[b]?=w.heap[b]?:=fun b ⟨g1,g2,g3⟩=>⟨⟨g1,g2,fun k h hk x hx=>by obtain⟨e,h0,g4⟩:=hat k h x hk hx;exact g3 _ _ g4 x e⟩,rfl⟩
 refine⟨hb.below,hb.old,hb.defers,hb.size,fun k h hk x hx=>?_,fun k k' h h' hk hk' x y hx hy he=>?_,fun k h hk=>?_,fun i s hs=>?_⟩;obtain⟨e,h0,g4⟩:=hat k h x hk hx;exact hb.own _ _ g4 x e;obtain⟨e,h0,g4⟩:=hat k h x hk hx;obtain⟨e',h0',g4'⟩:=hat k' h' y hk' hy;exact h2 k k' h h' hk hk' (by rw[hx];simp) (by rw[hy];simp) (hb.sep _ _ _ _ g4 g4' x y e e' he);rcases h1 k h hk with⟨e,g⟩|⟨e,h0,g1,g2⟩;rw[e];exact g;rw[e];exact HB.keep hok (fun _ _=>rfl) (g2 _ (hb.rows _ _ g1));obtain⟨v,g1,g2⟩:=h3 i s hs;exact WI
def SV.turn{β':Loc}(h:∀nm,s.free nm=false→β' nm=β nm)(hv:s.holds β w ok v):s.holds β' w ok v:=
 SV.keep (fun b hb=>⟨hb,rfl⟩) (fun nm hn=>⟨h nm hn,fun b o _ cur e fr hc=>⟨cur,e,fr,hc,rfl⟩⟩) hv
omit [NM rt] in
def unl(rt:RT α)[NM rt](hsl:bg st.slots i=some s)(hsb:s.low b=true)(hk:Keep st.slots ks r)(hkb:mX b r=true)
 (hh:KeepH st.heap hs hp0) (hl:mY b hp0=true) (hi:Inv cx st a w):
 Inv cx ⟨(i,.fam s b rt.n (List.replicate n (some (none,0,0))))::r,hp0++iW rt b (List.replicate n [])⟩ a w:=by
 obtain⟨β,hb⟩:=hi;have hap:∀(l:List (Nat×HB)) k,aG (l++iW rt b (List.replicate n [])) k=(match aG l k with|some h=>some h|none=>aG (iW rt b (List.replicate n [])) k):=by intro l k;exact Ww
 have hsp:∀k h,aG (hp0++iW rt b (List.replicate n [])) k=some h→(k<b∧aG st.heap k=some h)∨(b≤k∧h=⟨rt,[]⟩):=fun k h hk'=>by
  rw[hap]at hk';cases e:aG hp0 k with
  | some h'=>rw[e]at hk';injection hk' with hk';subst hk';exact .inl ⟨mI hl e,hh.sub _ _ e⟩
  | none=>rw[e]at hk';simp only at hk';rw[jW]at hk';split at hk';rename_i g;refine .inr ⟨g,?_⟩;rw[Oq]at hk';split at hk';simpa using hk'.symm;simp at hk';cases hk'
 let β':Loc:=fun k=>if b≤k then none else β k
 have hfree:∀(t:SV) (v:Value),t.low b=true→t.holds β w (bY cx st.heap β w) v→t.holds β' w (bY cx st.heap β w) v:=fun t v ht hv=>
  SV.turn (fun nm hn=>by
   have:¬b≤nm:=fun g=>by rw[SV.low_free g ht]at hn;cases hn
   simp[β',this]) hv
 refine⟨β',hb.re (fun k=>k) β' (fun k h hk'=>?_) (fun _ _ _ _ _ _ _ _ e=>e) (fun q t hq=>?_)⟩;rcases hsp k h hk' with⟨g1,g2⟩|⟨g1,g2⟩;exact .inr ⟨by simp[β',Nat.not_le.2 g1],h,g2,fun _ x=>x⟩;exact .inl ⟨by simp[β',g1],by rw[g2]⟩;rw[bC]at hq;split at hq;rename_i e;subst e;injection hq with hq;subst hq;obtain⟨v,g1,g2⟩:=hb.slots i _ hsl;refine⟨v,g1,hfree _ _ hsb g2,fun x A m cap hx=>?_⟩;rw[Oq]at hx;split at hx;simp only[Option.some.injEq,Prod.mk.injEq]at hx;obtain⟨rfl,rfl,rfl⟩:=hx;simp[Yq,β'];cases hx;obtain⟨v,g1,g2⟩:=hb.slots q t (hk.sub _ _ hq);exact⟨v,g1,hfree _ _ (oM hkb hq) g2⟩
omit [NM rt] in
def Es(l:List (Nat×HB))(k:Nat):aG (l++iW rt b xss) k=(match aG l k with|some h=>some h|none=>aG (iW rt b xss) k):=by exact Ww
omit [NM rt] in
def jV{c x:Nat}
 (hsl:bg st.slots i=some (.fam s b rt.n ds)) (hj:bg st.slots j=some (.raw (.slice A m cap))) (hx:ds[x]?=some (some (A,m,cap))) (hxs:xss[x]?=some xs) (hsb:s.low b=true) (hsc:s.free c=true) (hk:Keep st.slots ks r) (hkb:mX b r=true) (hkc:fb c r=true)
 (hc:Nat.blt c b=true) (hT:Tl b (iW rt b xss) st.heap) (hh:KeepH st.heap hs hp0) (hl:mY b hp0=true) (hno:aG hp0 c=none) (hi:Inv cx st a w):
 Inv cx ⟨(i,.fam s b rt.n (ds.set x none))::(j,.own c rt.n 0 m)::r,(c,⟨rt,xs⟩)::(hp0++iW rt b (xss.set x []))⟩ a w:=by
 obtain⟨β,hb⟩:=hi;have hcb:=oZ hc;have hxl:x<xss.length:=(Y0.1 hxs).1;have hsp:∀k h,aG ((c,⟨rt,xs⟩)::(hp0++iW rt b (xss.set x []))) k=some h→(k=c∧h=⟨rt,xs⟩)∨(k≠c∧k<b∧aG st.heap k=some h)∨(k=x+b∧h=⟨rt,[]⟩)∨(b≤k∧k≠x+b∧aG st.heap k=some h):=fun k h hk'=>by
  rw[bA]at hk';split at hk';rename_i e;injection hk' with hk';exact .inl ⟨e.symm,hk'.symm⟩;rename_i e;rw[Es]at hk';cases e2:aG hp0 k with
  | some h'=>rw[e2]at hk';injection hk' with hk';subst hk';exact .inr (.inl ⟨fun e3=>e e3.symm,mI hl e2,hh.sub _ _ e2⟩)
  | none=>rw[e2]at hk';simp only at hk';rw[jW]at hk';split at hk';rename_i g;by_cases e3:k=x+b;refine .inr (.inr (.inl ⟨e3,?_⟩));exact WP;refine .inr (.inr (.inr ⟨g,e3,?_⟩));rw[Ot So]at hk';rw[hT.look g,jW,Cg g];exact hk';cases hk'
 have hold:aG st.heap (x+b)=some ⟨rt,xs⟩:=by rw[hT.look So,C1,hxs];rfl
 let f:Nat→Nat:=fun k=>if k=c then x+b else k
 let β':Loc:=fun k=>if k=c then β (x+b)else if k=x+b then none else β k
 have hfree:∀(t:SV) (v:Value),t.free c=true→t.free (x+b)=true→t.holds β w (bY cx st.heap β w) v→t.holds β' w (bY cx st.heap β w) v:=fun t v h1 h2 hv=>
  SV.turn (fun nm hn=>by
   have z1:nm≠c:=fun e=>by subst e;rw[h1]at hn;cases hn
   have z2:nm≠x+b:=fun e=>by subst e;rw[h2]at hn;cases hn
   simp[β',z1,z2]) hv
 obtain⟨v,g1,g2,g3⟩:=hb.slots i _ hsl;obtain⟨vj,g4,g5⟩:=hb.slots j _ hj;have g5:vj=.slice A m cap:=g5;refine⟨β',hb.re f β' (fun k h hk'=>?_) (fun k k' h h' hk' hk'' n1 n2 e=>?_) (fun q t hq=>?_)⟩;rcases hsp k h hk' with⟨rfl,rfl⟩|⟨z1,z2,z3⟩|⟨rfl,rfl⟩|⟨z1,z2,z3⟩;exact .inr ⟨by simp[β',f],_,by simp only[f,Cg];exact hold,fun _ y=>y⟩;exact .inr ⟨by simp only[β',f,zE z1];rw[zE So],h,by simp only[f,zE z1];exact z3,fun _ y=>y⟩;exact .inl ⟨show(if x+b=c then β (x+b)else if x+b=x+b then none else β (x+b))=none from by rw[zE So,Cg rfl],rfl⟩;exact .inr ⟨by simp only[β',f];rw[zE So,zE z2,zE So],h,aar,fun _ y=>y⟩;by_cases e1:k=c<;>by_cases e2:k'=c;omega;simp only[f,Cg e1,zE e2]at e;exact absurd (by simp only[β'];rw[zE e2,Cg e.symm]) n2;simp only[f,Cg e2,zE e1]at e;exact absurd (by simp only[β'];rw[zE e1,Cg e]) n1;simpa only[f,zE e1,zE e2]using e;rw[bC]at hq;split at hq;rename_i e;subst e;injection hq with hq;subst hq;refine⟨v,g1,hfree _ _ hsc (SV.low_free So hsb) g2,fun x' A' m' cap' hx'=>?_⟩;have hne:x≠x':=fun e=>by subst e;rw[pw (Y0.1 hx).1]at hx';cases hx'
 rw[Ot hne]at hx';refine lj ⟨by simp only[β'];rw[zE So,zE So],fun b o _ cur e fr hc=>⟨cur,e,fr,hc,rfl⟩⟩ (g3 x' A' m' cap' hx');rw[bC]at hq;split at hq;rename_i e;subst e;injection hq with hq;subst hq;refine⟨vj,g4,?_⟩;rw[g5];have h9:=g3 x A m cap hx;simp only[SV.holds];unfold Yq at h9⊢;simp only[β',Cg];exact h9;have hq':=hk.sub _ _ hq;obtain⟨u,h5,h6⟩:=hb.slots q t hq';exact⟨u,h5,hfree _ _ (gQ hkc hq) (SV.low_free So (oM hkb hq)) h6⟩
def Bv{c x:Nat}
 (hsl:bg st.slots i=some (.fam s b rt.n ds)) (hj:bg st.slots j=some (.own c rt.n 0 m)) (hx:ds[x]?=some none) (hxs:xss[x]?=some []) (hc:aG st.heap c=some ⟨rt,ys⟩) (hm:m≤ys.length) (hsb:s.low b=true) (hsc:s.free c=true) (hk:Keep st.slots ks r) (hkb:mX b r=true) (hkc:fb c r=true)
 (hcb:Nat.blt c b=true) (hT:Tl b (iW rt b xss) st.heap) (hh:KeepH st.heap hs hp0) (hl:mY b hp0=true) (hno:aG hp0 c=none) (hi:Inv cx st a w):
 ∃A cap,Inv cx ⟨(i,.fam s b rt.n (ds.set x (some (A,m,cap))))::(j,.raw (.slice A m cap))::r,hp0++iW rt b (xss.set x (ys.take m))⟩ a w:=by
 obtain⟨β,hb⟩:=hi;have hcb:=oZ hcb;have hxl:x<xss.length:=(Y0.1 hxs).1;obtain⟨v,g1,g2,g3⟩:=hb.slots i _ hsl;obtain⟨vj,g4,g5⟩:=hb.slots j _ hj;obtain⟨A,cap,g6⟩:=mC g5;subst g6;have hsp:∀k h,aG (hp0++iW rt b (xss.set x (ys.take m))) k=some h→(k≠c∧k<b∧aG st.heap k=some h)∨(k=x+b∧h=⟨rt,ys.take m⟩)∨(b≤k∧k≠x+b∧aG st.heap k=some h):=fun k h hk'=>by
  rw[Es]at hk';cases e2:aG hp0 k with
  | some h'=>rw[e2]at hk';injection hk' with hk';subst hk';exact .inl ⟨fun e=>(by subst e;rw[hno]at e2;cases e2),mI hl e2,hh.sub _ _ e2⟩
  | none=>rw[e2]at hk';simp only at hk';rw[jW]at hk';split at hk';rename_i g;by_cases e3:k=x+b;refine .inr (.inl ⟨e3,?_⟩);exact WP;refine .inr (.inr ⟨g,e3,?_⟩);rw[Ot So]at hk';rw[hT.look g,jW,Cg g];exact hk';cases hk'
 let f:Nat→Nat:=fun k=>if k=x+b then c else k
 let β':Loc:=fun k=>if k=x+b then β c else β k
 have hfree:∀(t:SV) (v:Value),t.free (x+b)=true→t.holds β w (bY cx st.heap β w) v→t.holds β' w (bY cx st.heap β w) v:=fun t v h2 hv=>
  SV.turn (fun nm hn=>by
   have z2:nm≠x+b:=fun e=>by subst e;rw[h2]at hn;cases hn
   simp[β',z2]) hv
 refine⟨A,cap,β',hb.re f β' (fun k h hk'=>?_) (fun k k' h h' hk' hk'' n1 n2 e=>?_) (fun q t hq=>?_)⟩;rcases hsp k h hk' with⟨z1,z2,z3⟩|⟨rfl,rfl⟩|⟨z1,z2,z3⟩;exact .inr ⟨by simp only[β',f];rw[zE So,zE So],h,aar,fun _ y=>y⟩;refine .inr ⟨by simp only[β',f,Cg],_,by simp only[f,Cg];exact hc,fun l hl'=>?_⟩;cases l with
 | none=>have hl':ys=[]:=hl';subst hl';simp[HB.holds]
 | some bo=>obtain⟨b',o'⟩:=bo;refine⟨fun hm'=>?_,fun hm'=>aad⟩;obtain⟨cur,e',q1,q2,q3⟩:=hl'.1 hm';refine⟨cur,e',q1,?_,fun i' x' hi'=>q3 i' x' ?_⟩;have:(ys.take m).length*rt.n≤ys.length*rt.n:=bn _ QE;simp only at q2⊢;omega;simp only at hi';rw[PC]at hi';split at hi';exact hi';cases hi'
 exact .inr ⟨by simp only[β',f];rw[zE z2,zE z2],h,by simp only[f];rw[zE z2];exact z3,fun _ y=>y⟩;have hck:∀k h,aG (hp0++iW rt b (xss.set x (ys.take m))) k=some h→k≠c:=fun k h hk'=>by rcases hsp k h hk' with⟨z1,_,_⟩|⟨z1,_⟩|⟨z1,_,_⟩<;>omega
 have c1:=hck k h hk';have c2:=hck k' h' hk'';have e:(if k=x+b then c else k)=(if k'=x+b then c else k'):=e;by_cases e1:k=x+b<;>by_cases e2:k'=x+b;omega;rw[Cg e1,zE e2]at e;omega;rw[zE e1,Cg e2]at e;omega;rw[zE e1,zE e2]at e;exact e;rw[bC]at hq;split at hq;rename_i e;subst e;injection hq with hq;subst hq;refine⟨v,g1,hfree _ _ (SV.low_free So hsb) g2,fun x' A' m' cap' hx'=>?_⟩;by_cases hne:x=x';subst hne;rw[pw (Y0.1 hx).1]at hx';simp only[Option.some.injEq,Prod.mk.injEq]at hx';obtain⟨rfl,rfl,rfl⟩:=hx';unfold SV.holds at g5;unfold Yq at g5⊢;simp only[β',Cg];exact g5;rw[Ot hne]at hx';refine lj ⟨by simp only[β'];rw[zE So],fun b o _ cur e fr hc=>⟨cur,e,fr,hc,rfl⟩⟩ (g3 x' A' m' cap' hx');rw[bC]at hq;split at hq;rename_i e;subst e;injection hq with hq;subst hq;exact⟨_,g4,rfl⟩;have hq':=hk.sub _ _ hq;obtain⟨u,h5,h6⟩:=hb.slots q t hq';exact⟨u,h5,hfree _ _ (SV.low_free So (oM hkb hq)) h6⟩
def by3
 (hsl:bg st.slots i=some (.fam s b rt.n (hds.map some))) (hlen:hds.length=xss.length) (hls:∀(x:Nat) (A:Option Addr) (m cap:Nat),hds[x]?=some (A,m,cap)→∃xs:List α,xss[x]?=some xs∧m=xs.length) (hn:aG st.heap nm=some ⟨rHd,hds⟩) (hnb:Nat.blt nm b=true) (hsb:s.low b=true) (hk:Keep st.slots ks r) (hkb:mX b r=true)
 (hT:Tl b (iW rt b xss) st.heap) (hh:KeepH st.heap hs hp0) (hl:mY b hp0=true) (hno:aG hp0 nm=none) (hi:Inv cx st a w):
 Inv cx ⟨(i,s)::r,(nm,⟨ag rt,xss⟩)::hp0⟩ a w:=by
 obtain⟨β,hb⟩:=hi;have hnb:=oZ hnb;obtain⟨v,g1,g2,g3⟩:=hb.slots i _ hsl;have hsp:∀k h,aG ((nm,HB.mk (ag rt) xss)::hp0) k=some h→(k=nm∧h=⟨ag rt,xss⟩)∨(k≠nm∧k<b∧aG st.heap k=some h):=fun k h hk'=>by rw[bA]at hk';split at hk';rename_i e;injection hk' with hk';exact .inl ⟨e.symm,hk'.symm⟩;rename_i e;exact .inr ⟨fun e2=>e e2.symm,mI hl hk',hh.sub _ _ hk'⟩
 have hsp':∀k h,aG ((nm,HB.mk (ag rt) xss)::hp0) k=some h→k<b∧∃h',aG st.heap k=some h':=fun k h hk'=>by rcases hsp k h hk' with⟨rfl,rfl⟩|⟨_,z2,z3⟩;exact⟨hnb,_,hn⟩;exact⟨z2,_,z3⟩
 have hok:∀q,bY cx st.heap β w q→bY cx ((nm,HB.mk (ag rt) xss)::hp0) β w q∧w.heap[q]?=w.heap[q]?:=fun q ⟨h1,h2,h3⟩=>⟨⟨h1,h2,fun k h hk' x hx=>by obtain⟨_,h',z⟩:=hsp' k h hk';exact h3 k h' z x hx⟩,rfl⟩
 have hfam:∀x xs,xss[x]?=some xs→aG st.heap (x+b)=some ⟨rt,xs⟩:=fun x xs hx=>by rw[hT.look So,C1,hx];rfl
 refine⟨β,hb.below,hb.old,hb.defers,hb.size,fun k h hk' x hx=>?_,fun k k' h h' hk' hk'' x y hx hy he=>?_,fun k h hk'=>?_,fun q t hq=>?_⟩;obtain⟨_,h',z⟩:=hsp' k h hk';exact hb.own k h' z x hx;obtain⟨_,h1,z⟩:=hsp' k h hk';obtain⟨_,h2,z'⟩:=hsp' k' h' hk'';exact hb.sep k k' h1 h2 z z' x y hx hy he;rcases hsp k h hk' with⟨rfl,rfl⟩|⟨z1,_,z3⟩;have hr:=hb.rows k _ hn;cases hβ:β k with
 | none=>rw[hβ]at hr;have hr:hds=[]:=hr;subst hr;have:xss=[]:=jC.1 hlen.symm;exact this
 | some bo=>
  obtain⟨b0,o0⟩:=bo;rw[hβ]at hr;refine⟨fun _=>?_,fun hm=>by rw[show(ag rt).mp=false from NM.no]at hm;cases hm⟩;obtain⟨cur,e,q1,q2,q3⟩:=hr.1 rfl;refine⟨cur,e,q1,by have e1:(ag rt).n=1:=rfl;have e2:rHd.n=1:=rfl;simp only[e1,e2,hlen]at q2⊢;exact q2,fun x xs hx=>?_⟩;have hxl:x<hds.length:=by rw[hlen];exact(Y0.1 hx).1
  obtain⟨cs,q4,q5⟩:=q3 x hds[x] (by simp[hxl]);obtain⟨A,m,cap,hd⟩:∃A m cap,hds[x]?=some (A,m,cap):=⟨_,_,_,by rw[RY hxl]⟩;obtain⟨xs',hx',hm⟩:=hls x A m cap hd;rw[hx]at hx';injection hx' with hx';subst hx';have hhd:=g3 x A m cap (by simp[hd]);have hdx:hds[x]=(A,m,cap):=by rw[RY hxl]at hd;injection hd
  have hval:=fK (rt:=rt) hb (hfam x xs hx) hhd So (ok:=bY cx ((k,HB.mk (ag rt) xss)::hp0) β w) (fun q hq=>(hok q hq).1) (fun b1 o1 hbo=>by have z:=hb.own (x+b) _ (hfam x xs hx) _ hbo;exact⟨.inr z.1,z.2,fun k' h' hk'' y hy e1=>by obtain⟨z1,h'',z2⟩:=hsp' k' h' hk'';have:=hb.sep k' (x+b) _ _ z2 (hfam x xs hx) y (b1,o1) hy hbo e1;omega⟩)
  rw[Pv,show List.take m xs=xs by rw[hm,FR]]at hval;have hcells:=(ag rt).val_cells hval;refine⟨_,hcells,fun j u hj=>?_⟩;rw[q4,hdx]at q5;have:(Value.slice A m cap).cells.toList=[Value.slice A m cap]:=rfl;rw[this]at hj;exact q5 j u hj
 exact HB.keep hok (fun _ _=>rfl) (hb.rows k h z3);rw[bC]at hq;split at hq;rename_i e;subst e;injection hq with hq;subst hq;exact WI;obtain⟨u,h5,h6⟩:=hb.slots q t (hk.sub _ _ hq);exact⟨u,h5,SV.keep hok (fun nm _=>⟨rfl,fun b o _ cur e fr hc=>⟨cur,e,fr,hc,rfl⟩⟩) h6⟩
omit [NM rt] in
def EC(i j c x:Nat)(ks hs:List Nat)
 (hsl:bg st.slots i=some (.fam s b rt.n ds)) (hj:bg st.slots j=some (.raw (.slice A m cap))) (hx:ds[x]?=some (some (A,m,cap))) (hxs:xss[x]?=some xs) (hsb:s.low b=true) (hsc:s.free c=true) (hk:Keep st.slots ks r) (hkb:mX b r=true) (hkc:fb c r=true)
 (hc:Nat.blt c b=true) (hT:Tl b (iW rt b xss) st.heap) (hh:KeepH st.heap hs hp0) (hl:mY b hp0=true) (hno:aG hp0 c=none)
 (h:JG P cx ops ⟨(i,.fam s b rt.n (ds.set x none))::(j,.own c rt.n 0 m)::r,(c,⟨rt,xs⟩)::(hp0++iW rt b (xss.set x []))⟩ l k):JG P cx ops st l k:=fun a w hi=>h a w (jV hsl hj hx hxs hsb hsc hk hkb hkc hc hT hh hl hno hi)
def EE(i j c x:Nat)(ks hs:List Nat)
 (hsl:bg st.slots i=some (.fam s b rt.n ds)) (hj:bg st.slots j=some (.own c rt.n 0 m)) (hx:ds[x]?=some none) (hxs:xss[x]?=some []) (hc:aG st.heap c=some ⟨rt,ys⟩) (hm:m≤ys.length) (hsb:s.low b=true) (hsc:s.free c=true) (hk:Keep st.slots ks r) (hkb:mX b r=true) (hkc:fb c r=true)
 (hcb:Nat.blt c b=true) (hT:Tl b (iW rt b xss) st.heap) (hh:KeepH st.heap hs hp0) (hl:mY b hp0=true) (hno:aG hp0 c=none)
 (h:∀A cap,JG P cx ops ⟨(i,.fam s b rt.n (ds.set x (some (A,m,cap))))::(j,.raw (.slice A m cap))::r,hp0++iW rt b (xss.set x (ys.take m))⟩ l k):JG P cx ops st l k:=fun a w hi=>by obtain⟨A,cap,h1⟩:=Bv hsl hj hx hxs hc hm hsb hsc hk hkb hkc hcb hT hh hl hno hi;exact h A cap a w h1
def opd(i j c x:Nat)(ks hs:List Nat){q:Nat}
 (hsl:bg st.slots i=some (.fam s b rt.n ds)) (hj:bg st.slots j=some (.own c rt.n 0 m)) (hx:ds[x]?=some none) (hxs:xss[x]?=some []) (hc:aG st.heap c=some ⟨rt,ys⟩) (hm:m≤ys.length) (hsb:s.low b=true) (hsc:s.free c=true) (hk:Keep st.slots ks r) (hkb:mX b r=true) (hkc:fb c r=true)
 (hcb:Nat.blt c b=true) (hT:Tl b (iW rt b xss) st.heap) (hh:KeepH st.heap hs hp0) (hl:mY b hp0=true) (hno:aG hp0 c=none)
 (h:∀A cap,JT P cx l q ⟨(i,.fam s b rt.n (ds.set x (some (A,m,cap))))::(j,.raw (.slice A m cap))::r,hp0++iW rt b (xss.set x (ys.take m))⟩ k):JT P cx l q st k:=fun a w hi=>by obtain⟨A,cap,h1⟩:=Bv hsl hj hx hxs hc hm hsb hsc hk hkb hkc hcb hT hh hl hno hi;exact h A cap a w h1
def H6(i b n:Nat)(ks hs:List Nat)(rt:RT α)[NM rt](hsl:bg st.slots i=some s)(hsb:s.low b=true)(hk:Keep st.slots ks r)(hkb:mX b r=true)
 (hh:KeepH st.heap hs hp0) (hl:mY b hp0=true)
 (h:JN P cx ⟨(i,.fam s b rt.n (List.replicate n (some (none,0,0))))::r,hp0++iW rt b (List.replicate n [])⟩ k):JN P cx st k:=fun a w hi=>h a w (unl rt hsl hsb hk hkb hh hl hi)
def Ie(i nm:Nat)(ks hs:List Nat)
 (hsl:bg st.slots i=some (.fam s b rt.n (hds.map some))) (hlen:hds.length=xss.length) (hls:∀(x:Nat) (A:Option Addr) (m cap:Nat),hds[x]?=some (A,m,cap)→∃xs:List α,xss[x]?=some xs∧m=xs.length) (hn:aG st.heap nm=some ⟨rHd,hds⟩) (hnb:Nat.blt nm b=true) (hsb:s.low b=true) (hk:Keep st.slots ks r) (hkb:mX b r=true)
 (hT:Tl b (iW rt b xss) st.heap) (hh:KeepH st.heap hs hp0) (hl:mY b hp0=true) (hno:aG hp0 nm=none)
 (h:J P cx ⟨(i,s)::r,(nm,⟨ag rt,xss⟩)::hp0⟩ c k):J P cx st c k:=fun a w hi=>h a w (by3 hsl hlen hls hn hnb hsb hk hkb hT hh hl hno hi)
def HdOK(hds:List (Option Addr×Nat×Nat))(xss:List (List α)):Prop:=hds.length=xss.length∧∀(x:Nat) (A:Option Addr) (m cap:Nat),hds[x]?=some (A,m,cap)→∃xs:List α,xss[x]?=some xs∧m=xs.length
def HdOK.zero(n:Nat):HdOK (List.replicate n (none,0,0)) (List.replicate n ([]:List α)):=by refine⟨Sp,fun x A m cap h=>?_⟩;rw[Oq]at h;split at h;rename_i hx;simp only[Option.some.injEq,Prod.mk.injEq]at h;exact⟨[],by rw[Oq,Cg hx],by simp[h.2.1.symm]⟩;cases h
def HdOK.at(h:HdOK hds xss){x:Nat}(hx:xss[x]?=some xs):∃A cap,hds[x]?=some (A,xs.length,cap):=by
 have hl:x<xss.length:=(Y0.1 hx).1;have hl2:x<hds.length:=by rw[h.1];exact hl
 obtain⟨xs',h1,h2⟩:=h.2 x hds[x].1 hds[x].2.1 hds[x].2.2 (by rw[RY hl2]);rw[hx]at h1;injection h1 with h1;subst h1;exact⟨hds[x].1,hds[x].2.2,by rw[RY hl2,←h2]⟩
def HdOK.set(h:HdOK hds xss){x:Nat}(hx:x<xss.length)(hm:m=ys.length):HdOK (hds.set x (A,m,cap)) (xss.set x ys):=by refine⟨by simp[h.1],fun y B m' cap' hy=>?_⟩;by_cases e:x=y;subst e;rw[pw (by rw[h.1];exact hx)]at hy;simp only[Option.some.injEq,Prod.mk.injEq]at hy;exact⟨ys,by rw[pw hx],by rw[←hy.2.1];exact hm⟩;rw[Ot e]at hy⊢;exact h.2 y B m' cap' hy
def oS{β:Type}{x:Nat}{f f':Nat→β}(hx:x<n)(h:∀y,y<n→y≠x→f' y=f y):(List.range n).map f'=((List.range n).map f).set x (f' x):=by apply Lv;intro y;by_cases e:x=y;subst e;rw[pw ade];simp[hx];rw[Ot e];simp only[cr];by_cases hy:y<n;simp[hy,h y hy (fun e2=>e e2.symm)];simp[hy]
end
section
def Z15(dk:wq ops){Q:Exit→Act→World→Prop}{lo hi g:Nat}(hgg:g=ops.size-hi){cs:List (Nat×SV)}(hlo:lo≤hi)(hhi:hi≤ops.size)(hl:l.length=hi-lo)(hat:∀i,i<l.length→l[i]?=ops[lo+i]?)
 (has:AS P cx ops st l cs)
 (hbar:∀listed,Lst ops lo hi listed→∀i∈Region.ready .any ops listed,hi≤i→∀F a w,Nf listed=F+1→Nf listed≠ops.size-hi→Inv cx (iy st cs (fun i=>listed.getD (lo+i) false)) a w→wpOp P ops Q i (wpAny P .any ops Q F (listed.setIfInBounds i true)) a w)
 (hK:∀a w,Inv cx (iy st cs (fun _=>true)) a w→wpAny P .any ops Q g (Yw ops.size hi) a w):
 ∀(f:Nat) (listed:Array Bool),Lst ops lo hi listed→Nf listed=f+(ops.size-hi)→∀a w,Inv cx (iy st cs (fun i=>listed.getD (lo+i) false)) a w→wpAny P .any ops Q (f+g) listed a w:=by
 obtain⟨hcl,hga⟩:=has.at_
 have hidx:∀j c,cs[j]?=some c→∃oj,ops[lo+j]?=some oj∧oj.dst=some c.1∧j<l.length:=by
  exact UP
 intro f
 induction f with
 | zero=>
  exact Ui
 | succ f ih=>
  intro listed hL hu a w hi'
  rw[show f+1+g=(f+g)+1 by omega]
  refine⟨fun hnil=>?_,fun i hr=>?_⟩
  ·exact SG
  rcases Qa i hi with hih|hih
  rotate_left
  ·exact hbar listed hL i hr hih (f+g) a w So So hi'
  have hil:lo≤i:=by
   rcases Qa i lo with h|h
   ·have h1:=hL.low i h
    obtain⟨hun,oi,hoi,_⟩:=mem_ready.1 hr
    exact Ws
   exact h
  exact SA
def mh(hx:Ev st x s)(hs:boxS nb s):aH P cx st ⟨dst,.nilCheck x,ty,pos,aft,gd⟩ s:=
 bz fun st' hag β a w hi=>by have h1:=hi.ev (hag.ev aT hx);obtain⟨b,o,_,h2⟩:=hs.at h1;exact Xk
def jg_pin(j:Nat)(hj:bg st.slots j=some (.own nm sz 0 n))(hn0:0<n)
 (h:∀b o cap,JG P cx ops ⟨(j,.both (.own nm sz 0 n) (.slice (some ⟨b,o,none⟩) n cap))::st.slots,st.heap⟩ l k):JG P cx ops st l k:=fun a w hi=>by
 obtain⟨β,hb⟩:=hi;obtain⟨v,_,h2⟩:=hb.slots j _ hj;have h3:=h2;simp only[SV.holds,Yq]at h3;cases hβ:β nm with
 | none=>rw[hβ]at h3;obtain⟨_,e⟩:=h3;omega
 | some bo=>obtain⟨b,o⟩:=bo;rw[hβ]at h3;obtain⟨A',cap',g1,g2,g3,g4⟩:=h3;rcases g4 with⟨g4,_⟩|⟨g4,_⟩;omega;subst g4;refine h b (o+0*sz) cap' a w ⟨β,?_⟩;have hj':bg st.slots j=some (.own nm sz 0 n):=hj;refine⟨hb.below,hb.old,hb.defers,hb.size,hb.own,hb.sep,hb.rows,fun q t hq=>?_⟩;rw[bC]at hq;split at hq;rename_i e;subst e;injection hq with hq;subst hq;exact⟨v,‹_›,h2,g1⟩;exact hb.slots q t hq
def BY(n m:Nat):Nf (Yw n m)=n-m:=by
 unfold Nf Yw;rw[Array.toList_map,Array.toList_range,List.countP_map];induction n with
 | zero=>simp
 | succ n ih=>rw[Jp,List.countP_append,ih];simp only[List.countP_cons,List.countP_nil,Function.comp];by_cases e:n<m;simp[e];omega;simp[e];omega
end
end Go.Eng
