import Derived.Deep.LoopGhost
import Derived.StillTail
import Derived.ScopeJumps
import Derived.Laws.MakeOwn
import Derived.Laws.Tables
import Derived.Test.YtehcaebnijlhgaaGreatDoorM1
set_option linter.all false
set_option maxRecDepth 100000
set_option maxHeartbeats 9000000
namespace Go.Eng
variable{P:Program}{T e t ty yt:TypeId}{a:Act}{aft:Array Edge}{b i j m n nm off sz:Nat}{c:Code}{cs:List Value}{α γ ι:Type}{d z:α}{ds xs:List α}{dst:Option Tmp}{fn:Func}{gd:Option (Nat×Bool)}{get:α→γ}{ix y:Operand}{k:IntKind}{ks:List Nat}{l rest:List Oper}{listed:Array Bool}{o:Oper}{ok:Ok}{ops:Array Oper}{p q:Int}{pos:String}{ps:List (Nat×Operand)}{rt:RT α}{rt':RT γ}{v:Value}{v0 v1:ResultVar}{w w':World}
inductive SV:Type 1
 | raw (v:Value)
 | tv {α:Type} (rt:RT α) (d:α)
 | eptr {α:Type} (rt:RT α) (d:α)
 | own (nm sz off n:Nat)
 | optr (nm sz i f:Nat)
 | mref (nm:Nat)
 | epown (nm sz off n:Nat)
 | both (s:SV) (v:Value)
 | lnk (s:SV) (u:Value) (t:SV)
 | fam (s:SV) (base sz:Nat) (ds:List (Option (Option Addr×Nat×Nat)))
 | gd (c:Bool) (s:SV)
 | tup2 (a b:SV)
 | tup3 (a b c:SV)
 | tup4 (a b c d:SV)
variable{r:List (Nat×SV)}{s s0 s1 s2:SV}
def SV.of(rt:RT α)(d:α):SV:=match rt.raw d with|some v=>.raw v|none=>.tv rt d
abbrev Loc:=Nat→Option (Nat×Nat)
variable{β β':Loc}
def Yq(β:Loc)(w:World)(nm sz off n:Nat)(v:Value):Prop:=
 match β nm with
 | none=>v=.slice none 0 0∧n=0
 | some (b,o)=>∃A cap,v=.slice A n cap∧n≤cap∧cap≤maxLen∧
  ((n=0∧cap=0)∨(A=some ⟨b,o+off*sz,none⟩∧∃cur e fr,w.heap[b]?=some (.cells cur e fr)∧o+(off+cap)*sz≤cur.size))
def SV.holds(β:Loc)(w:World)(ok:Ok):SV→Value→Prop
 | .raw u,v=>v=u
 | .tv rt d,v=>rt.val w ok v d
 | .eptr rt d,v=>∃b o cs,v=.pointer (some ⟨b,o,none⟩)∧ok b∧rt.rep w ok cs d∧CellsAt w b o cs
 | .own nm sz off n,v=>Yq β w nm sz off n v
 | .optr nm sz i f,v=>∃b o,β nm=some (b,o)∧v=.pointer (some ⟨b,o+i*sz+f,none⟩)
 | .mref nm,v=>∃b o,β nm=some (b,o)∧v=.map (some b)
 | .epown nm sz off n,v=>∃b o u,v=.pointer (some ⟨b,o,none⟩)∧ok b∧CellsAt w b o [u]∧Yq β w nm sz off n u
 | .both s u,v=>s.holds β w ok v∧v=u
 | .lnk s u t,v=>s.holds β w ok v∧t.holds β w ok u
 | .fam s base sz ds,v=>s.holds β w ok v∧∀x A m cap,ds[x]?=some (some (A,m,cap))→Yq β w (x+base) sz 0 m (.slice A m cap)
 | .gd c s,v=>(c=true→s.holds β w ok v)∧(c=false→v=undef)
 | .tup2 a b,v=>∃x y,v=.tuple #[x,y]∧a.holds β w ok x∧b.holds β w ok y
 | .tup3 a b c,v=>∃x y z,v=.tuple #[x,y,z]∧a.holds β w ok x∧b.holds β w ok y∧c.holds β w ok z
 | .tup4 a b c d,v=>∃x y z u,v=.tuple #[x,y,z,u]∧a.holds β w ok x∧b.holds β w ok y∧c.holds β w ok z∧d.holds β w ok u
def SV.free(nm:Nat):SV→Bool
 | .own k _ _ _ | .optr k _ _ _ | .mref k | .epown k _ _ _=>!(Nat.beq k nm)
 | .both s _=>s.free nm
 | .lnk s _ t=>s.free nm&&t.free nm
 | .fam s base _ ds=>s.free nm&&(Nat.blt nm base||(match ds[nm-base]? with|some (some _)=>false|_=>true))
 | .gd _ s=>s.free nm
 | .tup2 a b=>a.free nm&&b.free nm
 | .tup3 a b c=>a.free nm&&b.free nm&&c.free nm
 | .tup4 a b c d=>a.free nm&&b.free nm&&c.free nm&&d.free nm
 | _=>true
def SV.plain:SV→Bool
 | .own .. | .optr .. | .mref .. | .epown .. | .fam ..=>false
 | .both s _=>s.plain
 | .lnk s _ t=>s.plain&&t.plain
 | .gd _ s=>s.plain
 | .tup2 a b=>a.plain&&b.plain
 | .tup3 a b c=>a.plain&&b.plain&&c.plain
 | .tup4 a b c d=>a.plain&&b.plain&&c.plain&&d.plain
 | _=>true
structure HB:Type 1 where
 {α:Type}
 rt:RT α
 xs:List α
variable{hp:List (Nat×HB)}
def gT(rt:RT α)(w:World)(ok:Ok)(b o:Nat)(xs:List α):Prop:=
 ∃cur e,w.heap[b]?=some (.cells cur e (0,0))∧o+xs.length*rt.n≤cur.size∧
  ∀i x,xs[i]?=some x→∃cs,rt.rep w ok cs x∧∀j v,cs[j]?=some v→cur[o+i*rt.n+j]?=some v
def HB.holds(w:World)(ok:Ok)(hb:HB):Option (Nat×Nat)→Prop
 | none=>hb.xs=[]
 | some (b,o)=>(hb.rt.mp=false→gT hb.rt w ok b o hb.xs)∧(hb.rt.mp=true→∃D obj,hb.xs=[D]∧w.heap[b]?=some obj∧hb.rt.mrep obj D)
structure St:Type 1 where
 slots:List (Nat×SV)
 heap:List (Nat×HB)
variable{st st':St}
def bg:List (Nat×SV)→Nat→Option SV
 | [],_=>none
 | (i,s)::r,n=>bif Nat.beq i n then some s else bg r n
def aG:List (Nat×HB)→Nat→Option HB
 | [],_=>none
 | (i,s)::r,n=>bif Nat.beq i n then some s else aG r n
def bC(i:Nat)(s:SV)(r:List (Nat×SV))(n:Nat):bg ((i,s)::r) n=if i=n then some s else bg r n:=by rw[show bg ((i,s)::r) n=bif Nat.beq i n then some s else bg r n from rfl];exact VQ
def bA(i:Nat)(s:HB)(r:List (Nat×HB))(n:Nat):aG ((i,s)::r) n=if i=n then some s else aG r n:=by rw[show aG ((i,s)::r) n=bif Nat.beq i n then some s else aG r n from rfl];exact VQ
def St.put(st:St)(d:Nat)(s:SV):St:=⟨(d,s)::st.slots,st.heap⟩
def fb(nm:Nat):List (Nat×SV)→Bool
 | []=>true
 | (_,s)::r=>s.free nm&&fb nm r
def gQ{nm:Nat}:∀{l:List (Nat×SV)} {i:Nat} {s:SV},fb nm l=true→bg l i=some s→s.free nm=true
 | [],_,_,_,h=>by simp[bg]at h
 | (j,t)::r,i,s,hf,h=>by simp only[fb,YC]at hf;rw[bC]at h;split at h;injection h with h;subst h;exact hf.1;exact gQ hf.2 h
structure Cx where
 w0:World
 ok0:Ok
 n:Nat
 ex:Nat→Prop
variable{cx:Cx}
abbrev Cx.of(w0:World)(ok0:Ok)(n:Nat):Cx:=⟨w0,ok0,n,fun _=>False⟩
def Cx.new(cx:Cx)(b:Nat):Prop:=cx.w0.heap.size≤b∨cx.ex b
def Cx.new_of{ok0:Ok}(h:(Cx.of w ok0 n).new b):w.heap.size≤b:=h.elim id False.elim
def bY(cx:Cx)(hp:List (Nat×HB))(β:Loc)(w:World):Ok:=fun b=>
 (cx.ok0 b∨cx.new b)∧b<w.heap.size∧∀nm hb,aG hp nm=some hb→∀x,β nm=some x→x.1≠b
def GlB(b:Nat)(cs:Array Value):Prop:=b=3∧cs = #[.int .i64 31,.int .i64 28,.int .i64 31,.int .i64 30,.int .i64 31,.int .i64 30,.int .i64 31,.int .i64 31,.int .i64 30,.int .i64 31,.int .i64 30,.int .i64 31]
structure OkP(w:World)(ok:Ok):Prop where
 lt:∀b,ok b→b<w.heap.size
 gl:∀b cs,GlB b cs→ok b∧∃e fr,w.heap[b]?=some (.cells cs e fr)
instance:CoeFun (OkP w ok) (fun _=>∀b,ok b→b<w.heap.size):=⟨OkP.lt⟩
structure OkX(cx:Cx):Prop where
 ok:OkP cx.w0 cx.ok0
 ng:∀b cs,GlB b cs→¬cx.ex b
def OkP.x{ex:Nat→Prop}(h:OkP w ok)(h2:∀b,ex b→¬ok b):OkX ⟨w,ok,n,ex⟩:=⟨h,fun b cs g e=>h2 b e (h.gl b cs g).1⟩
structure InvB(cx:Cx)(st:St)(β:Loc)(a:Act)(w:World):Prop where
 below:BelowX cx.ex cx.w0.heap.size cx.w0 w
 old:OkX cx
 defers:a.defers=[]
 size:a.tmps.size=cx.n
 own:∀nm hb,aG st.heap nm=some hb→∀x,β nm=some x→cx.new x.1∧x.1<w.heap.size
 sep:∀nm nm' hb hb',aG st.heap nm=some hb→aG st.heap nm'=some hb'→∀x y,β nm=some x→β nm'=some y→x.1=y.1→nm=nm'
 rows:∀nm hb,aG st.heap nm=some hb→hb.holds w (bY cx st.heap β w) (β nm)
 slots:∀i s,bg st.slots i=some s→∃v,a.tmps[i]?=some v∧s.holds β w (bY cx st.heap β w) v
def Inv(cx:Cx)(st:St)(a:Act)(w:World):Prop:=∃β,InvB cx st β a w
section
def InvB.glo(hi:InvB cx st β a w){cs:Array Value}(g:GlB b cs):bY cx st.heap β w b∧∃e fr,w.heap[b]?=some (.cells cs e fr):=by obtain⟨h1,e,fr,h2⟩:=hi.old.ok.gl b cs g;have h3:=hi.old.ok b h1;refine⟨⟨.inl h1,F2 h3 hi.below.size,fun nm hb hh x hx q=>?_⟩,e,fr,(hi.below.blockX b h3 (hi.old.ng b cs g)).trans h2⟩;rcases(hi.own nm hb hh x hx).1 with q2|q2;rw[q]at q2;omega;rw[q]at q2;exact hi.old.ng b cs g q2
def InvB.okP(hi:InvB cx st β a w):OkP w (bY cx st.heap β w):=⟨fun _ h=>h.2.1,fun _ _ g=>hi.glo g⟩
def InvB.okPd(hi:InvB cx st β a w)(hs:∀nm h,aG hp nm=some h→aG st.heap nm=some h):OkP w (bY cx hp β w):=
 ⟨fun _ h=>h.2.1,fun _ _ g=>⟨⟨(hi.glo g).1.1,(hi.glo g).1.2.1,fun nm h hh=>(hi.glo g).1.2.2 nm h (hs nm h hh)⟩,(hi.glo g).2⟩⟩
def InvB.okB(hi:InvB cx st β a w):OkP w (fun b=>b<w.heap.size):=⟨fun _ h=>h,fun _ _ g=>⟨(hi.glo g).1.2.1,(hi.glo g).2⟩⟩
def oZ{a:Nat}(h:Nat.blt a b=true):a<b:=by rwa [Nat.blt_eq]at h
def lt_blt{a:Nat}(h:a<b):Nat.blt a b=true:=by rwa [Nat.blt_eq]
def ado{x base:Nat}:Nat.blt (x+base) base=false:=by
 cases h:Nat.blt (x+base) base with
 | false=>rfl
 | true=>exact absurd (oZ h) So
def lj(hf:β' nm=β nm∧∀b o,β nm=some (b,o)→∀cur e fr,w.heap[b]?=some (.cells cur e fr)→∃cur' e' fr',w'.heap[b]?=some (.cells cur' e' fr')∧cur'.size=cur.size)(hv:Yq β w nm sz off n v):Yq β' w' nm sz off n v:=by
 simp only[Yq]at hv⊢;rw[hf.1];cases hb:β nm with
 | none=>rw[hb]at hv;exact hv
 | some x=>obtain⟨b,o⟩:=x;rw[hb]at hv;obtain⟨A,cap,h1,h2,h3,h4⟩:=hv;refine⟨A,cap,h1,h2,h3,?_⟩;rcases h4 with h4|⟨h4,cur,e,fr,h5,h6⟩;exact .inl h4;obtain⟨cur',e',fr',h7,h8⟩:=hf.2 b o hb cur e fr h5;exact .inr ⟨h4,cur',e',fr',h7,So⟩
def SV.keep{β':Loc}{ok ok':Ok}(h:∀b,ok b→ok' b∧w'.heap[b]?=w.heap[b]?):
 ∀{s:SV} {v:Value},(∀nm,s.free nm=false→β' nm=β nm∧∀b o,β nm=some (b,o)→∀cur e fr,w.heap[b]?=some (.cells cur e fr)→∃cur' e' fr',w'.heap[b]?=some (.cells cur' e' fr')∧cur'.size=cur.size)→
  s.holds β w ok v→s.holds β' w' ok' v
 | .raw _,_,_,hv=>hv
 | .tv rt _,_,_,hv=>rt.val_keep h hv
 | .eptr rt _,_,_,⟨b,o,cs,h1,h2,h3,h4⟩=>⟨b,o,cs,h1,(h b h2).1,rt.keep h h3,h4.keep (h b h2).2⟩
 | .own nm sz off n,v,hf,hv=>lj (hf nm Pa) hv
 | .epown nm sz off n,v,hf,⟨b,o,u,h1,h2,h3,h4⟩=>⟨b,o,u,h1,(h b h2).1,h3.keep (h b h2).2,lj (hf nm Pa) h4⟩
 | .optr nm sz i f,v,hf,⟨b,o,h1,h2⟩=>⟨b,o,by rw[(hf nm Pa).1];exact h1,h2⟩
 | .mref nm,v,hf,⟨b,o,h1,h2⟩=>⟨b,o,by rw[(hf nm Pa).1];exact h1,h2⟩
 | .both s u,v,hf,hv=>⟨SV.keep h (fun nm hn=>hf nm (by simpa[SV.free]using hn)) hv.1,hv.2⟩
 | .lnk s u t,v,hf,hv=>⟨SV.keep h (fun nm hn=>hf nm Ss) hv.1,SV.keep h (fun nm hn=>hf nm Ss) hv.2⟩
 | .fam s base sz ds,v,hf,hv=>⟨SV.keep h (fun nm hn=>hf nm Ss) hv.1,fun x A m cap hx=>lj (hf (x+base) (by simp only[SV.free,ado,Nat.add_sub_cancel,hx,Bool.false_or,Bool.and_false])) (hv.2 x A m cap hx)⟩
 | .gd c s,v,hf,hv=>⟨fun hc=>SV.keep h (fun nm hn=>hf nm (by simpa[SV.free]using hn)) (hv.1 hc),hv.2⟩
 | .tup2 a b,v,hf,⟨x,y,h1,h2,h3⟩=>⟨x,y,h1,SV.keep h (fun nm hn=>hf nm Ss) h2,SV.keep h (fun nm hn=>hf nm Ss) h3⟩
 | .tup3 a b c,v,hf,⟨x,y,z,h1,h2,h3,h4⟩=>⟨x,y,z,h1,SV.keep h (fun nm hn=>hf nm Ss) h2,SV.keep h (fun nm hn=>hf nm Ss) h3,SV.keep h (fun nm hn=>hf nm Ss) h4⟩
 | .tup4 a b c d,v,hf,⟨x,y,z,u,h1,h2,h3,h4,h5⟩=>⟨x,y,z,u,h1,SV.keep h (fun nm hn=>hf nm Ss) h2,SV.keep h (fun nm hn=>hf nm Ss) h3,SV.keep h (fun nm hn=>hf nm Ss) h4,SV.keep h (fun nm hn=>hf nm Ss) h5⟩
def HB.keep{ok ok':Ok}(h:∀b,ok b→ok' b∧w'.heap[b]?=w.heap[b]?){hb:HB}{l:Option (Nat×Nat)}(hl:∀x,l=some x→w'.heap[x.1]?=w.heap[x.1]?)(hh:hb.holds w ok l):hb.holds w' ok' l:=by
 cases l with
 | none=>exact hh
 | some x=>obtain⟨b,o⟩:=x;refine⟨fun hm=>?_,fun hm=>?_⟩;obtain⟨cur,e,h1,h2,h3⟩:=hh.1 hm;refine⟨cur,e,(hl _ rfl).trans h1,h2,fun i x hi=>?_⟩;obtain⟨cs,h4,h5⟩:=h3 i x hi;exact⟨cs,hb.rt.keep h h4,h5⟩;obtain⟨D,obj,h1,h2,h3⟩:=hh.2 hm;exact⟨D,obj,h1,(hl _ rfl).trans h2,h3⟩
def InvB.later(hi:InvB cx st β a w)(hb:Below w.heap.size w w'):InvB cx st β a w':=by
 have hok:∀b,bY cx st.heap β w b→bY cx st.heap β w' b∧w'.heap[b]?=w.heap[b]?:=fun b ⟨h1,h2,h3⟩=>
  ⟨⟨h1,F2 h2 hb.size,h3⟩,hb.block b h2⟩
 refine⟨hi.below.trans (hb.mono hi.below.size),hi.old,hi.defers,hi.size,fun nm h hh x hx=>?_,hi.sep,fun nm h hh=>?_,fun i s hs=>?_⟩;have:=hi.own nm h hh x hx;exact⟨this.1,F2 this.2 hb.size⟩;exact HB.keep hok (fun x hx=>hb.block _ (hi.own nm h hh x hx).2) (hi.rows nm h hh);obtain⟨v,h1,h2⟩:=hi.slots i s hs;refine⟨v,h1,SV.keep hok (fun nm _=>⟨rfl,fun b o hbo cur e fr hc=>⟨cur,e,fr,?_,rfl⟩⟩) h2⟩;have:b<w.heap.size:=by rcases Qa b w.heap.size with h|h;exact h;rw[Array.getElem?_eq_none h]at hc;cases hc
 rw[hb.block b this];exact hc
def Below.drew'(w:World):Below w.heap.size w w.drew:=(Below.refl _ _).drew
def InvB.put(hi:InvB cx st β a w){d:Nat}(hd:d<cx.n)(hs:s.holds β w (bY cx st.heap β w) v):InvB cx (st.put d s) β (a.put (some d) v) w:=by refine⟨hi.below,hi.old,by simp[Act.put,hi.defers],by simp[Act.put,hi.size],hi.own,hi.sep,hi.rows,fun i s' h=>?_⟩;simp only[St.put,bC]at h;split at h;rename_i e;subst e;injection h with h;subst h;exact⟨v,by simp[Act.put,hi.size,hd],hs⟩;rename_i e;obtain⟨u,h1,h2⟩:=hi.slots i s' h;exact⟨u,by simp[Act.put,afw e,h1],h2⟩
def InvB.cell_lt{cur:Array Value}{fr:Nat×Nat}(h:w.heap[b]?=some (.cells cur e fr)):b<w.heap.size:=by rcases Qa b w.heap.size with h'|h';exact h';rw[Array.getElem?_eq_none h']at h;cases h
def InvB.alloc(hi:InvB cx st β a w)[NM rt]{cs:Array Value}(hf:fb nm st.slots=true)(hn:aG st.heap nm=none)
 (hlen:xs.length*rt.n≤cs.size) (hc:∀i x,xs[i]?=some x→∃c,rt.rep w (bY cx st.heap β w) c x∧∀j v,c[j]?=some v→cs[i*rt.n+j]?=some v):
 InvB cx ⟨st.slots,(nm,⟨rt,xs⟩)::st.heap⟩ (fun k=>if k=nm then some (w.heap.size,0)else β k) a (w.alloc (.cells cs e)):=by
 have hbel:Below w.heap.size w (w.alloc (.cells cs e)):=(Below.refl _ _).alloc (Kl _) _;have hok:∀b,bY cx st.heap β w b→bY cx ((nm,⟨rt,xs⟩)::st.heap) (fun k=>if k=nm then some (w.heap.size,0)else β k) (w.alloc (.cells cs e)) b∧(w.alloc (.cells cs e)).heap[b]?=w.heap[b]?:=by rintro b ⟨h1,h2,h3⟩;refine⟨⟨h1,QE,fun k hb hk x hx=>?_⟩,hbel.block b h2⟩;rw[bA]at hk;by_cases e1:k=nm;subst e1;simp at hx;subst hx;simp only;omega;rw[zE (Ne.symm e1)]at hk;simp only[zE e1]at hx;exact h3 k hb hk x hx
 refine⟨hi.below.trans (hbel.mono hi.below.size),hi.old,hi.defers,hi.size,fun k hb hk x hx=>?_,fun k k' hb hb' hk hk' x y hx hy hxy=>?_,fun k hb hk=>?_,fun i s hs=>?_⟩;by_cases e1:k=nm;subst e1;simp at hx;subst hx;exact⟨.inl hi.below.size,Sp⟩;rw[bA,zE (Ne.symm e1)]at hk;simp only[zE e1]at hx;have:=hi.own k hb hk x hx;exact⟨this.1,QE⟩;rw[bA]at hk hk';by_cases e1:k=nm<;>by_cases e2:k'=nm;rw[e1,e2];subst e1;rw[zE (Ne.symm e2)]at hk';simp at hx;subst hx;simp only[zE e2]at hy;have:=hi.own k' hb' hk' y hy;simp only at hxy;omega;subst e2;rw[zE (Ne.symm e1)]at hk;simp at hy;subst hy;simp only[zE e1]at hx;have:=hi.own k hb hk x hx;simp only at hxy;omega;rw[zE (Ne.symm e1)]at hk;rw[zE (Ne.symm e2)]at hk';simp only[zE e1]at hx;simp only[zE e2]at hy;exact hi.sep k k' hb hb' hk hk' x y hx hy hxy;rw[bA]at hk;by_cases e1:k=nm;subst e1;rw[Cg rfl]at hk;injection hk with hk;subst hk;simp only[Cg];refine⟨fun _=>⟨cs,e,heap_alloc_new w _,Nn,fun i x hx=>?_⟩,fun hm=>aak⟩;obtain⟨c,h1,h2⟩:=hc i x hx;exact⟨c,rt.keep hok h1,fun j v hj=>by rw[N1];exact h2 j v hj⟩;rw[zE (Ne.symm e1)]at hk;simp only[zE e1];exact HB.keep hok (fun x hx=>hbel.block _ (hi.own k hb hk x hx).2) (hi.rows k hb hk);obtain⟨v,h1,h2⟩:=hi.slots i s hs;have hfree:=gQ hf hs;refine⟨v,h1,SV.keep hok (fun k hk=>?_) h2⟩;have hne:k≠nm:=aaK;refine⟨by simp[hne],fun b o hbo cur e' fr hcur=>⟨cur,e',fr,?_,rfl⟩⟩;rw[hbel.block b (InvB.cell_lt hcur)];exact hcur
end
def evS(st:St):Operand→Option SV
 | .tmp t=>bg st.slots t
 | .const v=>some (.raw v)
 | .func f=>some (.raw (.func (.func f) #[] #[]))
 | .global g=>some (.raw (.pointer (some ⟨g,0,none⟩)))
inductive Ev(st:St)(x:Operand)(s:SV):Prop
 | base (h:evS st x=some s)
 | gd {c:Bool} (h:evS st x=some (.gd c s)) (hc:c=true)
 | b1 {u:Value} (h:evS st x=some (.both s u))
 | b2 {s':SV} {u:Value} (h:evS st x=some (.both s' u)) (e:s=.raw u)
 | l1 {u:Value} {t:SV} (h:evS st x=some (.lnk s u t))
 | f1 {base sz:Nat} {ds:List (Option (Option Addr×Nat×Nat))} (h:evS st x=some (.fam s base sz ds))
section
def InvB.evS(hi:InvB cx st β a w){x:Operand}{s:SV}(h:Eng.evS st x=some s):s.holds β w (bY cx st.heap β w) (a.eval x):=by
 cases x with
 | tmp t=>
  obtain⟨v,h1,h2⟩:=hi.slots t s h;have:a.eval (.tmp t)=v:=by simp[Act.eval,h1]
  rw[this];exact h2
 | const v=>simp only[Eng.evS]at h;injection h with h;subst h;rfl
 | func f=>simp only[Eng.evS]at h;injection h with h;subst h;rfl
 | global g=>simp only[Eng.evS]at h;injection h with h;subst h;rfl
def InvB.ev(hi:InvB cx st β a w){x:Operand}(h:Ev st x s):s.holds β w (bY cx st.heap β w) (a.eval x):=by
 cases h with
 | base h=>exact hi.evS h
 | gd h hc=>exact(hi.evS h).1 hc
 | b1 h=>exact(hi.evS h).1
 | b2 h e=>subst e;exact(hi.evS h).2
 | l1 h=>exact(hi.evS h).1
 | f1 h=>exact(hi.evS h).1
def InvB.raw(hi:InvB cx st β a w){x:Operand}(h:Ev st x (.raw v)):a.eval x=v:=hi.ev h
structure Agr(o:Oper)(st st':St):Prop where
 ops:∀x∈o.op.operands,evS st' x=evS st x
 heap:∀x∈o.op.operands,∀s nm,evS st x=some s→s.free nm=false→aG st'.heap nm=aG st.heap nm
def Agr.refl(o:Oper)(st:St):Agr o st st:=⟨fun _ _=>rfl,fun _ _ _ _ _ _=>rfl⟩
def Agr.look(h:Agr o st st'){x:Operand}(hx:x∈o.op.operands)(he:Ev st x s)(hf:s.free nm=false):aG st'.heap nm=aG st.heap nm:=by
 cases he with
 | base e=>exact h.heap x hx _ nm e hf
 | gd e hc=>exact h.heap x hx _ nm e hf
 | b1 e=>exact h.heap x hx _ nm e hf
 | b2 e hs=>subst hs;cases hf
 | l1 e=>exact h.heap x hx _ nm e (by simp[SV.free,hf])
 | f1 e=>exact h.heap x hx _ nm e (by simp[SV.free,hf])
def Agr.ev(h:Agr o st st'){x:Operand}(hx:x∈o.op.operands)(he:Ev st x s):Ev st' x s:=by
 cases he with
 | base e=>exact .base ((h.ops x hx).trans e)
 | gd e hc=>exact .gd ((h.ops x hx).trans e) hc
 | b1 e=>exact .b1 ((h.ops x hx).trans e)
 | b2 e hs=>exact .b2 ((h.ops x hx).trans e) hs
 | l1 e=>exact .l1 ((h.ops x hx).trans e)
 | f1 e=>exact .f1 ((h.ops x hx).trans e)
def aH(P:Program)(cx:Cx)(st:St)(o:Oper)(s:SV):Prop:=
 ∀st',Agr o st st'→∀d,o.dst=some d→d<cx.n→∀a w,Inv cx st' a w→∀Q,o.wp P a w (fun a' w'=>Inv cx (st'.put d s) a' w') Q
def OS(P:Program)(cx:Cx)(o:Oper)(st st':St):Prop:=
 ∀a w,Inv cx st a w→∀Q,o.wp P a w (fun a' w'=>Inv cx st' a' w') Q
def bz(h:∀st',Agr o st st'→∀β a w,InvB cx st' β a w→∃v,(execOp a.eval o).run P w=.ok (.value v) w∧s.holds β w (bY cx st'.heap β w) v):aH P cx st o s:=by intro st' hag d hd hdn a w ⟨β,hi⟩ Q;obtain⟨v,h1,h2⟩:=h st' hag β a w hi;unfold Oper.wp;rw[h1,Oper.upon_value,hd];exact⟨β,hi.put hdn h2⟩
def wk(h:∀st',Agr o st st'→∀β a w,InvB cx st' β a w→∃v w',(execOp a.eval o).run P w=.ok (.value v) w'∧Below w.heap.size w w'∧s.holds β w' (bY cx st'.heap β w') v):aH P cx st o s:=by intro st' hag d hd hdn a w ⟨β,hi⟩ Q;obtain⟨v,w',h1,h3,h2⟩:=h st' hag β a w hi;unfold Oper.wp;rw[h1,Oper.upon_value,hd];exact⟨β,(hi.later h3).put hdn h2⟩
inductive Kn
 | fin (fn:Func) (R:Ending→World→Prop)
 | seq (c:Code) (k:Kn)
 | blk (id:Nat) (k:Kn)
 | loop (I:Act→World→Prop) (k:Kn)
 | scp (l:Nat) (I:Act→World→Prop) (k:Kn)
def Kn.post(P:Program):Kn→Exit→Act→World→Prop
 | .fin fn R=>bodyPost P fn R
 | .seq c k=>Exit.then (c.wp P (k.post P)) (k.post P)
 | .blk id k=>Exit.inBlock id (k.post P)
 | .loop I k=>Exit.then I (k.post P)
 | .scp l I k=>Exit.jump l I (k.post P)
def J(P:Program)(cx:Cx)(st:St)(c:Code)(k:Kn):Prop:=∀a w,Inv cx st a w→c.wp P (k.post P) a w
def JN(P:Program)(cx:Cx)(st:St)(k:Kn):Prop:=∀a w,Inv cx st a w→k.post P .normal a w
def JE(P:Program)(cx:Cx)(id:Nat)(st:St)(k:Kn):Prop:=∀a w,Inv cx st a w→k.post P (.exit id) a w
def JR(P:Program)(cx:Cx)(st:St)(k:Kn):Prop:=∀a w,Inv cx st a w→k.post P .ret a w
variable{c':Code}{k:Kn}{id id':Nat}{I:Act→World→Prop}
def ac(h:J P cx st c (.seq c' k)):J P cx st (.seq c c') k:=fun a w hi=>wp_seq (h a w hi)
def ak(h:JN P cx st k):J P cx st .skip k:=fun a w hi=>wp_skip (h a w hi)
def am(h:JR P cx st k):J P cx st .ret k:=fun a w hi=>wp_ret (h a w hi)
def bq(h:JE P cx id st k):J P cx st (.exit id) k:=fun a w hi=>wp_exit (h a w hi)
def az(h:J P cx st c (.blk id k)):J P cx st (.block id c) k:=fun a w hi=>wp_block (h a w hi)
def JG(P:Program)(cx:Cx)(ops:Array Oper)(st:St)(l:List Oper)(k:Kn):Prop:=∀a w,Inv cx st a w→wpList P ops (k.post P) l a w
def ab(h:JG P cx l.toArray st l k):J P cx st (.region id l.toArray false) k:=fun a w hi=>wp_region_lit (h a w hi)
def aS(h:JN P cx st k):JG P cx ops st [] k:=h
def bi(s:SV)(hg:o.guard=none)(d:Nat)(hd:o.dst=some d)(hdn:Nat.blt d cx.n=true)(h:aH P cx st o s)(hr:JG P cx ops (st.put d s) rest k):JG P cx ops st (o::rest) k:=by intro a w hi;refine wpList_plain hg fun K hK=>?_;exact Oper.wp_mono (fun a' w' hi'=>hK _ _ (hr a' w' hi')) (h st (.refl o st) d hd QQ a w hi _)
def gV(st1:St)(hg:o.guard=none)(h:OS P cx o st st1)(hr:JG P cx ops st1 rest k):JG P cx ops st (o::rest) k:=by intro a w hi;refine wpList_plain hg fun K hK=>?_;exact Oper.wp_mono (fun a' w' hi'=>hK _ _ (hr a' w' hi')) (h a w hi _)
def RC(s:SV)(j:Nat)(want c:Bool)(g d:Nat)(hg:o.guard=some (j,want))(hj:(ops[j]?).bind (·.dst)=some g)(hc:bg st.slots g=some (.raw (.bool c)))
 (hd:o.dst=some d) (hdn:Nat.blt d cx.n=true) (h:(c==want)=true→aH P cx st o s) (hr:JG P cx ops (st.put d (.gd (c==want) s)) rest k):JG P cx ops st (o::rest) k:=by
 intro a w hi;have hdn':d<cx.n:=QQ;obtain⟨β,hb⟩:=hi;obtain⟨v,h1,h2⟩:=hb.slots g _ hc;have h2:v=.bool c:=h2;subst h2;have hw:Region.wanted o (yielded ops a.tmps)=(c==want):=by exact V4
 refine wpList_step fun K hK=>?_;cases hcw:(c==want)with
 | true=>exact Tj
 | false=>exact V7
def cf(s:SV)(j:Nat)(want c c0:Bool)(g d:Nat)(hg:o.guard=some (j,want))(hj:(ops[j]?).bind (·.dst)=some g)(hc:bg st.slots g=some (.gd c0 (.raw (.bool c))))
 (hd:o.dst=some d) (hdn:Nat.blt d cx.n=true) (h:(c0&&(c==want))=true→aH P cx st o s) (hr:JG P cx ops (st.put d (.gd (c0&&(c==want)) s)) rest k):JG P cx ops st (o::rest) k:=by
 intro a w hi;have hdn':d<cx.n:=QQ;obtain⟨β,hb⟩:=hi;obtain⟨v,h1,h2,h2'⟩:=hb.slots g _ hc;have hw:Region.wanted o (yielded ops a.tmps)=(c0&&(c==want)):=by exact TV
 refine wpList_step fun K hK=>?_;cases hcw:(c0&&(c==want))with
 | true=>exact Tj
 | false=>exact V7
def af{x:Operand}{t e:Code}{b:Bool}(hx:evS st x=some (.raw (.bool b)))(ht:b=true→J P cx st t k)(he:b=false→J P cx st e k):J P cx st (.cond x t e) k:=by rintro a w ⟨β,hi⟩;have hv:a.eval x=.bool b:=hi.raw (.base hx);exact wp_cond_split hv (fun hb=>ht hb a w ⟨β,hi⟩) (fun hb=>he hb a w ⟨β,hi⟩)
def bR{x:Operand}{t e:Code}{b:Bool}(hx:evS st x=some (.raw (.bool b)))(hb:b=true)(ht:J P cx st t k):J P cx st (.cond x t e) k:=
 af hx (fun _=>ht) (fun h=>by rw[hb]at h;cases h)
def aa(h:J P cx st c k):JN P cx st (.seq c k):=fun a w hi=>h a w hi
def aJ(h:JN P cx st k):JN P cx st (.blk id k):=fun a w hi=>h a w hi
def aE(h:∀a w,Inv cx st a w→I a w):JN P cx st (.loop I k):=fun a w hi=>h a w hi
def bv(h:JE P cx id st k):JE P cx id st (.seq c k):=fun a w hi=>h a w hi
def bd(h:JE P cx id st k):JE P cx id st (.loop I k):=fun a w hi=>h a w hi
def bp(h:JN P cx st k):JE P cx id st (.blk id k):=fun a w hi=>by simp only[Kn.post,Exit.inBlock,if_true];exact h a w hi
def pp(hne:Nat.beq id id'=false)(h:JE P cx id st k):JE P cx id st (.blk id' k):=fun a w hi=>by have:¬id=id':=fun e=>abq;simp only[Kn.post,Exit.inBlock,zE this];exact h a w hi
def al(h:JR P cx st k):JR P cx st (.seq c k):=fun a w hi=>h a w hi
def ax(h:JR P cx st k):JR P cx st (.blk id k):=fun a w hi=>h a w hi
def b8(h:JR P cx st k):JR P cx st (.loop I k):=fun a w hi=>h a w hi
def j_loop(inv:ι→St)(μ:ι→Nat)(i0:ι)(h0:∀a w,Inv cx st a w→Inv cx (inv i0) a w)
 (round:∀i,J P cx (inv i) c (.loop (fun a w=>∃j,μ j<μ i∧Inv cx (inv j) a w) k)):J P cx st (.loop c) k:=by
 intro a w hi;refine wp_loop_ghost (fun n a w=>∃i,μ i=n∧Inv cx (inv i) a w) (μ i0) ⟨i0,rfl,h0 a w hi⟩ ?_;rintro n a w ⟨i,rfl,hi⟩;refine wp_mono (round i a w hi) ?_;intro e a' w' hq;cases e with
 | normal=>obtain⟨j,hj,hi'⟩:=hq;exact⟨μ j,hj,j,rfl,hi'⟩
 | _=>exact hq
structure Sub(st st':St):Prop where
 slots:∀i s,bg st'.slots i=some s→bg st.slots i=some s
 heap:∀i s,aG st'.heap i=some s→aG st.heap i=some s
def Sub.inv(h:Sub st st')(hi:Inv cx st a w):Inv cx st' a w:=by obtain⟨β,hb⟩:=hi;have hok:∀b,bY cx st.heap β w b→bY cx st'.heap β w b∧w.heap[b]?=w.heap[b]?:=fun b ⟨h1,h2,h3⟩=>⟨⟨h1,h2,fun nm hb hh=>h3 nm hb (h.heap _ _ hh)⟩,rfl⟩;refine⟨β,hb.below,hb.old,hb.defers,hb.size,fun nm x hx=>hb.own nm x (h.heap _ _ hx),fun nm nm' x y hx hy=>hb.sep nm nm' x y (h.heap _ _ hx) (h.heap _ _ hy),fun nm x hx=>HB.keep hok (fun _ _=>rfl) (hb.rows nm x (h.heap _ _ hx)),fun i s hs=>?_⟩;exact VX
def au{l:List (Nat×SV)}:∀i s,bg [] i=some s→bg l i=some s:=fun _ _ h=>by simp[bg]at h
def ap{l:List (Nat×SV)}{t t':SV}(h:bg l j=some t)(e:t=t')(hr:∀i s,bg r i=some s→bg l i=some s):∀i s,bg ((j,t')::r) i=some s→bg l i=some s:=by intro i s hs;subst e;rw[bC]at hs;split at hs;rename_i e;subst e;rw[h];exact hs;exact hr i s hs
def aw{l:List (Nat×HB)}:∀i s,aG [] i=some s→aG l i=some s:=fun _ _ h=>by simp[aG]at h
def ao{l r:List (Nat×HB)}{t t':HB}(h:aG l j=some t)(e:t=t')(hr:∀i s,aG r i=some s→aG l i=some s):∀i s,aG ((j,t')::r) i=some s→aG l i=some s:=by intro i s hs;subst e;rw[bA]at hs;split at hs;rename_i e;subst e;rw[h];exact hs;exact hr i s hs
def EJ(h:Sub st st')(hj:J P cx st' c k):J P cx st c k:=fun a w hi=>hj a w (h.inv hi)
def MR(h:Sub st st')(hj:JN P cx st' k):JN P cx st k:=fun a w hi=>hj a w (h.inv hi)
inductive Keep(l:List (Nat×SV)):List Nat→List (Nat×SV)→Prop
 | nil:Keep l [] []
 | cons {j:Nat} {ks:List Nat} {t:SV} {r:List (Nat×SV)} (h:bg l j=some t) (hr:Keep l ks r):Keep l (j::ks) ((j,t)::r)
def Keep.sub{l:List (Nat×SV)}(h:Keep l ks r):∀i s,bg r i=some s→bg l i=some s:=by
 induction h with
 | nil=>exact au
 | cons h _ ih=>exact ap h rfl ih
inductive KeepH(l:List (Nat×HB)):List Nat→List (Nat×HB)→Prop
 | nil:KeepH l [] []
 | cons {j:Nat} {ks:List Nat} {t:HB} {r:List (Nat×HB)} (h:aG l j=some t) (hr:KeepH l ks r):KeepH l (j::ks) ((j,t)::r)
def KeepH.sub{l:List (Nat×HB)}{r:List (Nat×HB)}(h:KeepH l ks r):∀i s,aG r i=some s→aG l i=some s:=by
 induction h with
 | nil=>exact aw
 | cons h _ ih=>exact ao h rfl ih
def adB(ks hs:List Nat)(h:Keep st.slots ks r)(hh:KeepH st.heap hs hp)(hj:JN P cx ⟨r,hp⟩ k):JN P cx st k:=
 MR (st':=⟨r,hp⟩) ⟨h.sub,hh.sub⟩ hj
def y9(ks hs:List Nat)(h:Keep st.slots ks r)(hh:KeepH st.heap hs hp)(hj:J P cx ⟨r,hp⟩ c k):J P cx st c k:=
 EJ (st':=⟨r,hp⟩) ⟨h.sub,hh.sub⟩ hj
def bf(inv:ι→St)(p:ι→Prop)(μ:ι→Nat)(i0:ι)(p0:p i0)(h0:∀a w,Inv cx st a w→Inv cx (inv i0) a w)
 (round:∀i,p i→J P cx (inv i) c (.loop (fun a w=>∃j,μ j<μ i∧p j∧Inv cx (inv j) a w) k)):J P cx st (.loop c) k:=
 j_loop (ι:={i:ι // p i}) (fun i=>inv i.1) (fun i=>μ i.1) ⟨i0,p0⟩ h0 (fun i=>by
 have:=round i.1 i.2;intro a w hi;refine wp_mono (this a w hi) ?_;intro e a' w' hq;cases e with
 | normal=>obtain⟨j,h1,h2,h3⟩:=hq;exact⟨⟨j,h2⟩,h1,h3⟩
 | _=>exact hq)
end
def Gg:TypeDesc→Bool
 | .struct _ | .array _ _=>true
 | _=>false
structure Ty(P:Program)(t:TypeId)(rt:RT α):Prop where
 desc:∃d,P.underlying t=some d∧Gg d=rt.agg
 size:∃i,P.info? t=some i∧i.size=rt.n
def Ty.mk_{d:TypeDesc}(hu:P.underlying t=some d)(hd:Gg d=rt.agg)(hi:(P.info? t).map (·.size)=some rt.n):Ty P t rt:=
 ⟨⟨d,hu,hd⟩,let⟨i,h1,h2⟩:=Option.map_eq_some_iff.1 hi;⟨i,h1,h2⟩⟩
def TyZero(P:Program)(t:TypeId)(rt:RT α)(z:α):Prop:=∃i v,P.info? t=some i∧i.zero=some v∧∀w ok,rt.val w ok v z
def TyZero.mk_(hi:(P.info? t).map (·.zero)=some (some v))(hv:∀w ok,rt.val w ok v z):TyZero P t rt z:=
 let⟨i,h1,h2⟩:=Option.map_eq_some_iff.1 hi;⟨i,v,h1,h2,hv⟩
def aB(P:Program)(t:TypeId)(k:Nat):Option Nat:=
 match P.underlying t with
 | some (.struct fs)=>
  match fs[k]? with
  | some f=>if((P.info? f.type).map (·.size)).getD 0=0 then none else some f.offset
  | none=>none
 | _=>none
section
def ni{d:TypeDesc}(h:P.underlying t=some d)(w:World):(isAgg t).run P w=.ok (Gg d) w:=by simp only[isAgg,Sem.run_bind,run_underlying h,Result.andThen_ok];cases d<;>rfl
def eM{i:TypeInfo}(h:P.info? t=some i)(w:World):(sizeOf t).run P w=.ok i.size w:=by simp[sizeOf,typeInfo,h]
def tg(w:World)(b o:Nat):∀(n i:Nat) (acc:Array Value) (cs:List Value),cs.length=n→CellsAt w b (o+i) cs→(loadCellsFrom ⟨b,o,none⟩ i n acc).run P w=.ok (acc++cs.toArray) w
 | 0,i,acc,cs,hl,_=>by
  have:cs=[]:=List.eq_nil_of_length_eq_zero hl
  subst this
  simp[loadCellsFrom]
 | n+1,i,acc,cs,hl,hc=>by
  match cs,hl with
  | c::r,hl=>
   have h0:=hc 0 c rfl
   have ih:=tg w b o n (i+1) (acc.push c) r FM (fun j v hj=>by
    have:=hc (j+1) v JP
    rw[show o+(i+1)+j=o+i+(j+1)by omega];exact this)
   have e:(⟨b,o,none⟩:Addr).add i=⟨b,o+i,none⟩:=Addr.add_lit _ _ _
   simp only[M6]at h0
   simp[loadCellsFrom,e,h0,ih]
def um(rt:RT α)(ha:rt.agg=false)(h:rt.rep w ok cs d):∃c,cs=[c]:=by
 have hl:=rt.len h;rw[rt.scal ha]at hl;match cs,hl with
 | [c],_=>exact⟨c,rfl⟩
def gA(ht:Ty P t rt){o:Nat}(h:rt.rep w ok cs d)(hc:CellsAt w b o cs):
 ∃v,(loadVar t ⟨b,o,none⟩).run P w=.ok v w∧rt.val w ok v d:=by
 obtain⟨⟨de,hu,hd⟩,i,hi,hs⟩:=ht;cases ha:rt.agg with
 | true=>refine⟨.agg cs.toArray,?_,cs,h,by simp[ha]⟩;have:=tg (P:=P) w b o rt.n 0 #[] cs (rt.len h) (by simpa using hc);simp[loadVar,ni hu,hd,ha,eM hi,loadCells,hs,this]
 | false=>obtain⟨c,rfl⟩:=um rt ha h;have h0:=hc 0 c rfl;simp only[M6]at h0;exact⟨c,by simp[loadVar,ni hu,hd,ha,h0],[c],h,by simp[ha]⟩
def jz(h:rt.val w ok v d):(SV.of rt d).holds β w ok v:=by
 unfold SV.of;cases hr:rt.raw d with
 | none=>exact h
 | some u=>exact rt.val_raw hr h
def ai{x:Operand}(hx:Ev st x s):aH P cx st ⟨dst,.move x,ty,pos,aft,gd⟩ s:=
 bz fun st' hag β a w hi=>⟨a.eval x,acN,ZA⟩
def a8{x:Operand}(hx:Ev st x s):aH P cx st ⟨dst,.assign x,ty,pos,aft,gd⟩ s:=
 bz fun st' hag β a w hi=>⟨a.eval x,acN,ZA⟩
def Adr{c x:Operand}{b z G:Bool}(hc:Ev st c (.raw (.bool b)))(hx:Ev st x (.raw (.bool true)))(hy:evS st y=some (.gd G (.raw (.bool z))))(hG:b=false→G=true):
 aH P cx st ⟨dst,.pick c x y,ty,pos,aft,gd⟩ (.raw (.bool (b||z))):=
 bz fun st' hag β a w hi=>by
 have h1:=hi.raw (hag.ev aT hc);have h2:=hi.raw (hag.ev aT hx);have h3:=hi.evS ((hag.ops y aT).trans hy);refine⟨.bool (b||z),?_,rfl⟩;cases b with
 | true=>simp[execOp,h1,h2,asBool]
 | false=>have h3:=h3.1 (hG rfl);simp only[SV.holds]at h3;simp[execOp,h1,h3,asBool]
def adC{c x:Operand}{b z G:Bool}(hc:Ev st c (.raw (.bool b)))(hx:Ev st y (.raw (.bool false)))(hy:evS st x=some (.gd G (.raw (.bool z))))(hG:b=true→G=true):
 aH P cx st ⟨dst,.pick c x y,ty,pos,aft,gd⟩ (.raw (.bool (b&&z))):=
 bz fun st' hag β a w hi=>by
 have h1:=hi.raw (hag.ev aT hc);have h2:=hi.raw (hag.ev aT hx);have h3:=hi.evS ((hag.ops x aT).trans hy);refine⟨.bool (b&&z),?_,rfl⟩;cases b with
 | false=>simp[execOp,h1,h2,asBool]
 | true=>have h3:=h3.1 (hG rfl);simp only[SV.holds]at h3;simp[execOp,h1,h3,asBool]
def N2{n:Int}(h:-9223372036854775808≤n∧n≤9223372036854775807):IntKind.i64.wrap n=n:=by simp[IntKind.wrap,IntKind.signed,IntKind.bits];omega
def I9{n:Int}(h:0≤n∧n≤18446744073709551615):IntKind.u64.wrap n=n:=by simp[IntKind.wrap,IntKind.signed,IntKind.bits];omega
def Cp{x:Operand}{r:Int}(hx:Ev st x (.raw (.int k p)))(hy:Ev st y (.raw (.int k q)))(hr:k.wrap (p+q)=r):
 aH P cx st ⟨dst,.binOp .add t x y yt,ty,pos,aft,gd⟩ (.raw (.int k r)):=
 bz fun st' hag β a w hi=>⟨.int k r,by have h1:=hi.raw (hag.ev aT hx);have h2:=hi.raw (hag.ev aT hy);simp[execOp,h1,h2,eqGuard_at_int,binOp_add,binOp_sub,binOp_mul,Op.intArith,hr],rfl⟩
def cH{x:Operand}{r:Int}(hx:Ev st x (.raw (.int k p)))(hy:Ev st y (.raw (.int k q)))(hr:k.wrap (p-q)=r):
 aH P cx st ⟨dst,.binOp .sub t x y yt,ty,pos,aft,gd⟩ (.raw (.int k r)):=
 bz fun st' hag β a w hi=>⟨.int k r,by have h1:=hi.raw (hag.ev aT hx);have h2:=hi.raw (hag.ev aT hy);simp[execOp,h1,h2,eqGuard_at_int,binOp_add,binOp_sub,binOp_mul,Op.intArith,hr],rfl⟩
def iz{x:Operand}{r:Int}(hx:Ev st x (.raw (.int k p)))(hy:Ev st y (.raw (.int k q)))(hr:k.wrap (p*q)=r):
 aH P cx st ⟨dst,.binOp .mul t x y yt,ty,pos,aft,gd⟩ (.raw (.int k r)):=
 bz fun st' hag β a w hi=>⟨.int k r,by have h1:=hi.raw (hag.ev aT hx);have h2:=hi.raw (hag.ev aT hy);simp[execOp,h1,h2,eqGuard_at_int,binOp_add,binOp_sub,binOp_mul,Op.intArith,hr],rfl⟩
def i9{x:Operand}{r:Int}(hx:Ev st x (.raw (.int k p)))(hy:Ev st y (.raw (.int k q)))(h0:q≠0)(hr:k.wrap (p.tdiv q)=r):
 aH P cx st ⟨dst,.binOp .quo t x y yt,ty,pos,aft,gd⟩ (.raw (.int k r)):=
 bz fun st' hag β a w hi=>⟨.int k r,by have h1:=hi.raw (hag.ev aT hx);have h2:=hi.raw (hag.ev aT hy);simp[execOp,h1,h2,eqGuard_at_int,binOp_quo,binOp_rem,Op.intDiv,h0,hr],rfl⟩
def op_rem{x:Operand}(hx:Ev st x (.raw (.int k p)))(hy:Ev st y (.raw (.int k q)))(h0:q≠0):
 aH P cx st ⟨dst,.binOp .rem t x y yt,ty,pos,aft,gd⟩ (.raw (.int k (p.tmod q))):=
 bz fun st' hag β a w hi=>⟨.int k (p.tmod q),by have h1:=hi.raw (hag.ev aT hx);have h2:=hi.raw (hag.ev aT hy);simp[execOp,h1,h2,eqGuard_at_int,binOp_rem,Op.intDiv,h0],rfl⟩
def cmpI:BinOp→Int→Int→Bool
 | .eql,p,q=>p==q
 | .neq,p,q=>p != q
 | .lss,p,q=>decide (p<q)
 | .leq,p,q=>decide (p≤q)
 | .gtr,p,q=>decide (p>q)
 | _,p,q=>decide (p≥q)
def wN:BinOp→Bool
 | .eql | .neq | .lss | .leq | .gtr | .geq=>true
 | _=>false
def vN{op:BinOp}{x:Operand}(hop:wN op=true)(hx:Ev st x (.raw (.int k p)))(hy:Ev st y (.raw (.int k q))):
 aH P cx st ⟨dst,.binOp op t x y yt,ty,pos,aft,gd⟩ (.raw (.bool (cmpI op p q))):=
 bz fun st' hag β a w hi=>⟨_,by have h1:=hi.raw (hag.ev aT hx);have h2:=hi.raw (hag.ev aT hy);cases op<;>first|(simp[wN]at hop;done)|(simp[execOp,h1,h2,eqGuard_at_int,binOp_eql,binOp_neq,binOp_lss,binOp_leq,binOp_gtr,binOp_geq];rfl),rfl⟩
def cl{x:Operand}(hx:Ev st x (.raw (.int k p)))(hy:Ev st y (.raw (.int k q))):
 aH P cx st ⟨dst,.binOp .eql t x y yt,ty,pos,aft,gd⟩ (.raw (.bool (p==q))):=vN (op:=.eql) rfl hx hy
def msc{x:Operand}(hx:Ev st x (.raw (.int k p)))(hy:Ev st y (.raw (.int k q))):
 aH P cx st ⟨dst,.binOp .neq t x y yt,ty,pos,aft,gd⟩ (.raw (.bool (p != q))):=vN (op:=.neq) rfl hx hy
def dC{x:Operand}(hx:Ev st x (.raw (.int k p)))(hy:Ev st y (.raw (.int k q))):
 aH P cx st ⟨dst,.binOp .lss t x y yt,ty,pos,aft,gd⟩ (.raw (.bool (decide (p<q)))):=vN (op:=.lss) rfl hx hy
def foT{x:Operand}(hx:Ev st x (.raw (.int k p)))(hy:Ev st y (.raw (.int k q))):
 aH P cx st ⟨dst,.binOp .leq t x y yt,ty,pos,aft,gd⟩ (.raw (.bool (decide (p≤q)))):=vN (op:=.leq) rfl hx hy
def jes{x:Operand}(hx:Ev st x (.raw (.int k p)))(hy:Ev st y (.raw (.int k q))):
 aH P cx st ⟨dst,.binOp .gtr t x y yt,ty,pos,aft,gd⟩ (.raw (.bool (decide (p>q)))):=vN (op:=.gtr) rfl hx hy
def foR{x:Operand}(hx:Ev st x (.raw (.int k p)))(hy:Ev st y (.raw (.int k q))):
 aH P cx st ⟨dst,.binOp .geq t x y yt,ty,pos,aft,gd⟩ (.raw (.bool (decide (p≥q)))):=vN (op:=.geq) rfl hx hy
def co{x:Operand}{b:Bool}(hx:Ev st x (.raw (.bool b))):aH P cx st ⟨dst,.unOp .not t x,ty,pos,aft,gd⟩ (.raw (.bool (!b))):=
 bz fun st' hag β a w hi=>⟨_,by have h1:=hi.raw (hag.ev aT hx);simp[execOp,h1,Op.unary],rfl⟩
def jx{x:Operand}{r:Int}(hx:Ev st x (.raw (.int k p)))(hr:k.wrap (-p)=r):aH P cx st ⟨dst,.unOp .neg t x,ty,pos,aft,gd⟩ (.raw (.int k r)):=
 bz fun st' hag β a w hi=>⟨.int k r,by have h1:=hi.raw (hag.ev aT hx);simp[execOp,h1,Op.unary,Op.intArith,hr],rfl⟩
def eW{x:Operand}{src dt:TypeId}{k':IntKind}{r:Int}(hs:∃d,P.underlying src=some d)(hd:P.underlying dt=some (.int k'))(hx:Ev st x (.raw (.int k p)))(hr:k'.wrap p=r):
 aH P cx st ⟨dst,.convert src dt x,ty,pos,aft,gd⟩ (.raw (.int k' r)):=
 bz fun st' hag β a w hi=>⟨.int k' r,by have h1:=hi.raw (hag.ev aT hx);obtain⟨d,hs⟩:=hs;simp[execOp,h1,convert,run_underlying hs,run_underlying hd,Conv.intToInt,hr],rfl⟩
def qQ(h:(SV.tv (ag rt) xs).holds β w ok v):∃A cap,v=.slice A xs.length cap∧xs.length≤cap∧cap≤maxLen∧SliceRep rt w ok A xs:=by obtain⟨cs,⟨A,cap,rfl,h1,h2,h3⟩,rfl⟩:=h;exact⟨A,cap,by simp[ag],h1,h2,h3⟩
def dw{x:Operand}(ht:P.underlying t=some (.slice e))(hx:Ev st x (.tv (ag rt) xs)):
 aH P cx st ⟨dst,.call {callee:=.builtin .len,args:=#[x],argTypes:=#[t]},ty,pos,aft,gd⟩ (.raw (.int .i64 (xs.length:Int))):=
 bz fun st' hag β a w hi=>by obtain⟨A,cap,h1,_⟩:=qQ (hi.ev (hag.ev ug hx));exact WA
def mC(h:Yq β w nm sz off n v):∃A cap,v=.slice A n cap:=by unfold Yq at h;split at h;exact⟨none,0,by rw[h.1,h.2]⟩;obtain⟨A,cap,h1,_⟩:=h;exact⟨A,cap,h1⟩
def cb{x:Operand}(ht:P.underlying t=some (.slice e))(hx:Ev st x (.own nm sz off n)):
 aH P cx st ⟨dst,.call {callee:=.builtin .len,args:=#[x],argTypes:=#[t]},ty,pos,aft,gd⟩ (.raw (.int .i64 (n:Int))):=
 bz fun st' hag β a w hi=>by obtain⟨A,cap,h1⟩:=mC (hi.ev (hag.ev ug hx));exact WA
def av{x:Operand}{i:Int}(ht:P.underlying t=some (.slice e))(he:Ty P e rt)
 (hx:Ev st x (.tv (ag rt) xs)) (hi':Ev st ix (.raw (.int k i))) (hij:i=(j:Int)) (hd:xs[j]?=some d):aH P cx st ⟨dst,.indexAddr t x ix,ty,pos,aft,gd⟩ (.eptr rt d):=
 bz fun st' hag β a w hi=>by obtain⟨A,cap,h1,h2,h3,h4⟩:=qQ (hi.ev (hag.ev aT hx));have h5:=hi.raw (hag.ev aT hi');have hlt:j<xs.length:=(Y0.1 hd).1;obtain⟨b,o,rfl,hb,hc⟩:=h4 (by intro h;simp[h]at hlt);obtain⟨cs,h6,h7⟩:=hc j d hd;obtain⟨_,i0,hi0,hs⟩:=he;have hb2:(0:Int)≤i∧i<(xs.length:Int):=So;have hj:i.toNat=j:=So;exact⟨_,by simp[execOp,h1,h5,Instr.indexAt,asIntOf,run_underlying ht,hb2,eM hi0,hs,hj,Addr.add_lit],b,_,cs,rfl,hb,h6,h7⟩
def aO{x:Operand}(ht:Ty P t rt)(hx:Ev st x (.eptr rt d)):aH P cx st ⟨dst,.load t x,ty,pos,aft,gd⟩ (SV.of rt d):=
 bz fun st' hag β a w hi=>by obtain⟨b,o,cs,h1,h2,h3,h4⟩:=hi.ev (hag.ev aT hx);obtain⟨v,h5,h6⟩:=gA (P:=P) ht h3 h4;exact⟨v,by simp[execOp,Instr.loadAt,h1,Instr.sureAddr,h5],jz h6⟩
def kI{k:Nat}(hf:aB P t k=some off)(b o:Nat)(w:World):(Instr.fieldAt t (.pointer (some ⟨b,o,none⟩)) k).run P w=.ok (.pointer (some ⟨b,o+off,none⟩)) w:=by
 unfold aB at hf;split at hf;rename_i fs hu;split at hf;rename_i f hk;split at hf;cases hf;rename_i hne;injection hf with hf;subst hf;cases hi:P.info? f.type with
 | none=>simp[hi]at hne
 | some i=>simp only[hi,Lf,YM]at hne;simp[Instr.fieldAt,run_underlying hu,hk,Instr.sureAddr,fieldPlace,eM hi,hne,Addr.add_lit]
 cases hf;cases hf
def CellsAt.part{o:Nat}(h:CellsAt w b o cs)(off n:Nat):CellsAt w b (o+off) ((cs.drop off).take n):=fun j v hj=>by rw[qx];refine h (off+j) v ?_;rw[PC]at hj;split at hj;simpa using hj;cases hj
def be{set:α→γ→α}{x:Operand}{k:Nat}(hf:aB P t k=some off)(hl:Lens rt off rt' get set)(hx:Ev st x (.eptr rt d)):
 aH P cx st ⟨dst,.fieldAddr t x k,ty,pos,aft,gd⟩ (.eptr rt' (get d)):=
 bz fun st' hag β a w hi=>by obtain⟨b,o,cs,h1,h2,h3,h4⟩:=hi.ev (hag.ev aT hx);exact⟨_,by simp[execOp,h1,kI hf],b,_,_,rfl,h2,hl.get_ h3,h4.part off rt'.n⟩
def kOf{x:Operand}(hx:Ev st x (.tup2 s0 s1)):aH P cx st ⟨dst,.extract x 0,ty,pos,aft,gd⟩ s0:=
 bz fun st' hag β a w hi=>by obtain⟨u0,u1,h1,h2,h3⟩:=hi.ev (hag.ev aT hx);exact⟨u0,aaV,h2⟩
def ac6{x:Operand}(hx:Ev st x (.tup2 s0 s1)):aH P cx st ⟨dst,.extract x 1,ty,pos,aft,gd⟩ s1:=
 bz fun st' hag β a w hi=>by obtain⟨u0,u1,h1,h2,h3⟩:=hi.ev (hag.ev aT hx);exact⟨u1,aaV,h3⟩
def eS{x:Operand}(hx:Ev st x (.tup3 s0 s1 s2)):aH P cx st ⟨dst,.extract x 0,ty,pos,aft,gd⟩ s0:=
 bz fun st' hag β a w hi=>by obtain⟨u0,u1,u2,h1,h2,h3,h4⟩:=hi.ev (hag.ev aT hx);exact⟨u0,aaV,h2⟩
def eR{x:Operand}(hx:Ev st x (.tup3 s0 s1 s2)):aH P cx st ⟨dst,.extract x 1,ty,pos,aft,gd⟩ s1:=
 bz fun st' hag β a w hi=>by obtain⟨u0,u1,u2,h1,h2,h3,h4⟩:=hi.ev (hag.ev aT hx);exact⟨u1,aaV,h3⟩
def eQ{x:Operand}(hx:Ev st x (.tup3 s0 s1 s2)):aH P cx st ⟨dst,.extract x 2,ty,pos,aft,gd⟩ s2:=
 bz fun st' hag β a w hi=>by obtain⟨u0,u1,u2,h1,h2,h3,h4⟩:=hi.ev (hag.ev aT hx);exact⟨u2,aaV,h4⟩
end
def qI:Loc:=fun _=>none
def Nd(cx:Cx)(w':World):Ok:=fun b=>(cx.ok0 b∨cx.new b)∧b<w'.heap.size
def Di(cx:Cx)(r:SV):Ending→World→Prop:=fun e w'=>
 ∃v,e=.returned v∧BelowX cx.ex cx.w0.heap.size cx.w0 w'∧r.holds qI w' (Nd cx w') v
def gh(w:World)(ok:Ok):List SV→List Value→Prop
 | [],vs=>vs=[]
 | s::r,vs=>∃v vr,vs=v::vr∧s.holds qI w ok v∧gh w ok r vr
structure Ct(P:Program)(k:FuncId)(aS:List SV)(r:SV):Prop where
 ent:∀w args,(callFunc k args).run P w=.ok (.enter k args) w
 calls:∀w ok0 vs,OkP w ok0→gh w ok0 aS vs→Calls P k vs.toArray w (Di (Cx.of w ok0 0) r)
section
def SV.plain_free:∀{s:SV},s.plain=true→∀nm,s.free nm=true
 | .raw _,_,_=>rfl
 | .tv _ _,_,_=>rfl
 | .eptr _ _,_,_=>rfl
 | .gd _ s,h,nm=>SV.plain_free (s:=s) h nm
 | .both s _,h,nm=>SV.plain_free (s:=s) h nm
 | .lnk s _ t,h,nm=>by simp only[SV.plain,YC]at h;simp[SV.free,SV.plain_free h.1 nm,SV.plain_free h.2 nm]
 | .tup2 a b,h,nm=>by simp only[SV.plain,YC]at h;simp[SV.free,SV.plain_free h.1 nm,SV.plain_free h.2 nm]
 | .tup3 a b c,h,nm=>by simp only[SV.plain,YC]at h;simp[SV.free,SV.plain_free h.1.1 nm,SV.plain_free h.1.2 nm,SV.plain_free h.2 nm]
 | .tup4 a b c d,h,nm=>by simp only[SV.plain,YC]at h;simp[SV.free,SV.plain_free h.1.1.1 nm,SV.plain_free h.1.1.2 nm,SV.plain_free h.1.2 nm,SV.plain_free h.2 nm]
def SV.plain_keep(hp:s.plain=true){ok':Ok}(h:∀b,ok b→ok' b∧w'.heap[b]?=w.heap[b]?)(hv:s.holds β w ok v):s.holds β' w' ok' v:=
 SV.keep h (fun nm hn=>by rw[SV.plain_free hp nm]at hn;cases hn) hv
def nC:Nat→List SV→List (Nat×SV)
 | _,[]=>[]
 | i,s::r=>(i,s)::nC (i+1) r
def iH:∀{aS:List SV} {i n:Nat} {s:SV},bg (nC i aS) n=some s→∃j,n=i+j∧aS[j]?=some s
 | [],_,_,_,h=>by simp[nC,bg]at h
 | s0::r,i,n,s,h=>by simp only[nC,bC]at h;split at h;rename_i e;exact⟨0,So,PW⟩;obtain⟨j,h1,h2⟩:=iH h;exact⟨j+1,So,J3⟩
def fU:∀{ok:Ok} {aS:List SV} {vs:List Value},gh w ok aS vs→∀{j:Nat} {s:SV},aS[j]?=some s→∃v,vs[j]?=some v∧s.holds qI w ok v
 | _,[],_,_,j,s,h=>by simp at h
 | _,s0::r,vs,⟨v,vr,h1,h2,h3⟩,0,s,h=>by
  simp at h;subst h;subst h1;exact⟨v,rfl,h2⟩
 | _,s0::r,vs,⟨v,vr,h1,h2,h3⟩,j+1,s,h=>by
  subst h1
  obtain⟨u,h4,h5⟩:=fU h3 PW
  exact⟨u,Yo,h5⟩
def fO:∀{ok:Ok} {aS:List SV} {vs:List Value},gh w ok aS vs→vs.length=aS.length
 | _,[],vs,h=>by have h:vs=[]:=h;simp[h]
 | _,_::r,_,⟨v,vr,h1,_,h3⟩=>by subst h1;simp[fO h3]
def cJ{k:FuncId}(hf:P.funcs[k]?=some fn)(hb:fn.body=some c)(hn:(fn.name == "runtime.NumGoroutine")=false)(w:World)(args:Array Value):
 (callFunc k args).run P w=.ok (.enter k args) w:=by simp only[callFunc,Sem.run_bind,run_program,Result.andThen_ok,hf,hn,hb,PN,if_false,Option.isNone_some];rfl
def fld{k:FuncId}{aS:List SV}{r:SV}(hf:P.funcs[k]?=some fn)(hb:fn.body=some c)(hn:(fn.name == "runtime.NumGoroutine")=false)(hm:fn.ntmps=m)(hlen:Nat.ble aS.length m=true)
 (hp:(aS.all SV.plain)=true) (h:∀(w0:World) (ok0:Ok),J P (Cx.of w0 ok0 m) ⟨nC 0 aS,[]⟩ c (.fin fn (Di (Cx.of w0 ok0 m) r))):Ct P k aS r:=by refine⟨cJ hf hb hn,fun w ok0 vs hok hh=>?_⟩;have hl:=fO hh;have hlen':aS.length≤m:=Nn;refine calls_of_wp hf hb ?_;have:=h w ok0 {tmps:=vs.toArray++Array.replicate (fn.ntmps-vs.toArray.size) undef,defers:=[]} w ⟨qI,?_⟩;exact wp_mono this fun e a w hq=>hq;exact S9
def pR(a:Act):ResultVar→Sem Value
 | .tmp t=>pure (a.tmps.getD t undef)
 | .cell ad t=>do loadVar t (←asAddr (a.tmps.getD ad undef))
def xA(P:Program)(cx:Cx)(st:St)(rv:ResultVar)(s:SV):Prop:=
 ∀β a w,InvB cx st β a w→∃v,(pR a rv).run P w=.ok v w∧s.holds β w (bY cx st.heap β w) v
def gJ(fn:Func)(a:Act):results fn a.tmps=(do let vs ←fn.results.mapM (pR a);pure (if h:vs.size=1 then vs[0]else .tuple vs)):=by unfold results;congr 1
def ar{t:Nat}(h:bg st.slots t=some s):xA P cx st (.tmp t) s:=fun β a w hi=>by obtain⟨v,h1,h2⟩:=hi.slots t s h;exact⟨v,by simp[pR,h1],h2⟩
def uy(h:bY cx st.heap β w b):Nd cx w b:=⟨h.1,h.2.1⟩
def np(hp:s.plain=true)(hv:s.holds β w (bY cx st.heap β w) v):s.holds qI w (Nd cx w) v:=
 SV.plain_keep hp (fun _ hb=>⟨uy hb,rfl⟩) hv
def cQ{r:SV}(hr:fn.results = #[v0])(h0:xA P cx st v0 s)(hp:s.plain=true)(e:s=r):JR P cx st (.fin fn (Di cx r)):=by rintro a w ⟨β,hi⟩;subst e;obtain⟨v,h1,h2⟩:=h0 β a w hi;refine⟨hi.defers,v,?_,v,rfl,hi.below,np hp h2⟩;simp[gJ,hr,h1]
def aI{r:SV}(hr:fn.results = #[v0,v1])(h0:xA P cx st v0 s0)(h1:xA P cx st v1 s1)(hp:s0.plain=true∧s1.plain=true)(e:SV.tup2 s0 s1=r):JR P cx st (.fin fn (Di cx r)):=by rintro a w ⟨β,hi⟩;subst e;obtain⟨u0,g0,k0⟩:=h0 β a w hi;obtain⟨u1,g1,k1⟩:=h1 β a w hi;refine⟨hi.defers,.tuple #[u0,u1],?_,_,rfl,hi.below,u0,u1,rfl,np hp.1 k0,np hp.2 k1⟩;simp[gJ,hr,g0,g1]
def db{v2:ResultVar}{r:SV}(hr:fn.results = #[v0,v1,v2])(h0:xA P cx st v0 s0)(h1:xA P cx st v1 s1)(h2:xA P cx st v2 s2)(hp:s0.plain=true∧s1.plain=true∧s2.plain=true)(e:SV.tup3 s0 s1 s2=r):JR P cx st (.fin fn (Di cx r)):=by rintro a w ⟨β,hi⟩;subst e;obtain⟨u0,g0,k0⟩:=h0 β a w hi;obtain⟨u1,g1,k1⟩:=h1 β a w hi;obtain⟨u2,g2,k2⟩:=h2 β a w hi;refine⟨hi.defers,.tuple #[u0,u1,u2],?_,_,rfl,hi.below,u0,u1,u2,rfl,np hp.1 k0,np hp.2.1 k1,np hp.2.2 k2⟩;simp[gJ,hr,g0,g1,g2]
inductive Args(st:St):List Operand→List SV→Prop
 | nil:Args st [] []
 | cons {x:Operand} {s:SV} {xs:List Operand} {ss:List SV} (h:Ev st x s) (hr:Args st xs ss):Args st (x::xs) (s::ss)
 | nilS {α:Type} {rt:RT α} {x:Operand} {xs:List Operand} {ss:List SV} (h:Ev st x (.raw (.slice none 0 0))) (hr:Args st xs ss):Args st (x::xs) (.tv (ag rt) []::ss)
 | lit {α:Type} {rt:RT α} {d:α} {v:Value} {x:Operand} {xs:List Operand} {ss:List SV} (h:Ev st x (.raw v)) (hv:∀w ok,rt.val w ok v d) (hr:Args st xs ss):Args st (x::xs) (.tv rt d::ss)
def Ev.tr{x:Operand}(h:Ev st x s)(e:evS st' x=evS st x):Ev st' x s:=by
 cases h with
 | base h=>exact .base (e.trans h)
 | gd h hc=>exact .gd (e.trans h) hc
 | b1 h=>exact .b1 (e.trans h)
 | b2 h hs=>exact .b2 (e.trans h) hs
 | l1 h=>exact .l1 (e.trans h)
 | f1 h=>exact .f1 (e.trans h)
def r6:(ag rt).val w ok (.slice none 0 0) []:=
 ⟨[.slice none 0 0],⟨none,0,rfl,Sp,by simp[maxLen],fun h=>absurd rfl h⟩,rfl⟩
def Args.holds:∀{xs:List Operand} {aS:List SV},Args st xs aS→∀{st':St},(∀x∈xs,evS st' x=evS st x)→InvB cx st' β a w→(aS.all SV.plain)=true→gh w (bY cx st'.heap β w) aS (xs.map a.eval)
 | _,_,.nil,_,_,_,_=>rfl
 | _,_,.cons (x:=x) h hr,st',hx,hi,hp=>by
  simp only[LO,YC]at hp
  have h':=h.tr (hx x Sp)
  exact⟨_,_,rfl,SV.plain_keep hp.1 (fun b hb=>⟨hb,rfl⟩) (hi.ev h'),hr.holds (fun y hy=>hx y O2) hi hp.2⟩
 | _,_,.nilS (x:=x) h hr,st',hx,hi,hp=>by
  simp only[LO,YC]at hp
  have h':=h.tr (hx x Sp)
  exact⟨_,_,rfl,by rw[hi.raw h'];exact r6,hr.holds (fun y hy=>hx y O2) hi hp.2⟩
 | _,_,.lit (x:=x) h hv hr,st',hx,hi,hp=>by
  simp only[LO,YC]at hp
  have h':=h.tr (hx x Sp)
  exact⟨_,_,rfl,by rw[hi.raw h'];exact hv _ _,hr.holds (fun y hy=>hx y O2) hi hp.2⟩
def an{k:FuncId}{aS:List SV}{r:SV}{xs:List Operand}{ts:Array TypeId}(h:Ct P k aS r)(ha:Args st xs aS)(hp:(aS.all SV.plain)=true)(hr:r.plain=true):
 aH P cx st ⟨dst,.call {callee:=.value (.func k),args:=xs.toArray,argTypes:=ts},ty,pos,aft,gd⟩ r:=by
 intro st' hag d hd hdn a w ⟨β,hi⟩ Q;have hargs:=ha.holds (cx:=cx) (β:=β) (a:=a) (w:=w) (st':=st') (fun x hx=>hag.ops x Fw) hi hp;have hrun:(execOp a.eval ⟨dst,.call {callee:=.value (.func k),args:=xs.toArray,argTypes:=ts},ty,pos,aft,gd⟩).run P w=.ok (.enter k (xs.map a.eval).toArray) w:=by exact Xb
 unfold Oper.wp;rw[hrun,Oper.upon_enter];refine(h.calls w (bY cx st'.heap β w) _ hi.okP hargs).mono ?_;rintro e w' ⟨v,rfl,hb,hv⟩;have hb:=hb.plain (fun _ h=>h);subst hd;have hl:=hi.later hb;refine⟨β,hl.put hdn (SV.plain_keep hr (fun b hb'=>⟨⟨?_,hb'.2,?_⟩,rfl⟩) hv)⟩;exact WH;exact Wa
end
section
variable{k:Kn}
structure AgrG(ops:Array Oper)(o:Oper)(st st':St):Prop where
 at_:∀t∈o.looksAt ops,bg st'.slots t=bg st.slots t
 heap:∀x∈o.op.operands,∀s nm,evS st x=some s→s.free nm=false→aG st'.heap nm=aG st.heap nm
def AgrG.agr(h:AgrG ops o st st'):Agr o st st':=⟨fun x hx=>by
 cases x with
 | tmp t=>exact h.at_ t (afk _ (List.mem_filterMap.2 ⟨.tmp t,ade,rfl⟩))
 | _=>rfl,h.heap⟩
def GA(P:Program)(cx:Cx)(ops:Array Oper)(st:St)(o:Oper)(d:Nat)(s:SV):Prop:=
 ∀st',AgrG ops o st st'→∀a w,Inv cx st' a w→∀Q,if Region.wanted o (yielded ops a.tmps)then o.wp P a w (fun a' w'=>Inv cx (st'.put d s) a' w') Q else Inv cx (st'.put d s) (a.put o.dst undef) w
def CV{d:Nat}(hg:o.guard=none)(hd:o.dst=some d)(hdn:Nat.blt d cx.n=true)(h:aH P cx st o s):GA P cx ops st o d s:=by intro st' hag a w hi Q;rw[Cg aa8];exact h st' hag.agr d hd QQ a w hi Q
def Ip{d:Nat}(j:Nat)(want c:Bool)(g:Nat)(hg:o.guard=some (j,want))(hj:(ops[j]?).bind (·.dst)=some g)(hc:bg st.slots g=some (.raw (.bool c)))
 (hd:o.dst=some d) (hdn:Nat.blt d cx.n=true) (h:(c==want)=true→aH P cx st o s):GA P cx ops st o d (.gd (c==want) s):=by
 intro st' hag a w hi Q;have hdn':d<cx.n:=QQ;obtain⟨β,hb⟩:=hi;have hlk:bg st'.slots g=bg st.slots g:=hag.at_ g (by simp[Oper.looksAt,hg,hj]);obtain⟨v,h1,h2⟩:=hb.slots g _ (hlk.trans hc);have h2:v=.bool c:=h2;subst h2;have hw:Region.wanted o (yielded ops a.tmps)=(c==want):=by exact V4
 cases hcw:(c==want)with
 | true=>exact Ts
 | false=>exact WR
def eJ{d:Nat}(j:Nat)(want c c0:Bool)(g:Nat)(hg:o.guard=some (j,want))(hj:(ops[j]?).bind (·.dst)=some g)(hc:bg st.slots g=some (.gd c0 (.raw (.bool c))))
 (hd:o.dst=some d) (hdn:Nat.blt d cx.n=true) (h:(c0&&(c==want))=true→aH P cx st o s):GA P cx ops st o d (.gd (c0&&(c==want)) s):=by
 intro st' hag a w hi Q;have hdn':d<cx.n:=QQ;obtain⟨β,hb⟩:=hi;have hlk:bg st'.slots g=bg st.slots g:=hag.at_ g (by simp[Oper.looksAt,hg,hj]);obtain⟨v,h1,h2,h2'⟩:=hb.slots g _ (hlk.trans hc);have hw:Region.wanted o (yielded ops a.tmps)=(c0&&(c==want)):=by exact TV
 cases hcw:(c0&&(c==want))with
 | true=>exact Ts
 | false=>exact WR
def iy(st:St):List (Nat×SV)→(Nat→Bool)→St
 | [],_=>st
 | c::r,L=>iy (bif L 0 then st.put c.1 c.2 else st) r (fun i=>L (i+1))
def lb:List (Nat×SV)→(Nat→Bool)→Nat→Option SV
 | [],_,_=>none
 | c::r,L,t=>match lb r (fun i=>L (i+1)) t with
  | some s=>some s
  | none=>bif L 0 then(if c.1=t then some c.2 else none)else none
def dK:∀(cs:List (Nat×SV)) (st:St) (L:Nat→Bool) (t:Nat),bg (iy st cs L).slots t=(lb cs L t).or (bg st.slots t)
 | [],st,L,t=>by simp[iy,lb]
 | c::r,st,L,t=>by
  rw[iy,dK r];simp only[lb];cases h:lb r (fun i=>L (i+1)) t with
  | some s=>simp
  | none=>
   cases hL:L 0 with
   | false=>simp
   | true=>simp only[cond_true,St.put,bC];split<;>simp
def eh:∀(cs:List (Nat×SV)) (st:St) (L:Nat→Bool),(iy st cs L).heap=st.heap
 | [],_,_=>rfl
 | c::r,st,L=>by rw[iy,eh r];cases L 0<;>rfl
def jA:∀{cs:List (Nat×SV)} {L:Nat→Bool} {t:Nat},(∀j c,cs[j]?=some c→c.1=t→L j=false)→lb cs L t=none
 | [],_,_,_=>rfl
 | c::r,L,t,h=>by
  simp only[lb,jA (cs:=r) (L:=fun i=>L (i+1)) (t:=t) (fun j c hj he=>h (j+1) c JP he)];cases hL:L 0 with
  | false=>rfl
  | true=>
   have:¬c.1=t:=fun e=>by rw[h 0 c rfl e]at hL;cases hL
   simp[this]
def p7:∀{cs:List (Nat×SV)} {L:Nat→Bool} {t i:Nat},(∀j c,cs[j]?=some c→c.1=t→(L j=true↔j<i))→lb cs L t=lb (cs.take i) (fun _=>true) t
 | [],_,_,_,_=>by simp[lb]
 | c::r,L,t,0,h=>by
  have hn:lb (c::r) L t=none:=jA fun j c' hj he=>by
   have:=h j c' hj he
   cases hL:L j with
   | false=>rfl
   | true=>have:=this.1 hL;omega
  rw[hn];rfl
 | c::r,L,t,i+1,h=>by
  simp only[List.take_succ_cons,lb,p7 (cs:=r) (L:=fun i=>L (i+1)) (t:=t) (i:=i) (fun j c hj he=>by have:=h (j+1) c JP he;rw[this];omega)]
  cases h':lb (r.take i) (fun _=>true) t with
  | some s=>rfl
  | none=>
   by_cases e:c.1=t
   ·have:=h 0 c rfl e
    rw[this.2 So]
   simp[e]
def p8:∀{cs:List (Nat×SV)} {L:Nat→Bool} {i:Nat} {c:Nat×SV},cs[i]?=some c→L i=true→(∀j c',cs[j]?=some c'→c'.1=c.1→i<j→L j=false)→lb cs L c.1=some c.2
 | [],_,_,_,h,_,_=>by simp at h
 | c0::r,L,0,c,h,hL,hl=>by
  simp at h;subst h
  simp only[lb,jA (cs:=r) (L:=fun i=>L (i+1)) (t:=c0.1) (fun j c' hj he=>hl (j+1) c' JP he So),hL]
  simp
 | c0::r,L,i+1,c,h,hL,hl=>by
  simp only[lb,p8 (cs:=r) (L:=fun i=>L (i+1)) (i:=i) (c:=c) PW hL (fun j c' hj he hij=>hl (j+1) c' JP he So)]
def gC:∀{cs:List (Nat×SV)} {L L':Nat→Bool} {t:Nat},(∀j c,cs[j]?=some c→c.1=t→L j=L' j)→lb cs L t=lb cs L' t
 | [],_,_,_,_=>rfl
 | c::r,L,L',t,h=>by simp only[lb,gC (cs:=r) (L:=fun i=>L (i+1)) (L':=fun i=>L' (i+1)) (t:=t) (fun j c hj he=>h (j+1) c JP he)];by_cases e:c.1=t;rw[h 0 c rfl e];simp[e]
inductive AS(P:Program)(cx:Cx)(ops:Array Oper):St→List Oper→List (Nat×SV)→Prop
 | nil {st:St}:AS P cx ops st [] []
 | cons {st:St} {o:Oper} {l:List Oper} {cs:List (Nat×SV)} (d:Nat) (s:SV) (hd:o.dst=some d) (h:GA P cx ops st o d s) (hr:AS P cx ops (st.put d s) l cs):AS P cx ops st (o::l) ((d,s)::cs)
def AS.at_:∀{st:St} {l:List Oper} {cs:List (Nat×SV)},AS P cx ops st l cs→cs.length=l.length∧∀i o,l[i]?=some o→∃d s,cs[i]?=some (d,s)∧o.dst=some d∧GA P cx ops (iy st (cs.take i) (fun _=>true)) o d s
 | _,_,_,.nil=>⟨rfl,fun i o h=>ob⟩
 | _,_,_,.cons d s hd h hr=>⟨by simp[hr.at_.1],fun i o' hi=>by
  cases i with
  | zero=>simp at hi;subst hi;exact⟨d,s,rfl,hd,h⟩
  | succ i=>obtain⟨d',s',h1,h2,h3⟩:=hr.at_.2 i o' Dq;exact⟨d',s',LF,h2,by simpa[iy]using h3⟩⟩
def vh(ops:Array Oper):Bool:=
 (List.range ops.size).all fun j=>(match ops[j]? with|some oj=>oj.after.all (fun e=>!Region.binds .any e||decide (e.on<j))|none=>true)&&
  (List.range j).all fun i=>(match ops[i]?,ops[j]? with|some oi,some oj=>oi.apart ops oj|_,_=>true)||Region.waitsFor .any ops j i
def QY(ops:Array Oper)(m:Nat):Bool:=
 (List.range m).all (fun i=>(List.range (m+1)).any fun j=>decide (i<j)&&Region.waitsFor .any ops j i)&&
 (List.range ops.size).all fun i=>decide (i≤m)||(match ops[i]? with|some oi=>oi.after.any (fun e=>Region.binds .any e&&decide (m≤e.on))|none=>true)
structure wq(ops:Array Oper):Prop where
 back:∀j oj,ops[j]?=some oj→∀e∈oj.after,Region.binds .any e=true→e.on<j
 order:∀i j oi oj,i<j→ops[i]?=some oi→ops[j]?=some oj→oi.apart ops oj=false→∃e∈oj.after,Region.binds .any e=true∧e.on=i
def pE(h:vh ops=true):wq ops:=by unfold vh at h;rw[Qe]at h;refine⟨fun j oj hj e he hb=>?_,fun i j oi oj hij hi hj hap=>?_⟩;have hjs:j<ops.size:=(Gm.1 hj).1;have:=h j (Lb.2 hjs);simp only[hj,YC]at this;have:=Array.all_eq_true'.1 this.1 e he;simpa[hb]using this;have hjs:j<ops.size:=(Gm.1 hj).1;have:=h j (Lb.2 hjs);simp only[YC]at this;have:=Qe.1 this.2 i (Lb.2 hij);simp only[hi,hj,hap,Bool.false_or]at this;obtain⟨oj',hj',e,he,hb,hon⟩:=Region.waitsFor_spec this;rw[hj]at hj';injection hj' with hj';subst hj';exact⟨e,he,hb,hon⟩
structure Lst(ops:Array Oper)(lo hi:Nat)(listed:Array Bool):Prop where
 size:listed.size=ops.size
 low:∀i,i<lo→listed.getD i false=true
 high:∀i,hi≤i→i<ops.size→listed.getD i true=false
 closed:∀j oj,ops[j]?=some oj→listed.getD j false=true→∀e∈oj.after,Region.binds .any e=true→listed.getD e.on false=true
def fP(h:i<listed.size):listed.getD i true=listed.getD i false:=Ph
def Yw(n m:Nat):Array Bool:=(Array.range n).map fun i=>decide (i<m)
def dR(d:Bool)(h:i<n):(Yw n m).getD i d=decide (i<m):=by simp[Yw,h]
def oX(hs:listed.size=n)(h:∀i,i<n→listed.getD i false=decide (i<m)):listed=Yw n m:=by apply Array.ext;simp[Yw,hs];intro i h1 h2;have:=h i So;simp only[Array.getD_eq_getD_getElem?,PB h1,YM]at this;simp[Yw,this]
def Nf(listed:Array Bool):Nat:=listed.toList.countP (fun b=>!b)
def mW:∀(l:List Bool) (i:Nat),l[i]?=some false→(l.set i true).countP (fun b=>!b)+1=l.countP (fun b=>!b)
 | [],i,h=>by simp at h
 | b::r,0,h=>by simp at h;subst h;simp
 | b::r,i+1,h=>by have:=mW r i PW;simp only[List.set_cons_succ,List.countP_cons];omega
def pJ(hi:i<listed.size)(h:listed.getD i false=false):Nf (listed.setIfInBounds i true)+1=Nf listed:=by
 unfold Nf;rw[Array.toList_setIfInBounds];refine mW _ _ ?_;have:listed[i]?=some false:=by simpa[hi]using h
 simpa using this
def t8(n:Nat):Nf (Array.replicate n false)=n:=by simp[Nf,List.countP_replicate]
def Lst.set{lo hi:Nat}(h:Lst ops lo hi listed)(hr:i∈Region.ready .any ops listed)(hhi:i<hi):Lst ops lo hi (listed.setIfInBounds i true):=by obtain⟨hun,oi,hoi,hall⟩:=mem_ready.1 hr;refine⟨by simp[h.size],fun j hj=>getD_set_true (h.low j hj),fun t ht hts=>by rw[getD_set_ne true So];exact h.high t ht hts,fun j oj hj hl e he hb=>?_⟩;exact Vp
def xX{lo hi:Nat}(h:Lst ops lo hi listed)(hn:n=ops.size)(hhi:hi≤n)(hz:Nf listed=n-hi):listed=Yw n hi:=by
 subst hn
 refine oX h.size fun i hi'=>?_
 by_cases e:i<hi
 ·simp only[e,decide_true]
  cases hl:listed.getD i false with
  | true=>rfl
  | false=>
   exfalso
   have hc:∀(l:List Bool) (m:Nat),(∀j,m≤j→j<l.length→l[j]?=some false)→l.length-m≤l.countP (fun b=>!b):=by
    intro l
    induction l with
    | nil=>intro m _;simp
    | cons b r ih=>
     intro m hm
     cases m with
     | zero=>
      have h0:=hm 0 (Kl _) Sp
      simp at h0;subst h0
      have:=ih 0 (fun j _ hj=>by have:=hm (j+1) So JP;simpa using this)
      simp at this⊢;omega
     | succ m=>
      have:=ih m (fun j hj hj2=>by have:=hm (j+1) So (by simpa using hj2);simpa using this)
      simp only[NK,List.countP_cons]
      split<;>omega
   have h1:=pJ abj hl
   have h2:=hc (listed.setIfInBounds i true).toList hi (fun j hj hj2=>by
    have hjs:j<ops.size:=by simpa[h.size]using hj2
    have h3:=h.high j hj hjs
    have hne:i≠j:=So
    have h4:j<listed.size:=by rw[h.size];exact hjs
    have h5:listed[j]?=some false:=by simpa[h4]using h3
    rw[Array.getElem?_toList,afw hne];exact h5)
   simp only[Nf]at h1 hz
   simp only[Lq,Array.size_setIfInBounds,h.size]at h2
   omega
 have hh:=h.high i So hi'
 rw[fP abj]at hh
 simp[e,hh]
def vg(dk:wq ops){Q:Exit→Act→World→Prop}{lo hi g:Nat}{cs:List (Nat×SV)}(hlo:lo≤hi)(hhi:hi≤ops.size)(hl:l.length=hi-lo)(hat:∀i,i<l.length→l[i]?=ops[lo+i]?)
 (has:AS P cx ops st l cs)
 (hbar:∀listed,Lst ops lo hi listed→∀i∈Region.ready .any ops listed,hi≤i→Nf listed=ops.size-hi)
 (hK:∀a w,Inv cx (iy st cs (fun _=>true)) a w→wpAny P .any ops Q g (Yw ops.size hi) a w):
 ∀(f:Nat) (listed:Array Bool),Lst ops lo hi listed→Nf listed=f+(ops.size-hi)→∀a w,Inv cx (iy st cs (fun i=>listed.getD (lo+i) false)) a w→wpAny P .any ops Q (f+g) listed a w:=by
 obtain⟨hcl,hga⟩:=has.at_
 have hidx:∀j c,cs[j]?=some c→∃oj,ops[lo+j]?=some oj∧oj.dst=some c.1∧j<l.length:=by
  exact UP
 intro f
 induction f with
 | zero=>
  exact Ui
 | succ f ih=>
  intro listed hL hu a w hi'
  rw[show f+1+g=(f+g)+1 by omega]
  have hready:∀i∈Region.ready .any ops listed,lo≤i∧i<hi:=by
   intro i hr
   have hun:=(mem_ready.1 hr).1
   refine⟨?_,?_⟩
   ·rcases Qa i lo with h|h
    ·have h1:=hL.low i h
     obtain⟨_,oi,hoi,_⟩:=mem_ready.1 hr
     exact Ws
    exact h
   rcases Qa i hi with h|h
   ·exact h
   have:=hbar listed hL i hr h;omega
  refine⟨fun hnil=>?_,fun i hr=>?_⟩
  ·exact SG
  obtain⟨hil,hih⟩:=hready i hr
  exact SA
def Y11{id:Nat}{cs:List (Nat×SV)}(hm:P.follows .mixedOrders=true)(hB:vh l.toArray=true)(has:AS P cx l.toArray st l cs)(hn:JN P cx (iy st cs (fun _=>true)) k):J P cx st (.region id l.toArray true) k:=by
 intro a w hi;refine wp_region_any hm ?_;obtain⟨β,hb⟩:=hi;have hi0:Inv cx st a w.drew:=⟨β,hb.later (Below.drew' w)⟩;have hst0:Inv cx (iy st cs (fun i=>(Array.replicate l.toArray.size false).getD (0+i) false)) a w.drew:=by exact VZ
 have hL:Lst l.toArray 0 l.toArray.size (Array.replicate l.toArray.size false):=
  ⟨Sp,fun i h=>So,fun i h1 h2=>So,fun j oj hj hl=>aaF⟩
 have hu:Nf (Array.replicate l.toArray.size false)=l.toArray.size+(l.toArray.size-l.toArray.size):=by rw[t8];omega
 have:=vg (P:=P) (Q:=k.post P) (g:=0) (pE hB) (P8 _) (Kl _) Sp (fun i hi=>Sp) has
  (fun listed hL i hr hge=>by
   obtain⟨_,oi,hoi,_⟩:=mem_ready.1 hr
   have:=(Gm.1 hoi).1
   omega)
  (fun a w hi=>⟨?_,hn a w hi⟩) l.toArray.size _ hL hu a w.drew hst0
 simpa using this;exact T0
def n5{id:Nat}{cs1 cs2:List (Nat×SV)}(m:Nat){st2:St}{om:Oper}(hm:P.follows .mixedOrders=true)(hB:vh l.toArray=true)(hbar:QY l.toArray m=true)
 (has1:AS P cx l.toArray st (l.take m) cs1) (hom:l[m]?=some om) (hg:om.guard=none) (hos:OS P cx om (iy st cs1 (fun _=>true)) st2) (has2:AS P cx l.toArray st2 (l.drop (m+1)) cs2)
 (hn:JN P cx (iy st2 cs2 (fun _=>true)) k):J P cx st (.region id l.toArray true) k:=by
 have dk:=pE hB
 have hml:m<l.length:=(Y0.1 hom).1
 unfold QY at hbar
 rw[YC,Qe,Qe]at hbar
 obtain⟨hb1,hb2⟩:=hbar
 intro a w hi
 refine wp_region_any hm ?_
 obtain⟨β,hb⟩:=hi
 have hi0:Inv cx st a w.drew:=⟨β,hb.later (Below.drew' w)⟩
 have hst0:Inv cx (iy st cs1 (fun i=>(Array.replicate l.toArray.size false).getD (0+i) false)) a w.drew:=by
  exact VZ
 have hL:Lst l.toArray 0 m (Array.replicate l.toArray.size false):=
  ⟨Sp,fun i h=>So,fun i h1 h2=>aaw,fun j oj hj hl=>aaF⟩
 have hu:Nf (Array.replicate l.toArray.size false)=m+(l.toArray.size-m):=by rw[t8];simp;omega
 have hbehind:∀(hi':Nat) (listed:Array Bool),hi'≤m→Lst l.toArray 0 hi' listed→∀i∈Region.ready .any l.toArray listed,m<i→False:=by
  exact Tq
 have hseg2:∀a w,Inv cx st2 a w→wpAny P .any l.toArray (k.post P) (l.length-(m+1)) (Yw l.toArray.size (m+1)) a w:=by
  intro a w hi
  have hst1:Inv cx (iy st2 cs2 (fun i=>(Yw l.toArray.size (m+1)).getD ((m+1)+i) false)) a w:=by
   refine Sub.inv ⟨fun i s hs=>?_,fun i s hs=>?_⟩ hi
   ·rw[dK,jA (fun j c hj _=>by
     have hjl:j<(l.drop (m+1)).length:=by rw[←has2.at_.1];exact(Y0.1 hj).1
     simp only[PS]at hjl
     rw[dR false QE]
     simp)]at hs
    simpa using hs
   rw[eh]at hs;exact hs
  have hL2:Lst l.toArray (m+1) l.toArray.size (Yw l.toArray.size (m+1)):=by
   refine⟨by simp[Yw],fun i h=>by rw[dR false QE];simpa using h,fun i h1 h2=>So,fun j oj hj hl e he hbe=>?_⟩
   exact V0
  have hcnt:∀n mm:Nat,mm≤n→Nf (Yw n mm)=n-mm:=by
   intro n mm hmm
   unfold Nf Yw
   rw[Array.toList_map,Array.toList_range,List.countP_map]
   clear hmm
   induction n with
   | zero=>simp
   | succ n ih=>
    rw[Jp,List.countP_append,ih]
    simp only[List.countP_cons,List.countP_nil,Function.comp]
    by_cases e:n<mm
    ·simp[e];omega
    simp[e];omega
  have:=vg (P:=P) (Q:=k.post P) (g:=0) dk (lo:=m+1) (hi:=l.toArray.size) QE (Kl _) Sp (fun i hi=>Sp) has2
   (fun listed hL i hr hge=>by
    obtain⟨_,oi,hoi,_⟩:=mem_ready.1 hr
    have:=(Gm.1 hoi).1
    omega)
   (fun a w hi=>⟨?_,hn a w hi⟩) (l.length-(m+1)) _ hL2 (by rw[hcnt _ _ QE];simp) a w hst1
  ·simpa using this
  exact T0
 have hmid:∀a w,Inv cx (iy st cs1 (fun _=>true)) a w→wpAny P .any l.toArray (k.post P) (l.length-(m+1)+1) (Yw l.toArray.size m) a w:=by
  intro a w hi
  have homs:l.toArray[m]?=some om:=by simpa using hom
  have hLm:Lst l.toArray 0 m (Yw l.toArray.size m):=by
   refine⟨by simp[Yw],fun i h=>So,fun i h1 h2=>by rw[dR true h2];simp;omega,fun j oj hj hl e he hbe=>?_⟩
   exact V0
  refine⟨fun hnil=>?_,fun i hr=>?_⟩
  ·exfalso
   have:m∈Region.ready .any l.toArray (Yw l.toArray.size m):=by
    refine mem_ready.2 ⟨by rw[dR true (by simpa using hml)];simp,om,homs,fun e he hbe=>?_⟩
    have hlt:=dk.back m om homs e he hbe
    rw[dR false QE]
    simpa using hlt
   rw[hnil]at this
   cases this
  have him:i=m:=by
   rcases Nat.lt_trichotomy i m with h|h|h
   ·have hun:=(mem_ready.1 hr).1
    rw[dR true QE]at hun
    simp at hun;omega
   ·exact h
   exact absurd h (fun h=>hbehind m _ (Kl _) hLm i hr h)
  subst him
  have hset:(Yw l.toArray.size i).setIfInBounds i true=Yw l.toArray.size (i+1):=by
   refine oX (by simp[Yw]) fun j hj=>?_
   by_cases e:i=j
   ·subst e
    have hj':i<l.length:=JP
    simp[Yw,hj']
   rw[getD_set_ne false e,dR false hj]
   simp;omega
  rw[hset]
  unfold wpOp
  simp only[homs]
  rw[Cg aa8]
  exact .inl (Oper.wp_mono hseg2 (hos a w hi _))
 have:=vg (P:=P) (Q:=k.post P) (g:=l.length-(m+1)+1) dk (lo:=0) (hi:=m) (P8 _) QE QE (fun i hi=>by
  simp only[KC]at hi
  rw[rD So];simp) has1
  (fun listed hL i hr hge=>by
   have him:i=m:=by
    exact WC
   subst him
   obtain⟨_,oi,hoi,hdeps⟩:=mem_ready.1 hr
   have hall:∀d j,i-j=d→j<i→listed.getD j false=true:=by
    exact Tg
   have he:listed=Yw l.toArray.size i:=oX hL.size fun j hj=>by
    exact Wj
   have hcnt:∀n mm:Nat,Nf (Yw n mm)=n-mm:=by
    exact UN
   rw[he,hcnt])
  hmid m _ hL hu a w.drew hst0
 have e2:l.toArray.size=m+(l.length-(m+1)+1):=QE
 rw[e2]
 rw[e2]at this
 exact this
end
section
variable{k:Kn}
def adD(h:rt.raw d=some v)(w:World)(ok:Ok):rt.val w ok v d:=by have h1:=rt.exact' (w:=w) (ok:=ok) h;exact⟨[v],h1,by simp[(rt.exact_ h h1).2]⟩
inductive Rd(st:St)(x:Operand)(rt:RT α)(d:α):Prop
 | tv (h:Ev st x (.tv rt d))
 | raw {v:Value} (h:Ev st x (.raw v)) (hv:rt.raw d=some v)
 | lit {v:Value} (h:Ev st x (.raw v)) (hv:∀w ok,rt.val w ok v d)
def Rd.val{α:Type}{x:Operand}{rt:RT α}{d:α}(h:Rd st x rt d)(hi:InvB cx st β a w):rt.val w (bY cx st.heap β w) (a.eval x) d:=by
 cases h with
 | tv h=>exact hi.ev h
 | raw h hv=>rw[hi.raw h];exact adD hv _ _
 | lit h hv=>rw[hi.raw h];exact hv _ _
def Rd.tr{α:Type}{x:Operand}{rt:RT α}{d:α}(h:Rd st x rt d)(e:evS st' x=evS st x):Rd st' x rt d:=by
 cases h with
 | tv h=>exact .tv (h.tr e)
 | raw h hv=>exact .raw (h.tr e) hv
 | lit h hv=>exact .lit (h.tr e) hv
def InvB.setRow(hi:InvB cx st β a w){nm b o o':Nat}{α α':Type}{rt:RT α}[NM rt]{rt':RT α'}[NM rt']{xs:List α}{xs':List α'}{cur cur':Array Value}{e:TypeId}(hn:aG st.heap nm=some ⟨rt,xs⟩)(hb:β nm=some (b,o))(hc:w.heap[b]?=some (.cells cur e (0,0)))
 (hs:cur'.size=cur.size) (hf:o'=o∨fb nm st.slots=true) (hlen:o'+xs'.length*rt'.n≤cur'.size)
 (hx:∀i x,xs'[i]?=some x→∃cs,rt'.rep w (bY cx st.heap β w) cs x∧∀j v,cs[j]?=some v→cur'[o'+i*rt'.n+j]?=some v):
 InvB cx ⟨st.slots,(nm,⟨rt',xs'⟩)::st.heap⟩ (fun k=>if k=nm then some (b,o')else β k) a (w.setRow b cur'):=by
 have hown:=hi.own nm _ hn _ hb;have hothers:∀k hb',aG st.heap k=some hb'→k≠nm→∀x,β k=some x→x.1≠b:=fun k hb' hk hne x hx e1=>hne (hi.sep k nm _ _ hk hn x (b,o) hx hb e1);have hok:∀b',bY cx st.heap β w b'→bY cx ((nm,⟨rt',xs'⟩)::st.heap) (fun k=>if k=nm then some (b,o')else β k) (w.setRow b cur') b'∧(w.setRow b cur').heap[b']?=w.heap[b']?:=by rintro b' ⟨h1,h2,h3⟩;have hne:b'≠b:=fun e1=>h3 nm _ hn _ hb e1.symm;refine⟨⟨h1,J3,fun k hb' hk x hx=>?_⟩,setRow_other _ _ _ _ hne⟩;rw[bA]at hk;by_cases e1:k=nm;subst e1;simp at hx;subst hx;exact fun e2=>hne e2.symm;rw[zE (Ne.symm e1)]at hk;simp only[zE e1]at hx;exact h3 k hb' hk x hx
 have hsame:∀(b1:Nat) (cur1:Array Value) (e1:TypeId) (fr1:Nat×Nat),w.heap[b1]?=some (Obj.cells cur1 e1 fr1)→∃(cur2:Array Value) (e2:TypeId) (fr2:Nat×Nat),(w.setRow b cur').heap[b1]?=some (Obj.cells cur2 e2 fr2)∧cur2.size=cur1.size:=by intro b1 cur1 e1 fr1 h1;by_cases hbb:b1=b;subst hbb;rw[hc]at h1;injection h1 with h1;injection h1 with h1 _ _;subst h1;exact⟨cur',_,_,setRow_heap _ _ _ _ _ _ hc,hs⟩;exact⟨cur1,e1,fr1,by rw[setRow_other _ _ _ _ hbb];exact h1,rfl⟩
 refine⟨⟨hi.below.os,hi.below.tape,hi.below.output,by simpa using hi.below.size,fun k hk hx=>?_,hi.below.drawn⟩,hi.old,hi.defers,hi.size,fun k hb' hk x hx=>?_,fun k k' h1 h2 hk hk' x y hx hy hxy=>?_,fun k hb' hk=>?_,fun i s hs'=>?_⟩;have h0:k≠b:=by rintro rfl;rcases hown.1 with q|q;omega;exact hx q
 rw[setRow_other _ _ _ _ h0];exact hi.below.blockX k hk hx;by_cases e1:k=nm;subst e1;simp at hx;subst hx;exact⟨hown.1,by simpa using hown.2⟩;rw[bA,zE (Ne.symm e1)]at hk;simp only[zE e1]at hx;have:=hi.own k hb' hk x hx;exact⟨this.1,by simpa using this.2⟩;rw[bA]at hk hk';by_cases e1:k=nm<;>by_cases e2:k'=nm;rw[e1,e2];subst e1;rw[zE (Ne.symm e2)]at hk';simp at hx;subst hx;simp only[zE e2]at hy;exact absurd hxy.symm (hothers k' _ hk' e2 y hy);subst e2;rw[zE (Ne.symm e1)]at hk;simp at hy;subst hy;simp only[zE e1]at hx;exact absurd hxy (hothers k _ hk e1 x hx);rw[zE (Ne.symm e1)]at hk;rw[zE (Ne.symm e2)]at hk';simp only[zE e1]at hx;simp only[zE e2]at hy;exact hi.sep k k' _ _ hk hk' x y hx hy hxy;rw[bA]at hk;by_cases e1:k=nm;subst e1;rw[Cg rfl]at hk;injection hk with hk;subst hk;simp only[Cg];exact⟨fun _=>⟨cur',e,setRow_heap _ _ _ _ _ _ hc,hlen,fun i x hix=>let⟨cs,h1,h2⟩:=hx i x hix;⟨cs,rt'.keep hok h1,h2⟩⟩,fun hm=>by rw[show rt'.mp=false from NM.no]at hm;cases hm⟩;rw[zE (Ne.symm e1)]at hk;simp only[zE e1];exact HB.keep hok (fun x hx=>setRow_other _ _ _ _ (hothers k _ hk e1 x hx)) (hi.rows k hb' hk);obtain⟨v,h1,h2⟩:=hi.slots i s hs';refine⟨v,h1,SV.keep hok (fun k hk=>?_) h2⟩;refine⟨?_,fun b1 o1 _ cur1 e1 fr1 h3=>hsame b1 cur1 e1 fr1 h3⟩;by_cases e1:k=nm;subst e1;simp only[Cg];rcases hf with hf|hf;rw[hf,hb];have:=gQ hf hs';rw[this]at hk;cases hk;simp only[zE e1]
def jw(h:TyZero P T rt z)(w:World):∃v,(zeroValue T).run P w=.ok v w∧∀w ok,rt.val w ok v z:=by obtain⟨i,v,h1,h2,h3⟩:=h;exact⟨v,by simp[zeroValue,typeInfo,h1,h2],h3⟩
def row1(h:rt.val w ok v d):[d].length*rt.n≤v.cells.size∧∀i x,[d][i]?=some x→∃c,rt.rep w ok c x∧∀j u,c[j]?=some u→v.cells[i*rt.n+j]?=some u:=by
 have h1:=rt.val_cells h;have hl:=rt.len h1;refine⟨by simp at hl⊢;omega,fun i x hx=>?_⟩;cases i with
 | zero=>simp at hx;subst hx;exact⟨v.cells.toList,h1,fun j u hj=>JP⟩
 | succ i=>simp at hx
def fR[NM rt](z:α){d:Nat}(hz:TyZero P T rt z)(hd:Nat.blt d cx.n=true)(hf:fb d st.slots=true)(hn:aG st.heap d=none):
 OS P cx ⟨some d,.alloc T,ty,pos,aft,gd⟩ st ⟨(d,.optr d rt.n 0 0)::st.slots,(d,⟨rt,[z]⟩)::st.heap⟩:=by
 rintro a w ⟨β,hi⟩ Q;obtain⟨v,hv,hval⟩:=jw hz w;have hrun:(execOp a.eval ⟨some d,.alloc T,ty,pos,aft,gd⟩).run P w=.ok (.value (.pointer (some ⟨w.heap.size,0,none⟩))) (w.alloc (.cells v.cells T)):=by simp[execOp,Instr.alloc,hv,newVar,newRow]
 unfold Oper.wp;rw[hrun,Oper.upon_value];obtain⟨h1,h2⟩:=row1 (hval w (bY cx st.heap β w));have:=hi.alloc (e:=T) hf hn h1 h2;exact Zm
def F5[NM rt]{x:Operand}{d:Nat}(hx:Rd st x rt z)(hd:Nat.blt d cx.n=true)(hf:fb d st.slots=true)(hn:aG st.heap d=none):
 OS P cx ⟨some d,.box T x,ty,pos,aft,gd⟩ st ⟨(d,.optr d rt.n 0 0)::st.slots,(d,⟨rt,[z]⟩)::st.heap⟩:=by
 rintro a w ⟨β,hi⟩ Q;have hval:=hx.val hi;have hrun:(execOp a.eval ⟨some d,.box T x,ty,pos,aft,gd⟩).run P w=.ok (.value (.pointer (some ⟨w.heap.size,0,none⟩))) (w.alloc (.cells (a.eval x).cells T)):=by simp[execOp,Instr.box,newVar,newRow]
 unfold Oper.wp;rw[hrun,Oper.upon_value];obtain⟨h1,h2⟩:=row1 hval;have:=hi.alloc (e:=T) hf hn h1 h2;exact Zm
def rA:∀(vs:List Value) (j off:Nat) (cs:Array Value),off+j+vs.length≤cs.size→
 ((vs.zipIdx j).foldl (fun(cs:Array Value) (p:Value×Nat)=>cs.setIfInBounds (off+p.2) p.1) cs)=(cs.toList.take (off+j)++vs++cs.toList.drop (off+j+vs.length)).toArray
 | [],j,off,cs,_=>by simp
 | v::r,j,off,cs,h=>by simp only[List.zipIdx_cons,List.foldl_cons];simp only[NK]at h;rw[rA r (j+1) off _ QE];congr 1;have hlt:off+j<cs.toList.length:=QE;simp only[Array.toList_setIfInBounds];rw[List.set_eq_take_append_cons_drop,Cg hlt];have e1:(List.take (off+j) cs.toList).length=off+j:=QE;rw[show off+(j+1)=off+j+1 by omega];rw[List.take_append,fV (l:=List.take (off+j) cs.toList) So,e1,show off+j+1-(off+j)=1 by omega];rw[List.drop_append,KD (l:=List.take (off+j) cs.toList) So,e1,show off+j+1+r.length-(off+j)=r.length+1 by omega];simp only[List.take_succ_cons,List.take_zero,List.drop_succ_cons,Km,Jd,NK];rw[show off+j+1+r.length=off+j+(r.length+1)by omega];simp
def lD(P:Program)(t:TypeId):Option (List (Nat×Nat)):=
 match P.underlying t with
 | some (.struct fields)=>fields.toList.mapM (fun f=>(P.info? f.type).map fun i=>(f.offset,i.size))
 | _=>none
inductive BuildRd{α:Type}(st:St)(rt:RT α)(pl:List (Nat×Nat)):List (Nat×Operand)→α→α→Prop
 | nil {d:α}:BuildRd st rt pl [] d d
 | cons {γ:Type} {rt':RT γ} {get:α→γ} {set:α→γ→α} {i off:Nat} {x:Operand} {d d2:α} {d':γ} {r:List (Nat×Operand)} (hp:pl[i]?=some (off,rt'.n)) (hl:Lens rt off rt' get set) (hx:Rd st x rt' d') (hr:BuildRd st rt pl r (set d d') d2):
  BuildRd st rt pl ((i,x)::r) d d2
def BuildRd.fill{α:Type}{rt:RT α}{pl:List (Nat×Nat)}:∀{ps:List (Nat×Operand)} {d d2:α},BuildRd st rt pl ps d d2→(∀x∈ps.map (·.2),evS st' x=evS st x)→InvB cx st' β a w→∀cells:Array Value,rt.rep w (bY cx st'.heap β w) cells.toList d→
 ∃cells',Instr.fill (pl.toArray[·]?) cells (ps.map fun p=>(p.1,a.eval p.2))=some cells'∧rt.rep w (bY cx st'.heap β w) cells'.toList d2
 | _,_,_,.nil,_,_,cells,h=>⟨cells,rfl,h⟩
 | _,_,_,.cons (rt':=rt') (i:=i) (off:=off) (x:=x) hp hl hx hr,hag,hi,cells,h=>by
  have hv:=(hx.tr (hag x Sp)).val hi;have hc:=rt'.val_cells hv;have hlen:=rt'.len hc;have hlen':(a.eval x).cells.size=rt'.n:=Nn;have hl0:=rt.len h;have hfit:=hl.fits;have hset:=hl.set_ h hc;obtain⟨cells',h1,h2⟩:=hr.fill (fun y hy=>hag y ZQ) hi (cells.toList.take off++(a.eval x).cells.toList++cells.toList.drop (off+rt'.n)).toArray (by simpa using hset);refine⟨cells',?_,h2⟩;simp only[zr,Instr.fill];have hp':pl.toArray[i]?=some (off,rt'.n):=by simpa using hp
  rw[hp'];have hcs:cells.size=rt.n:=by simpa using hl0
  have hn:¬((a.eval x).cells.size≠rt'.n∨off+(a.eval x).cells.size>cells.size):=So;have hnb:(decide ((a.eval x).cells.size≠rt'.n)||decide (off+(a.eval x).cells.size>cells.size))=false:=QE;have hfold:=rA (a.eval x).cells.toList 0 off cells QE;simp only[M6,Lq,hlen']at hfold;rw[←h1];simp only[];rw[zE (by simpa using hn)];congr 1;rw[←hfold];rw[←Array.foldl_toList,Array.toList_zipIdx]
def aC{pl:List (Nat×Nat)}(hz:TyZero P T rt z)(hag:rt.agg=true)(hp:lD P T=some pl)(hb:BuildRd st rt pl ps z d):
 aH P cx st ⟨dst,.build T ps.toArray,ty,pos,aft,gd⟩ (.tv rt d):=
 bz fun st' hag' β a w hi=>by obtain⟨v,hv,hval⟩:=jw hz w;obtain⟨cells,h1,h2⟩:=hb.fill (st':=st') (fun x hx=>hag'.ops x (by simpa[Op.operands]using hx)) hi v.cells (rt.val_cells (hval _ _));refine⟨.agg cells,?_,cells.toList,h2,by simp[hag]⟩;unfold lD at hp;split at hp;rename_i fields hu;have hr:=run_places (P:=P) w fields.toList pl hp;have h1':Instr.fill (fun x=>pl[x]?) v.cells (ps.map fun p=>(p.1,a.eval p.2))=some cells:=LF;simp[execOp,Instr.build,run_underlying hu,hv,Array.mapM_eq_mapM_toList,hr,h1'];cases hp
inductive RowRd{α:Type}(st:St)(rt:RT α):Nat→List (Nat×Operand)→List α→Prop
 | nil {i:Nat}:RowRd st rt i [] []
 | cons {i:Nat} {x:Operand} {d:α} {r:List (Nat×Operand)} {ds:List α} (hx:Rd st x rt d) (hr:RowRd st rt (i+1) r ds):RowRd st rt i ((i,x)::r) (d::ds)
def RowRd.len{α:Type}{rt:RT α}:∀{i:Nat} {ps:List (Nat×Operand)} {ds:List α},RowRd st rt i ps ds→ds.length=ps.length
 | _,_,_,.nil=>rfl
 | _,_,_,.cons _ hr=>by simp[hr.len]
def RowRd.fill{α:Type}{rt:RT α}:∀{i:Nat} {ps:List (Nat×Operand)} {ds:List α},RowRd st rt i ps ds→(∀x∈ps.map (·.2),evS st' x=evS st x)→InvB cx st' β a w→∀cells:Array Value,cells.size=(i+ps.length)*rt.n→
 ∃cells':Array Value,Instr.fill (fun i=>some (i*rt.n,rt.n)) cells (ps.map fun p=>(p.1,a.eval p.2))=some cells'∧cells'.size=(i+ps.length)*rt.n∧(∀j,j<i*rt.n→cells'[j]?=cells[j]?)∧
  ∀k d,ds[k]?=some d→∃cs,rt.rep w (bY cx st'.heap β w) cs d∧∀j u,cs[j]?=some u→cells'[(i+k)*rt.n+j]?=some u
 | _,_,_,.nil,_,_,cells,hs=>⟨cells,rfl,by simpa using hs,fun _ _=>rfl,fun k d h=>ob⟩
 | i,_,_,.cons (x:=x) (d:=d) (r:=r) (ds:=ds) hx hr,hag,hi,cells,hs=>by
  have hv:=(hx.tr (hag x Sp)).val hi;have hc:=rt.val_cells hv;have hlen:=rt.len hc;have hlen':(a.eval x).cells.size=rt.n:=Nn;simp only[NK]at hs;have hle:(i+1)*rt.n≤cells.size:=by rw[hs];exact bn _ So
  have hsucc:(i+1)*rt.n=i*rt.n+rt.n:=Qq _ _;have hfold:=rA (a.eval x).cells.toList 0 (i*rt.n) cells (by simp only[Lq,hlen'];omega);simp only[M6,Lq,hlen']at hfold;obtain⟨cells',h1,h2,h3,h4⟩:=hr.fill (fun y hy=>hag y ZQ) hi (cells.toList.take (i*rt.n)++(a.eval x).cells.toList++cells.toList.drop (i*rt.n+rt.n)).toArray (by simp only[afl,Yl,KC,PS,Lq,hlen'];rw[show i+1+r.length=i+(r.length+1)by omega,←hs];omega)
  refine⟨cells',?_,by rw[h2];simp only[NK];congr 1;omega,fun j hj=>?_,fun k d' hk=>?_⟩;simp only[zr,Instr.fill];have hn:¬((a.eval x).cells.size≠rt.n∨i*rt.n+(a.eval x).cells.size>cells.size):=So;rw[zE (by simpa using hn),←h1];congr 1;rw[←hfold,←Array.foldl_toList,Array.toList_zipIdx];rw[h3 j So];rw[Jq,F3,NH QE,rD hj];simp;cases k with
  | zero=>
   simp at hk;subst hk;refine⟨_,hc,fun j u hj=>?_⟩;have hjl:j<rt.n:=by rw[←hlen];exact(Y0.1 hj).1
   rw[M6,h3 _ So,Jq,F3,l9 QE];simp only[KC,Lq];rw[show i*rt.n+j-min (i*rt.n) cells.size=j by omega,NH (by simpa[hlen']using hjl)];exact hj
  | succ k=>obtain⟨cs,h5,h6⟩:=h4 k d' Og;exact⟨cs,h5,fun j u hj=>by rw[show i+(k+1)=i+1+k by omega];exact h6 j u hj⟩
def yi(ht:P.underlying T=some (.slice e))(he:Ty P e rt)(hz:TyZero P e rt z)(hr:RowRd st rt 0 ps ds)(hag:∀x∈ps.map (·.2),evS st' x=evS st x)(hi:InvB cx st' β a w)
 (hb:ps.length*rt.n≤16777216):∃cells,(Instr.buildSlice T ps.length (ps.toArray.map fun p=>(p.1,a.eval p.2))).run P w=.ok (.slice (some ⟨w.heap.size,0,none⟩) ps.length ps.length) (w.alloc (.cells cells e))∧cells.size=ps.length*rt.n∧
  ∀k d,ds[k]?=some d→∃cs,rt.rep w (bY cx st'.heap β w) cs d∧∀j u,cs[j]?=some u→cells[k*rt.n+j]?=some u:=by obtain⟨_,i0,hi0,hs0⟩:=he;obtain⟨v,hv,hval⟩:=jw hz w;have hb':¬(16777216<ps.length*rt.n):=So;by_cases h0:ps.length*rt.n=0;obtain⟨cells,h1,h2,_,h4⟩:=hr.fill hag hi #[] (by simp only[afl,FV,N1];exact h0.symm);simp only[N1]at h2 h4;refine⟨cells,?_,h2,h4⟩;simp[Instr.buildSlice,run_underlying ht,eM hi0,hs0,hb',h0,h1,newRow,Array.range_zero'];obtain⟨cells,h1,h2,_,h4⟩:=hr.fill hag hi ((Array.range (ps.length*rt.n)).map (v.cells[· % v.cells.size]!)) Sp;simp only[N1]at h2 h4;refine⟨cells,?_,h2,h4⟩;simp[Instr.buildSlice,run_underlying ht,eM hi0,hs0,hb',h0,hv,h1,newRow]
def bP(ht:P.underlying T=some (.slice e))(he:Ty P e rt)(hz:TyZero P e rt z)(hn:ps.length=n)(hr:RowRd st rt 0 ps ds)(h1:Nat.ble 1 rt.n=true)(hb:Nat.ble (n*rt.n) 16777216=true):
 aH P cx st ⟨dst,.buildSlice T n ps.toArray,ty,pos,aft,gd⟩ (.tv (ag rt) ds):=
 wk fun st' hag' β a w hi=>by
 subst hn;have hb':ps.length*rt.n≤16777216:=by simpa using hb
 obtain⟨cells,h2,h3,h4⟩:=yi (P:=P) ht he hz hr (fun x hx=>hag'.ops x (by simpa[Op.operands]using hx)) hi hb';have hl:=hr.len;have hbel:Below w.heap.size w (w.alloc (.cells cells e)):=(Below.refl _ _).alloc (Kl _) _;have h1':1≤rt.n:=LF;have hpl:ps.length≤maxLen:=by exact WZ
 refine⟨.slice (some ⟨w.heap.size,0,none⟩) ps.length ps.length,w.alloc (.cells cells e),by change ((Instr.buildSlice T ps.length (ps.toArray.map fun p=>(p.1,a.eval p.2))) >>= fun v=>pure (Next.value v)).run P w=_;rw[Sem.run_bind,h2];rfl,hbel,[.slice (some ⟨w.heap.size,0,none⟩) ps.length ps.length],⟨some ⟨w.heap.size,0,none⟩,ps.length,by rw[hl],So,hpl,fun hne=>⟨w.heap.size,0,rfl,?_,fun i x hx=>?_⟩⟩,by simp[ag]⟩
 exact Wy;obtain⟨cs,h5,h6⟩:=h4 i x hx;refine⟨cs,rt.keep (fun b hb=>⟨⟨hb.1,by simp;have:=hb.2.1;omega,hb.2.2⟩,hbel.block b hb.2.1⟩) h5,fun j u hj=>?_⟩;rw[World.cell?_alloc_new];simpa using h6 j u hj
end
section
variable{k:Kn}
def jS(hi:InvB cx st β a w){o:Nat}[NM rt](hn:aG st.heap nm=some ⟨rt,xs⟩)(hb:β nm=some (b,o)):gT rt w (bY cx st.heap β w) b o xs:=by have:=hi.rows nm _ hn;rw[hb]at this;exact this.1 NM.no
def aj{f:Nat}{x:Operand}{k:Nat}(hf:aB P t k=some off)(hx:Ev st x (.optr nm sz i f)):
 aH P cx st ⟨dst,.fieldAddr t x k,ty,pos,aft,gd⟩ (.optr nm sz i (f+off)):=
 bz fun st' hag β a w hi=>by obtain⟨b,o,h1,h2⟩:=hi.ev (hag.ev aT hx);exact⟨.pointer (some ⟨b,o+i*sz+f+off,none⟩),abe,b,o,h1,by simp[qx]⟩
def bk[NM rt]{x:Operand}{k:IntKind}{i:Int}(ht:P.underlying t=some (.slice e))(he:Ty P e rt)
 (hx:Ev st x (.own nm rt.n off n)) (hi':Ev st ix (.raw (.int k i))) (hij:i=(j:Int)) (hj:j<n):aH P cx st ⟨dst,.indexAddr t x ix,ty,pos,aft,gd⟩ (.optr nm rt.n (off+j) 0):=
 bz fun st' hag β a w hi=>by
 have h1:=hi.ev (hag.ev aT hx);have h5:=hi.raw (hag.ev aT hi');obtain⟨_,i0,hi0,hs⟩:=he;simp only[SV.holds,Yq]at h1;cases hb:β nm with
 | none=>rw[hb]at h1;simp only at h1;omega
 | some y=>obtain⟨b,o⟩:=y;rw[hb]at h1;obtain⟨A,cap,h2,h3,h4,h6⟩:=h1;rcases h6 with h6|⟨h6,_⟩;omega;subst h6;have hb2:(0:Int)≤i∧i<(n:Int):=So;have hj:i.toNat=j:=So;refine⟨.pointer (some ⟨b,o+off*rt.n+j*rt.n,none⟩),Yu,b,o,hb,?_⟩;simp[Qd,qx]
def nE[NM rt][NM rt']{set:α→γ→α}{o f:Nat}{x:α}(h:gT rt w ok b o xs)(hx:xs[i]?=some x)(hl:Lens rt f rt' get set):
 ∃cs,rt'.rep w ok cs (get x)∧CellsAt w b (o+i*rt.n+f) cs:=by
 obtain⟨cur,e,h1,h2,h3⟩:=h;obtain⟨cs,h4,h5⟩:=h3 i x hx;refine⟨_,hl.get_ h4,?_⟩;have:CellsAt w b (o+i*rt.n) cs:=fun j v hj=>by have:=h5 j v hj;simp[World.cell?,h1,this]
 exact this.part f rt'.n
def ah[NM rt][NM rt']{set:α→γ→α}{f:Nat}{y:α}{x:Operand}(ht:Ty P t rt')(hx:Ev st x (.optr nm rt.n i f))(hn:aG st.heap nm=some ⟨rt,xs⟩)(hy:xs[i]?=some y)(hl:Lens rt f rt' get set):
 aH P cx st ⟨dst,.load t x,ty,pos,aft,gd⟩ (SV.of rt' (get y)):=
 bz fun st' hag β a w hi=>by obtain⟨b,o,h1,h2⟩:=hi.ev (hag.ev aT hx);obtain⟨cs,h3,h4⟩:=nE (jS hi ((hag.look aT hx Pa).trans hn) h1) hy hl;obtain⟨v,h5,h6⟩:=gA (P:=P) ht h3 h4;exact⟨v,by simp[execOp,Instr.loadAt,h2,Instr.sureAddr,h5],jz h6⟩
def bH[NM rt][NM rt']{set:α→γ→α}{f:Nat}{y:α}{d:γ}{x v:Operand}(ht:Ty P t rt')(hx:Ev st x (.optr nm rt.n i f))(hn:aG st.heap nm=some ⟨rt,xs⟩)(hy:xs[i]?=some y)(hl:Lens rt f rt' get set)(hv:Rd st v rt' d):
 OS P cx ⟨none,.store t x v,ty,pos,aft,gd⟩ st ⟨st.slots,(nm,⟨rt,xs.set i (set y d)⟩)::st.heap⟩:=by
 rintro a w ⟨β,hi⟩ Q;obtain⟨b,o,h1,h2⟩:=hi.ev hx;obtain⟨cur,e,h3,h4,h5⟩:=jS hi hn h1;have hval:=hv.val hi;have hc:=rt'.val_cells hval;have hlen:=rt'.len hc;have hone:=rt'.one hc;obtain⟨_,i0,hi0,hs⟩:=ht;obtain⟨cs,h6,h7⟩:=h5 i y hy;have hcl:=rt.len h6;have hfit:=hl.fits;have hil:i<xs.length:=(Y0.1 hy).1;have hle:o+i*rt.n+rt.n≤cur.size:=by have:(i+1)*rt.n≤xs.length*rt.n:=bn _ hil;rw[Qq]at this;omega
 have hsz:(a.eval v).cells.size=rt'.n:=Nn;have hst:=run_storeCells_at P b (o+i*rt.n+f) e (a.eval v).cells.toList 0 cur w h3 (by rw[hlen];omega) hone;simp only[M6,hlen]at hst;have hrun:(execOp a.eval ⟨none,.store t x v,ty,pos,aft,gd⟩).run P w=.ok .skip (w.setRow b (cur.toList.take (o+i*rt.n+f)++(a.eval v).cells.toList++cur.toList.drop (o+i*rt.n+f+rt'.n)).toArray):=by simp only[execOp,Instr.storeAt,h2,Instr.sureAddr,Sem.run_bind,Sem.run_pure,Result.andThen_ok,storeVar,eM hi0,hs];rw[zE (by simp[hsz])];rw[hst];rfl
 unfold Oper.wp;rw[hrun,Oper.upon_skip];have hcurl:cur.toList.length=cur.size:=Sp;refine⟨_,InvB.setRow hi hn h1 h3 (by simp[hlen];omega) (.inl rfl) (by simp[hlen];omega) (fun j z hz=>?_)⟩;have hget:∀q,(cur.toList.take (o+i*rt.n+f)++(a.eval v).cells.toList++cur.toList.drop (o+i*rt.n+f+rt'.n)).toArray[q]?=if q<o+i*rt.n+f then cur[q]? else if q<o+i*rt.n+f+rt'.n then(a.eval v).cells.toList[q-(o+i*rt.n+f)]? else cur[q]?:=by intro q;rw[Jq];have e1:(cur.toList.take (o+i*rt.n+f)).length=o+i*rt.n+f:=QE;by_cases q1:q<o+i*rt.n+f;exact WD;rw[zE q1];by_cases q2:q<o+i*rt.n+f+rt'.n;exact Wv;rw[zE q2,l9 (by rw[Yl,e1,hlen];omega),Yl,e1,hlen,KE];rw[show o+i*rt.n+f+rt'.n+(q-(o+i*rt.n+f+rt'.n))=q by omega];simp
 by_cases hji:j=i;subst hji;rw[pw hil]at hz;injection hz with hz;subst hz;refine⟨_,hl.set_ h6 hc,fun q u hq=>?_⟩;rw[hget];have hql:q<rt.n:=by have:=(Y0.1 hq).1;simp only[Yl,KC,PS,hlen,hcl]at this;omega
 rw[F3]at hq;by_cases q1:q<f;rw[Cg So];rw[NH QE,rD q1]at hq;exact h7 q u hq;rw[zE So];rw[l9 QE]at hq;simp only[KC,hcl,show min f rt.n=f by omega]at hq;by_cases q2:q<f+rt'.n;rw[Cg So];rw[NH So]at hq;rw[show o+j*rt.n+q-(o+j*rt.n+f)=q-f by omega];exact hq;rw[zE So];rw[l9 So,hlen,KE]at hq;rw[show f+rt'.n+(q-f-rt'.n)=q by omega]at hq;exact h7 q u hq;rw[Ot (Ne.symm hji)]at hz;obtain⟨cs',h8,h9⟩:=h5 j z hz;have hcl':=rt.len h8;refine⟨cs',h8,fun q u hq=>?_⟩;have hql:q<rt.n:=by rw[←hcl'];exact(Y0.1 hq).1
 rw[hget];rcases Qa j i with h|h;have:(j+1)*rt.n≤i*rt.n:=bn _ h;rw[Qq]at this;rw[Cg So];exact h9 q u hq;have:(i+1)*rt.n≤j*rt.n:=bn _ So;rw[Qq]at this;rw[zE So,zE So];exact h9 q u hq
def fM[NM rt]{x:Operand}{kx ky:IntKind}{d:Nat}(ht:P.underlying T=some (.slice e))(he:Ty P e rt)(hz:TyZero P e rt z)(hn1:Nat.ble 1 rt.n=true){by_:Nat}(hby:(P.info? e).map (·.bytes)=some by_)
 (hx:Ev st x (.raw (.int kx (n:Int)))) (hy:Ev st y (.raw (.int ky (n:Int)))) (hb:by_*n≤281474976710656) (h63:n≤maxLen) (hd:Nat.blt d cx.n=true) (hf:fb d st.slots=true) (hn:aG st.heap d=none):
 OS P cx ⟨some d,.makeSlice T x y,ty,pos,aft,gd⟩ st ⟨(d,.own d rt.n 0 n)::st.slots,(d,⟨rt,List.replicate n z⟩)::st.heap⟩:=by
 rintro a w ⟨β,hi⟩ Q;have h1:=hi.raw hx;have h2:=hi.raw hy;obtain⟨_,i0,hi0,hs⟩:=he;obtain⟨i1,v,hi1,hv,hval⟩:=hz;have e0:i1=i0:=aac;subst e0;have hby':i1.bytes=by_:=by simpa[hi0]using hby
 have h63':(n:Int)≤9223372036854775807:=by have:=h63;simp only[maxLen]at this;omega
 have hr:=run_make (P:=P) w T e i1 v ht hi0 hv kx ky n n So (Int.le_refl _) (by rw[hby',←Int.natCast_mul];omega) h63';simp only[K4,hs]at hr;have hrun:(execOp a.eval ⟨some d,.makeSlice T x y,ty,pos,aft,gd⟩).run P w=.ok (.value (.slice (some ⟨w.heap.size,0,none⟩) n n)) (w.alloc (.cells (madeCells v.cells (n*rt.n)) e)):=by simp[execOp,h1,h2,hr]
 unfold Oper.wp;rw[hrun,Oper.upon_value];have hn1':1≤rt.n:=by simpa using hn1
 have hrep:=rt.val_cells (hval w (bY cx st.heap β w));have hrl:=rt.len hrep;have hcs:v.cells.size=rt.n:=by simpa using hrl
 have:=hi.alloc (nm:=d) (rt:=rt) (xs:=List.replicate n z) (cs:=madeCells v.cells (n*rt.n)) (e:=e) hf hn (by simp[size_madeCells]) (fun i x hix=>by
  have hin:i<n:=by have:=(Y0.1 hix).1;simpa using this
  have:x=z:=by rw[Oq]at hix;simp[hin]at hix;exact hix.symm
  subst this;refine⟨_,hrep,fun j u hj=>?_⟩;have hjl:j<rt.n:=by rw[←hrl];exact(Y0.1 hj).1
  have hlt:i*rt.n+j<n*rt.n:=by have:(i+1)*rt.n≤n*rt.n:=bn _ hin;rw[Qq]at this;omega
  have hmod:(i*rt.n+j)%v.cells.size=j:=by rw[hcs,O6,Nat.mul_add_mod,Nat.mod_eq_of_lt hjl]
  have hj':v.cells[j]?=some u:=JP;have hjs:j<v.cells.size:=by rw[hcs];exact hjl
  simp only[madeCells,Array.getElem?_map,Array.getElem?_range,Cg hlt,Lf,hmod];rw[getElem!_pos v.cells j hjs];rw[PB hjs]at hj';exact hj')
 refine⟨_,this.put PX ?_⟩;simp only[SV.holds,Yq,Cg];exact⟨_,n,rfl,Kl _,h63,.inr ⟨Sp,_,_,_,heap_alloc_new w _,by simp[size_madeCells]⟩⟩
def z183(rt:RT α)[NM rt](hs:bg st.slots i=some (.raw (.slice none 0 0)))(hf:fb nm st.slots=true)(hn:aG st.heap nm=none)(hi:Inv cx st a w):
 Inv cx ⟨(i,.own nm rt.n 0 0)::st.slots,(nm,⟨rt,[]⟩)::st.heap⟩ a w:=by
 obtain⟨β,hb⟩:=hi;have hok:∀b,bY cx st.heap β w b→bY cx ((nm,⟨rt,[]⟩)::st.heap) (fun k=>if k=nm then none else β k) w b∧w.heap[b]?=w.heap[b]?:=by rintro b ⟨h1,h2,h3⟩;refine⟨⟨h1,h2,fun k hb' hk x hx=>?_⟩,rfl⟩;rw[bA]at hk;by_cases e1:k=nm;subst e1;simp at hx;rw[zE (Ne.symm e1)]at hk;simp only[zE e1]at hx;exact h3 k hb' hk x hx
 refine⟨fun k=>if k=nm then none else β k,hb.below,hb.old,hb.defers,hb.size,fun k h hk x hx=>?_,fun k k' h h' hk hk' x y hx hy hxy=>?_,fun k h hk=>?_,fun j s hj=>?_⟩;by_cases e1:k=nm;subst e1;simp at hx;rw[bA,zE (Ne.symm e1)]at hk;simp only[zE e1]at hx;exact hb.own k h hk x hx;by_cases e1:k=nm;subst e1;simp at hx;by_cases e2:k'=nm;subst e2;simp at hy;rw[bA,zE (Ne.symm e1)]at hk;rw[bA,zE (Ne.symm e2)]at hk';simp only[zE e1]at hx;simp only[zE e2]at hy;exact hb.sep k k' h h' hk hk' x y hx hy hxy;rw[bA]at hk;by_cases e1:k=nm;subst e1;rw[Cg rfl]at hk;injection hk with hk;subst hk;simp only[Cg];rfl;rw[zE (Ne.symm e1)]at hk;simp only[zE e1];exact HB.keep hok (fun _ _=>rfl) (hb.rows k h hk);simp only[bC]at hj;split at hj;rename_i e1;subst e1;injection hj with hj;subst hj;obtain⟨v,h1,h2⟩:=hb.slots i _ hs;exact⟨v,h1,by simp only[SV.holds,Yq,Cg];exact⟨h2,trivial⟩⟩;obtain⟨v,h1,h2⟩:=hb.slots j s hj;have hfree:=gQ hf hj;refine⟨v,h1,SV.keep hok (fun k hk=>⟨?_,fun b o _ cur e fr hc=>⟨cur,e,fr,hc,rfl⟩⟩) h2⟩;have hne:k≠nm:=aaK;simp[hne]
def jF(nm i:Nat)(rt:RT α)[NM rt](hs:bg st.slots i=some (.raw (.slice none 0 0)))(hf:fb nm st.slots=true)(hn:aG st.heap nm=none)
 (h:J P cx ⟨(i,.own nm rt.n 0 0)::st.slots,(nm,⟨rt,[]⟩)::st.heap⟩ c k):J P cx st c k:=fun a w hi=>h a w (z183 rt hs hf hn hi)
def fK(hi:InvB cx st β a w)[NM rt](hn:aG st.heap nm=some ⟨rt,xs⟩)(hv:Yq β w nm rt.n off n v)(hle:off+n≤xs.length)(hok:∀b,bY cx st.heap β w b→ok b)(hbl:∀b o,β nm=some (b,o)→ok b):
 (ag rt).val w ok v ((xs.drop off).take n):=by
 have hlen:((xs.drop off).take n).length=n:=QE;unfold Yq at hv;cases hb:β nm with
 | none=>rw[hb]at hv;obtain⟨rfl,rfl⟩:=hv;simp only[List.take_zero];exact r6
 | some x=>
  obtain⟨b,o⟩:=x;rw[hb]at hv;obtain⟨A,cap,rfl,h2,h3,h4⟩:=hv;refine⟨[.slice A n cap],⟨A,cap,by rw[hlen],So,h3,fun hne=>?_⟩,by simp[ag]⟩;rcases h4 with h4|⟨h4,_⟩;exfalso;apply hne;apply List.eq_nil_of_length_eq_zero;omega;obtain⟨cur,e,h5,h6,h7⟩:=jS hi hn hb;refine⟨b,o+off*rt.n,h4,hbl b o hb,fun i x hix=>?_⟩;have hin:i<n:=by rw[←hlen];exact(Y0.1 hix).1
  rw[rD hin,KE]at hix;obtain⟨cs,h8,h9⟩:=h7 _ x hix;refine⟨cs,rt.keep (fun b hb=>⟨hok b hb,rfl⟩) h8,fun j u hj=>?_⟩;have:=h9 j u hj;rw[show o+off*rt.n+i*rt.n+j=o+(off+i)*rt.n+j by rw[Qd];omega];simp[World.cell?,h5,this]
def ES[NM rt](hs:bg st.slots i=some (.own nm rt.n off n))(hn:aG st.heap nm=some ⟨rt,xs⟩)(hle:off+n≤xs.length)(hsub:∀j s,aG hp j=some s→aG st.heap j=some s)(hno:aG hp nm=none)(hi:Inv cx st a w):
 Inv cx ⟨(i,.tv (ag rt) ((xs.drop off).take n))::st.slots,hp⟩ a w:=by
 obtain⟨β,hb⟩:=hi;have hok:∀b,bY cx st.heap β w b→bY cx hp β w b:=fun b ⟨h1,h2,h3⟩=>⟨h1,h2,fun k h hk=>h3 k h (hsub _ _ hk)⟩;have hb':InvB cx ⟨st.slots,hp⟩ β a w:=by refine⟨hb.below,hb.old,hb.defers,hb.size,fun nm x hx=>hb.own nm x (hsub _ _ hx),fun nm nm' x y hx hy=>hb.sep nm nm' x y (hsub _ _ hx) (hsub _ _ hy),fun nm x hx=>HB.keep (fun b h=>⟨hok b h,rfl⟩) (fun _ _=>rfl) (hb.rows nm x (hsub _ _ hx)),fun i s hs=>?_⟩;obtain⟨v,h1,h2⟩:=hb.slots i s hs;exact⟨v,h1,SV.keep (fun b h=>⟨hok b h,rfl⟩) (fun nm _=>⟨rfl,fun b o _ cur e fr hc=>⟨cur,e,fr,hc,rfl⟩⟩) h2⟩
 obtain⟨v,h1,h2⟩:=hb.slots i _ hs;refine⟨β,hb'.below,hb'.old,hb'.defers,hb'.size,hb'.own,hb'.sep,hb'.rows,fun j s hj=>?_⟩;simp only[bC]at hj;split at hj;rename_i e1;subst e1;injection hj with hj;subst hj;refine⟨v,h1,fK hb hn h2 hle hok (fun b o hbo=>?_)⟩;exact VF;exact hb'.slots j s hj
def nZ(nm i:Nat)[NM rt](hp:List (Nat×HB))(hs:bg st.slots i=some (.own nm rt.n off n))(hn:aG st.heap nm=some ⟨rt,xs⟩)(hle:off+n≤xs.length)(hsub:∀j s,aG hp j=some s→aG st.heap j=some s)(hno:aG hp nm=none)
 (h:J P cx ⟨(i,.tv (ag rt) ((xs.drop off).take n))::st.slots,hp⟩ c k):J P cx st c k:=fun a w hi=>h a w (ES hs hn hle hsub hno hi)
def e8(nm i:Nat)[NM rt](hp:List (Nat×HB))(hs:bg st.slots i=some (.own nm rt.n off n))(hn:aG st.heap nm=some ⟨rt,xs⟩)(hle:off+n≤xs.length)(hsub:∀j s,aG hp j=some s→aG st.heap j=some s)(hno:aG hp nm=none)
 (h:JR P cx ⟨(i,.tv (ag rt) ((xs.drop off).take n))::st.slots,hp⟩ k):JR P cx st k:=fun a w hi=>h a w (ES hs hn hle hsub hno hi)
def iS[NM rt]{x:Operand}{lo hi:Option Operand}{l h:Nat}(ht:P.underlying t=some (.slice e))(he:Ty P e rt)(hx:Ev st x (.tv (ag rt) xs))
 (hlo:match lo with|none=>l=0|some y=>∃(k:IntKind) (i:Int),Ev st y (.raw (.int k i))∧i=(l:Int)) (hhi:match hi with|none=>h=xs.length|some y=>∃(k:IntKind) (i:Int),Ev st y (.raw (.int k i))∧i=(h:Int))
 (hlh:l≤h) (hle:h≤xs.length):aH P cx st ⟨dst,.slice t x lo hi none,ty,pos,aft,gd⟩ (.tv (ag rt) ((xs.take h).drop l)):=
 bz fun st' hag β a w hiv=>by
 obtain⟨A,cap,h1,h2,h3,h4⟩:=qQ (hiv.ev (hag.ev aT hx));obtain⟨_,i0,hi0,hs⟩:=he;have hl:((xs.take h).drop l).length=h-l:=QE;have hhc:(h:Int)≤(cap:Int):=So;refine⟨.slice (if cap=l then A else A.map (·.add (l*rt.n))) (h-l) (cap-l),?_,[_],⟨_,cap-l,by rw[hl],So,So,fun hne=>?_⟩,by simp[ag];rfl⟩;have hlo':∀m,(match lo.map a.eval with|some v=>Instr.sliceBound v m (if(none:Option Value).isSome then .slice3C else .sliceB)|none=>pure 0:Sem Nat).run P w=.ok l w∨¬l≤m:=by intro m;by_cases hm:l≤m;left;exact UY;exact .inr hm
 have hbounds:(Instr.sliceBounds true xs.length cap (lo.map a.eval) (hi.map a.eval) none).run P w=.ok (l,h,cap) w:=by
  cases hi with
  | none=>simp at hhi;rcases hlo' xs.length with hl'|hl';exact Wo;omega
  | some y=>
   obtain⟨k,i,hy,hih⟩:=hhi;have h5:=hiv.raw (hag.ev (by cases lo<;>simp[Op.operands]) hy);have hb:0≤i∧i≤(cap:Int):=So;have hn:i.toNat=h:=So;have hh':(Instr.sliceBound (a.eval y) cap .sliceAcap).run P w=.ok h w:=by simp[h5,Instr.sliceBound,asIntOf,hb,hn]
   rcases hlo' h with hl'|hl';exact Wn;omega
 simp[execOp,Instr.sliceAt,run_underlying ht,h1,Instr.slice,hbounds,eM hi0,hs];have hx0:xs≠[]:=by rintro rfl;simp at hne
 obtain⟨b,o,rfl,hb,hc⟩:=h4 hx0;have hlt:l<h:=by rcases Qa l h with h'|h';exact h';exfalso;apply hne;apply List.eq_nil_of_length_eq_zero;omega
 refine⟨b,o+l*rt.n,by rw[zE So];simp[Addr.add_lit],hb,fun i x hix=>?_⟩;rw[KE]at hix;have hih:l+i<h:=by have:=(Y0.1 hix).1;simp at this;omega
 rw[rD hih]at hix;obtain⟨cs,h5,h6⟩:=hc (l+i) x hix;exact⟨cs,h5,by rw[show o+l*rt.n+i*rt.n=o+(l+i)*rt.n by rw[Qd];omega];exact h6⟩
end
end Go.Eng
