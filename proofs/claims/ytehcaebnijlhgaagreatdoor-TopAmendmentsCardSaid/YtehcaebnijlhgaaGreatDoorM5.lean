import Derived.Test.YtehcaebnijlhgaaGreatDoorM4
set_option linter.all false
set_option maxRecDepth 100000
set_option maxHeartbeats 9000000
namespace Go.Eng
variable{A:Option Addr}{H0 h:List (Nat×HB)}{ι α γ:Type}{H1:ι→List (Nat×HB)}{I:ι→Prop}{P:Program}{Q:List α→Prop}{R ks:List Nat}{T e t ty:TypeId}{a:Act}{aft:Array Edge}{b c0 cap i j m n nb nm off pb po q sz:Nat}{c:Code}{cur cur':Array Value}{cx:Cx}{d:List (List UInt8×α)}{dst:Option Tmp}{es:List (Value×α)}{f kf:FuncId}{fn:Func}{gd:Option (Nat×Bool)}{get:α→γ}{hv u v:Value}{ix x x1 y:Operand}{k:Kn}{key:List UInt8}{ki kk:IntKind}{kvs:List (List UInt8×Value)}{l rest:List Oper}{listed:Array Bool}{name pos:String}{o:Oper}{ok ok0:Ok}{ops:Array Oper}{rt:RT α}{rt':RT γ}{st st':St}{ts:Array TypeId}{v0:ResultVar}{w w' w0 w1:World}{xo:List Operand}{xs ys:List α}{β:Loc}
section
variable[NM rt]
def Ke(nb nm sz pb po:Nat)(A:Option Addr)(n cap:Nat)(u:Value)(s:SV):Prop:=
 ∀(β:Loc) (w:World) (ok:Ok) (v:Value),s.holds β w ok v↔(β nb=some (pb,po)∧Yq β w nm sz 0 n (.slice A n cap)∧v=u)
abbrev qD(nb nm sz pb po:Nat)(A:Option Addr)(n cap:Nat):SV:=.lnk (.both (.optr nb 1 0 0) (dE pb po)) (.slice A n cap) (.own nm sz 0 n)
abbrev nB(T:TypeId)(nb nm sz pb po:Nat)(A:Option Addr)(n cap:Nat):SV:=.lnk (.lnk (.raw (.iface T (dE pb po))) (dE pb po) (.optr nb 1 0 0)) (.slice A n cap) (.own nm sz 0 n)
abbrev Li(nb nm sz pb po:Nat)(A:Option Addr)(n cap:Nat):SV:=.lnk (.both (.own nm sz 0 n) (.slice A n cap)) (dE pb po) (.optr nb 1 0 0)
def ph:(SV.optr nb 1 0 0).holds β w ok (dE pb po)↔β nb=some (pb,po):=by
 constructor;rintro⟨b,o,e1,e2⟩;have e2:(dE pb po:Value)=.pointer (some ⟨b,o+0*1+0,none⟩):=e2;have e2:some (⟨pb,po,none⟩:Addr)=some ⟨b,o+0*1+0,none⟩:=by injection e2
 have e5:pb=b∧po=o:=by injection e2 with e2;injection e2 with q1 q2;simp at q2;exact⟨q1,q2⟩
 obtain⟨rfl,rfl⟩:=e5;exact e1;intro h;exact⟨pb,po,h,by simp[dE]⟩
def oF:Ke nb nm sz pb po A n cap (dE pb po) (qD nb nm sz pb po A n cap):=fun β w ok v=>by constructor;rintro⟨⟨h1,h2⟩,h3⟩;subst h2;exact⟨ph.1 h1,h3,rfl⟩;rintro⟨h1,h2,rfl⟩;exact⟨⟨ph.2 h1,rfl⟩,h2⟩
def dW:Ke nb nm sz pb po A n cap (.iface T (dE pb po)) (nB T nb nm sz pb po A n cap):=fun β w ok v=>by constructor;rintro⟨⟨h1,h2⟩,h3⟩;exact⟨ph.1 h2,h3,h1⟩;rintro⟨h1,h2,rfl⟩;exact⟨⟨rfl,ph.2 h1⟩,h2⟩
def ER:Ke nb nm sz pb po A n cap (.slice A n cap) (Li nb nm sz pb po A n cap):=fun β w ok v=>by constructor;rintro⟨⟨h1,h2⟩,h3⟩;subst h2;exact⟨ph.1 h3,h1,rfl⟩;rintro⟨h1,h2,rfl⟩;exact⟨⟨h2,rfl⟩,ph.2 h1⟩
structure CtI(P:Program)(kf:FuncId)(rt:RT α)(u:Nat→Nat→Option Addr→Nat→Nat→Value)(xs:List α)(Q:List α→Prop)(ss:List SV)(r:SV):Prop where
 ent:∀w args,(callFunc kf args).run P w=.ok (.enter kf args) w
 calls:∀(w:World) (ok0:Ok) (pb po:Nat) (A:Option Addr) (cap:Nat) (bo:Option (Nat×Nat)) (vs:List Value),OkP w ok0→¬ok0 pb→pb<w.heap.size→
  (∀x,bo=some x→¬ok0 x.1∧x.1≠pb∧x.1<w.heap.size)→IY rt w ok0 pb po A xs.length cap bo xs→gh w ok0 ss vs→
  Calls P kf ((u pb po A xs.length cap::vs).toArray) w (Q8 ⟨w,ok0,0,fun q=>q=pb∨∃x,bo=some x∧x.1=q⟩ pb po rt Q r)
abbrev uPtr(pb po:Nat)(_:Option Addr)(_ _:Nat):Value:=dE pb po
abbrev O4(T:TypeId)(pb po:Nat)(_:Option Addr)(_ _:Nat):Value:=.iface T (dE pb po)
abbrev uHead(_ _:Nat)(A:Option Addr)(n cap:Nat):Value:=.slice A n cap
omit [NM rt] in
def lP{ss:List SV}{r:SV}{u:Nat→Nat→Option Addr→Nat→Nat→Value}(sv:Nat→Nat→Option Addr→Nat→Nat→SV)(hsv:∀pb po A n cap,Ke 100 101 rt.n pb po A n cap (u pb po A n cap) (sv pb po A n cap))(hf:P.funcs[kf]?=some fn)(hb:fn.body=some c)(hn:(fn.name == "runtime.NumGoroutine")=false)(hm:fn.ntmps=m)(hlen:Nat.ble (ss.length+1) m=true)
 (hp:(ss.all SV.plain)=true)
 (h:∀(w0:World) (ok0:Ok) (pb po:Nat) (A:Option Addr) (cap:Nat) (ex:Nat→Prop),J P ⟨w0,ok0,m,ex⟩ ⟨(0,sv pb po A xs.length cap)::nC 1 ss,[(100,⟨rHd,[(A,xs.length,cap)]⟩),(101,⟨rt,xs⟩)]⟩ c
  (.fin fn (Q8 ⟨w0,ok0,m,ex⟩ pb po rt Q r))):CtI P kf rt u xs Q ss r:=by
 refine⟨cJ hf hb hn,fun w ok0 pb po A cap bo vs hok hnp hps hbo hbx hh=>?_⟩;have hl:=fO hh;have hlen':ss.length+1≤m:=Nn;refine calls_of_wp hf hb ?_;have:=h w ok0 pb po A cap (fun q=>q=pb∨∃x,bo=some x∧x.1=q) {tmps:=(u pb po A xs.length cap::vs).toArray++Array.replicate (fn.ntmps-(u pb po A xs.length cap::vs).toArray.size) undef,defers:=[]} w ⟨fun q=>if q=100 then some (pb,po)else if q=101 then bo else none,?_⟩;exact Xl;have hlk:∀nm hb,aG [(100,HB.mk rHd [(A,xs.length,cap)]),(101,HB.mk rt xs)] nm=some hb→(nm=100∧hb=⟨rHd,[(A,xs.length,cap)]⟩)∨(nm=101∧hb=⟨rt,xs⟩):=fun nm hb hh=>by rw[bA]at hh;split at hh;exact W7;rw[bA]at hh;split at hh;rename_i e;injection hh with hh;exact .inr ⟨e.symm,hh.symm⟩;simp[aG]at hh
 have hkk:∀b',ok0 b'→bY ⟨w,ok0,m,fun q=>q=pb∨∃x,bo=some x∧x.1=q⟩ [(100,HB.mk rHd [(A,xs.length,cap)]),(101,HB.mk rt xs)] (fun q=>if q=100 then some (pb,po)else if q=101 then bo else none) w b'∧w.heap[b']?=w.heap[b']?:=fun b' hb'=>
  ⟨⟨.inl hb',hok b' hb',fun nm hb hh x hx=>by
   rcases hlk nm hb hh with⟨rfl,rfl⟩|⟨rfl,rfl⟩
   ·simp at hx;subst hx;intro e;exact hnp (by rw[show pb=b' from e];exact hb')
   simp at hx;intro e;exact(hbo x hx).1 (by rw[e];exact hb')⟩,rfl⟩
 obtain⟨hb1,hb2,hb3⟩:=hbx;refine⟨(Below.refl _ _).toX,hok.x fun q e=>by rcases e with rfl|⟨x,hx,rfl⟩;exact hnp;exact(hbo x hx).1,rfl,abG,fun nm hb hh x hx=>?_,fun nm nm' hb hb' hh hh' x y hx hy hxy=>?_,fun nm hb hh=>?_,fun i s hs=>?_⟩;rcases hlk nm hb hh with⟨rfl,rfl⟩|⟨rfl,rfl⟩;simp at hx;subst hx;exact⟨.inr (.inl rfl),hps⟩;simp at hx;exact⟨.inr (.inr ⟨x,hx,rfl⟩),(hbo x hx).2.2⟩;rcases hlk nm hb hh with⟨rfl,rfl⟩|⟨rfl,rfl⟩<;>rcases hlk nm' hb' hh' with⟨rfl,rfl⟩|⟨rfl,rfl⟩;rfl;simp at hx hy;subst hx;exact absurd hxy.symm (hbo y hy).2.1;simp at hx hy;subst hy;exact absurd hxy (hbo x hx).2.1;rfl;rcases hlk nm hb hh with⟨rfl,rfl⟩|⟨rfl,rfl⟩;simp only[Cg];exact HB.keep (hb:=⟨rHd,[(A,xs.length,cap)]⟩) (l:=some (pb,po)) hkk (fun _ _=>rfl) ⟨fun _=>hb1,fun hm=>by cases hm⟩;simp only[show(101:Nat)≠100 by decide,zE,Cg,not_false_iff];exact HB.keep hkk (fun _ _=>rfl) hb2;rw[bC]at hs;split at hs;rename_i e;subst e;injection hs with hs;subst hs;refine⟨u pb po A xs.length cap,aao,(hsv _ _ _ _ _ _ _ _ _).2 ⟨Sp,?_,rfl⟩⟩;exact WV;exact Uz
omit [NM rt] in
def zT{s0:Nat}(hi:InvB cx st β a w){sv:SV}(hm:bg st.slots s0=some sv)(his:Ke 100 101 rt.n pb po A n cap u sv)(h0:aG st.heap 100=some ⟨rHd,[(A,n,cap)]⟩)(hn:aG st.heap 101=some ⟨rt,xs⟩)(hl:n=xs.length)(hQ:Q xs):
 (∃ys A n cap bo,Q ys∧n=ys.length∧(∀x,bo=some x→cx.new x.1∧x.1<w.heap.size∧x.1≠pb)∧IY rt w (fun q=>Nd cx w q∧q≠pb∧qH bo q) pb po A n cap bo ys∧∀q,bY cx st.heap β w q→Nd cx w q∧q≠pb∧qH bo q):=by obtain⟨v,_,e0⟩:=hi.slots s0 _ hm;obtain⟨e1,e4,_⟩:=(his _ _ _ _).1 e0;have hk:∀q,bY cx st.heap β w q→Nd cx w q∧q≠pb∧qH (β 101) q:=fun q hq=>⟨uy hq,fun e=>hq.2.2 100 _ h0 _ e1 e.symm,fun x hx=>hq.2.2 101 _ hn x hx⟩;have hkk:∀q,bY cx st.heap β w q→(Nd cx w q∧q≠pb∧qH (β 101) q)∧w.heap[q]?=w.heap[q]?:=fun q hq=>⟨hk q hq,rfl⟩;refine⟨xs,A,n,cap,β 101,hQ,hl,fun x hx=>?_,⟨?_,?_,?_⟩,hk⟩;have:=hi.own 101 _ hn x hx;exact⟨this.1,this.2,fun e=>absurd (hi.sep 101 100 _ _ hn h0 x (pb,po) hx e1 e) cy⟩;have hr:=hi.rows 100 _ h0;rw[e1]at hr;obtain⟨cur,e,g1,g2,g3⟩:=hr.1 rfl;refine⟨cur,e,g1,g2,fun i x hx=>?_⟩;obtain⟨cs,g4,g5⟩:=g3 i x hx;exact⟨cs,rHd.keep hkk g4,g5⟩;exact HB.keep hkk (fun _ _=>rfl) (hi.rows 101 _ hn);exact lj (β:=β) ⟨rfl,fun b o hb cur e fr hc=>⟨cur,e,fr,hc,rfl⟩⟩ e4
omit [NM rt] in
def uJ{s0:Nat}(hr:fn.results = #[]){sv:SV}(hm:bg st.slots s0=some sv)(his:Ke 100 101 rt.n pb po A n cap u sv)(h0:aG st.heap 100=some ⟨rHd,[(A,n,cap)]⟩)(hn:aG st.heap 101=some ⟨rt,xs⟩)(hl:n=xs.length)(hQ:Q xs):
 JN P cx st (.fin fn (Q8 cx pb po rt Q (.raw (.tuple #[])))):=by rintro a w ⟨β,hi⟩;obtain⟨ys,A',n',cap',bo,g1,g2,g3,g4,_⟩:=zT hi hm his h0 hn hl hQ;refine⟨hi.defers,.tuple #[],?_,_,rfl,hi.below,ys,A',n',cap',bo,g1,g2,g3,g4,rfl⟩;simp[gJ,hr]
omit [NM rt] in
def ru{s r:SV}{s0:Nat}(hr:fn.results = #[v0])(hs0:xA P cx st v0 s)(hp:s.plain=true)(e:s=r){sv:SV}(hm:bg st.slots s0=some sv)(his:Ke 100 101 rt.n pb po A n cap u sv)(h0:aG st.heap 100=some ⟨rHd,[(A,n,cap)]⟩)(hn:aG st.heap 101=some ⟨rt,xs⟩)(hl:n=xs.length)(hQ:Q xs):
 JR P cx st (.fin fn (Q8 cx pb po rt Q r)):=by rintro a w ⟨β,hi⟩;subst e;obtain⟨v,h1,h2⟩:=hs0 β a w hi;obtain⟨ys,A',n',cap',bo,g1,g2,g3,g4,g5⟩:=zT hi hm his h0 hn hl hQ;refine⟨hi.defers,v,?_,v,rfl,hi.below,ys,A',n',cap',bo,g1,g2,g3,g4,SV.plain_keep hp (fun q hq=>⟨g5 q hq,rfl⟩) h2⟩;simp[gJ,hr,h1]
omit [NM rt] in
def InvB.turnI(hi:InvB cx st β a w){n' cap':Nat}{A':Option Addr}{bo:Option (Nat×Nat)}{s s':SV}{r:List (Nat×SV)}(hne:nb≠nm)
 (hR:(R.all fun k=>!Nat.beq k nm&&!Nat.beq k nb&&(aG st.heap k).isSome)=true) (hnb:aG st.heap nb=some ⟨rHd,[(A,n,cap)]⟩) (hn:aG st.heap nm=some ⟨rt,xs⟩)
 (hc0:bg st.slots c0=some s) (hs:Ke nb nm rt.n pb po A n cap u s) (hs':Ke nb nm rt.n pb po A' n' cap' u s') (hk:KeepP R st.slots ks r)
 (hg:BelowX (fun q=>q=pb∨∃x,β nm=some x∧x.1=q) w.heap.size w w')
 (hbo:∀x,bo=some x→((w.heap.size≤x.1)∨(x.1=pb∨∃y,β nm=some y∧y.1=x.1))∧x.1<w'.heap.size∧x.1≠pb)
 (hbx:IY rt w' (fun q=>Nd (Cx.mk w (bY cx st.heap β w) 0 (fun q=>q=pb∨∃x,β nm=some x∧x.1=q)) w' q∧q≠pb∧qH bo q) pb po A' n' cap' bo ys):
 InvB cx ⟨(c0,s')::r,(nb,⟨rHd,[(A',n',cap')]⟩)::(nm,⟨rt,ys⟩)::st.heap⟩ (fun q=>if q=nm then bo else β q) a w':=by
 have hpb:β nb=some (pb,po):=by obtain⟨v,_,h2⟩:=hi.slots _ _ hc0;exact((hs _ _ _ _).1 h2).1
 have hownb:=hi.own nb _ hnb _ hpb;have hothers:∀k hb',aG st.heap k=some hb'→k≠nm→k≠nb→∀x,β k=some x→x.1≠pb∧(∀y,β nm=some y→x.1≠y.1)∧∀y,bo=some y→x.1≠y.1:=fun k hb' hk h1 h2 x hx=>by have q1:x.1≠pb:=fun e=>h2 (hi.sep k nb _ _ hk hnb x (pb,po) hx hpb e);have q2:∀y,β nm=some y→x.1≠y.1:=fun y hy e=>h1 (hi.sep k nm _ _ hk hn x y hx hy e);refine⟨q1,q2,fun y hy e=>?_⟩;rcases(hbo y hy).1 with z|z|⟨u,z1,z2⟩;have:=(hi.own k _ hk x hx).2;omega;exact q1 (e.trans z);exact q2 u z1 (e.trans z2.symm)
 have hbl:∀k,k<w.heap.size→k≠pb→(∀y,β nm=some y→k≠y.1)→w'.heap[k]?=w.heap[k]?:=fun k hk h1 h2=>hg.blockX k hk (by rintro(q|⟨x,q1,q2⟩);exact h1 q;exact h2 x q1 q2.symm)
 have hh0:∀k h,aG ((nb,HB.mk rHd [(A',n',cap')])::(nm,HB.mk rt ys)::st.heap) k=some h→(k=nb∧h=⟨rHd,[(A',n',cap')]⟩)∨(k=nm∧h=⟨rt,ys⟩)∨(k≠nb∧k≠nm∧aG st.heap k=some h):=fun k h hh=>by rw[bA]at hh;split at hh;exact W7;rename_i e1;rw[bA]at hh;split at hh;rename_i e;injection hh with hh;exact .inr (.inl ⟨e.symm,hh.symm⟩);rename_i e2;exact .inr (.inr ⟨fun e=>e1 e.symm,fun e=>e2 e.symm,hh⟩)
 have hβo:∀k,k≠nm→(fun q=>if q=nm then bo else β q:Loc) k=β k:=fun k h=>Ph;have hβn:(fun q=>if q=nm then bo else β q:Loc) nm=bo:=Sp;generalize hβ':(fun q=>if q=nm then bo else β q:Loc)=β' at *
 have hpb':β' nb=some (pb,po):=(hβo nb hne).trans hpb;have hok:∀b',bY cx st.heap β w b'→bY cx ((nb,⟨rHd,[(A',n',cap')]⟩)::(nm,⟨rt,ys⟩)::st.heap) β' w' b'∧w'.heap[b']?=w.heap[b']?:=by rintro b' ⟨h1,h2,h3⟩;have z1:b'≠pb:=fun e=>h3 nb _ hnb _ hpb e.symm;have z2:∀y,β nm=some y→b'≠y.1:=fun y hy e=>h3 nm _ hn y hy e.symm;refine⟨⟨h1,F2 h2 hg.size,fun k hb' hk x hx=>?_⟩,hbl b' h2 z1 z2⟩;rcases hh0 k hb' hk with⟨rfl,_⟩|⟨rfl,_⟩|⟨q1,q2,hk⟩;rw[hpb']at hx;injection hx with hx;subst hx;exact fun e=>z1 e.symm;rw[hβn]at hx;intro e;rcases(hbo x hx).1 with z|z|⟨u,y1,y2⟩;omega;exact z1 (e.symm.trans z);exact z2 u y1 (e.symm.trans y2.symm);rw[hβo k q2]at hx;exact h3 k hb' hk x hx
 have hok2:∀q,(Nd (Cx.mk w (bY cx st.heap β w) 0 (fun q=>q=pb∨∃x,β nm=some x∧x.1=q)) w' q∧q≠pb∧qH bo q)→bY cx ((nb,⟨rHd,[(A',n',cap')]⟩)::(nm,⟨rt,ys⟩)::st.heap) β' w' q∧w'.heap[q]?=w'.heap[q]?:=fun q hq=>by
  refine⟨?_,rfl⟩;have hnk:cx.ok0 q∨cx.new q:=by exact VC
  refine⟨hnk,hq.1.2,fun k hb' hk x hx e1=>?_⟩;rcases hh0 k hb' hk with⟨rfl,_⟩|⟨rfl,_⟩|⟨q1,q2,hk⟩;rw[hpb']at hx;injection hx with hx;subst hx;exact hq.2.1 e1.symm;rw[hβn]at hx;exact hq.2.2 x hx e1;rw[hβo k q2]at hx;rcases hq.1.1 with z|z|z;exact z.2.2 k _ hk x hx e1;have:=(hi.own k _ hk x hx).2;have z:w.heap.size≤q:=z;omega;rcases z with z|⟨u,z1,z2⟩;exact hq.2.1 z;exact(hothers k _ hk q2 q1 x hx).2.1 u z1 (e1.trans z2.symm)
 obtain⟨bx1,bx2,bx3⟩:=hbx;refine⟨⟨hg.os.trans hi.below.os,hg.tape.trans hi.below.tape,hg.output.trans hi.below.output,wb hi.below.size hg.size,fun k hk hx=>?_,wb hi.below.drawn hg.drawn⟩,hi.old,hi.defers,hi.size,fun k hb' hk x hx=>?_,fun k k' h1 h2 hk hk' x y hx hy hxy=>?_,fun k hb' hk=>?_,fun i t hs2=>?_⟩;refine(hbl k (F2 hk hi.below.size) ?_ ?_).trans (hi.below.blockX k hk hx);rintro rfl;rcases hownb.1 with q|q;simp only at q;omega;exact hx q;rintro y hy rfl;rcases(hi.own nm _ hn y hy).1 with q|q;omega;exact hx q;rcases hh0 k hb' hk with⟨rfl,_⟩|⟨rfl,_⟩|⟨q1,q2,hk⟩;rw[hpb']at hx;injection hx with hx;subst hx;exact⟨hownb.1,F2 hownb.2 hg.size⟩;rw[hβn]at hx;refine⟨?_,(hbo x hx).2.1⟩;rcases(hbo x hx).1 with z|z|⟨u,y1,y2⟩;exact .inl (wb hi.below.size z);exact absurd z (hbo x hx).2.2;exact y2▸(hi.own _ _ hn u y1).1;exact WK;rcases hh0 k _ hk with⟨rfl,_⟩|⟨rfl,_⟩|⟨q1,q2,hk3⟩<;>rcases hh0 k' _ hk' with⟨rfl,_⟩|⟨rfl,_⟩|⟨q3,q4,hk4⟩;rfl;rw[hpb']at hx;injection hx with hx;subst hx;rw[hβn]at hy;exact absurd hxy.symm (hbo y hy).2.2;rw[hpb']at hx;injection hx with hx;subst hx;rw[hβo k' q4]at hy;exact absurd hxy.symm (hothers k' _ hk4 q4 q3 y hy).1;rw[hpb']at hy;injection hy with hy;subst hy;rw[hβn]at hx;exact absurd hxy (hbo x hx).2.2;rfl;rw[hβn]at hx;rw[hβo k' q4]at hy;exact absurd hxy.symm ((hothers k' _ hk4 q4 q3 y hy).2.2 x hx);rw[hpb']at hy;injection hy with hy;subst hy;rw[hβo k q2]at hx;exact absurd hxy (hothers k _ hk3 q2 q1 x hx).1;rw[hβn]at hy;rw[hβo k q2]at hx;exact absurd hxy ((hothers k _ hk3 q2 q1 x hx).2.2 y hy);exact W3;rcases hh0 k _ hk with⟨rfl,rfl⟩|⟨rfl,rfl⟩|⟨q1,q2,hk⟩;rw[hpb'];exact HB.keep (hb:=⟨rHd,[(A',n',cap')]⟩) (l:=some (pb,po)) hok2 (fun _ _=>rfl) ⟨fun _=>bx1,fun hm=>by cases hm⟩;rw[hβn];exact HB.keep hok2 (fun _ _=>rfl) bx2;rw[hβo k q2];exact HB.keep hok (fun x hx=>hbl _ (hi.own k _ hk x hx).2 (hothers k _ hk q2 q1 x hx).1 (hothers k _ hk q2 q1 x hx).2.1) (hi.rows k _ hk);rw[bC]at hs2;split at hs2;rename_i e;subst e;injection hs2 with hs2;subst hs2;obtain⟨v,h1,h2⟩:=hi.slots _ _ hc0;refine⟨v,h1,(hs' _ _ _ _).2 ⟨hpb',?_,((hs _ _ _ _).1 h2).2.2⟩⟩;exact lj (β:=fun _=>bo) ⟨hβn,fun b o hb cur e fr hc=>⟨cur,e,fr,hc,rfl⟩⟩ bx3;obtain⟨hs0,hw⟩:=hk.look i t hs2;obtain⟨v,h1,h2⟩:=hi.slots i t hs0;refine⟨v,h1,SV.keep hok (fun k hkf=>?_) h2⟩;have hmem:=SV.within_mem hw hkf;have:=Qe.1 hR k hmem;simp only[YC,afo]at this;have z1:k≠nm:=fun e=>abm;have z2:k≠nb:=fun e=>abm;cases hlk:aG st.heap k with
 | none=>rw[hlk]at this;simp at this
 | some hb2=>refine⟨hβo k z1,fun b1 o1 hbo1 cur e fr hc=>⟨cur,e,fr,?_,rfl⟩⟩;have hz:=hothers k _ hlk z1 z2 (b1,o1) hbo1;rw[hbl b1 (InvB.cell_lt hc) hz.1 hz.2.1];exact hc
omit [NM rt] in
def jE{d:Nat}{ss:List SV}{rr:SV}(sF:Option Addr→Nat→Nat→SV){u0:Value}{u:Nat→Nat→Option Addr→Nat→Nat→Value}(R ks:List Nat){r:List (Nat×SV)}(h:CtI P kf rt u xs Q ss rr)
 (hg:o.guard=none) (hd0:o.dst=some d) (hc0:bg st.slots c0=some (sF A n cap)) (his:∀A n cap,Ke nb nm rt.n pb po A n cap u0 (sF A n cap))
 (hrun:∀(β:Loc) (a:Act) (w:World),InvB cx st β a w→(execOp a.eval o).run P w=.ok (.enter kf ((u pb po A n cap::xo.map a.eval).toArray)) w)
 (hnb:aG st.heap nb=some ⟨rHd,[(A,n,cap)]⟩) (hn:aG st.heap nm=some ⟨rt,xs⟩) (hne:Nat.beq nb nm=false) (hfull:n=xs.length) (ha:Args st xo ss) (hp:(ss.all SV.plain)=true) (hr:rr.plain=true) (hd:Nat.blt d cx.n=true)
 (hR:(R.all fun k=>!Nat.beq k nm&&!Nat.beq k nb&&(aG st.heap k).isSome)=true) (hk:KeepP R st.slots ks r)
 (hnext:∀ys A' cap',Q ys→JG P cx ops ⟨(d,rr)::(c0,sF A' ys.length cap')::r,(nb,⟨rHd,[(A',ys.length,cap')]⟩)::(nm,⟨rt,ys⟩)::st.heap⟩ rest k):
 JG P cx ops st (o::rest) k:=by
 rintro a w ⟨β,hi⟩;have hne:nb≠nm:=fun e=>abq;refine wpList_plain hg fun K hK=>?_;unfold Oper.wp;rw[hrun β a w hi,Oper.upon_enter,hd0]at *
 obtain⟨v0,_,e0⟩:=hi.slots c0 _ hc0;obtain⟨hβ,hhd,_⟩:=(his _ _ _ _ _ _ _).1 e0;have hargs:=ha.holds (fun _ _=>rfl) hi hp;have hpb:=hi.own nb _ hnb _ hβ;have hnok:¬bY cx st.heap β w pb:=fun q=>q.2.2 nb _ hnb _ hβ rfl;have hrow:gT rHd w (bY cx st.heap β w) pb po [(A,n,cap)]:=by have:=hi.rows nb _ hnb;rw[hβ]at this;exact this.1 rfl
 subst hfull;refine(h.calls w (bY cx st.heap β w) pb po A cap (β nm) _ hi.okP hnok hpb.2 (fun y hy=>⟨fun q=>q.2.2 nm _ hn y hy rfl,fun e=>hne (hi.sep nb nm _ _ hnb hn (pb,po) y hβ hy e.symm),(hi.own nm _ hn y hy).2⟩)
  ⟨hrow,hi.rows nm _ hn,(show Yq (fun _=>β nm) w 101 rt.n 0 xs.length (.slice A xs.length cap)from hhd)⟩ hargs).mono ?_
 rintro e0 w' ⟨v,rfl,hb,ys,A',n',cap',bo,q0,rfl,q2,q3,q4⟩;have hi':=hi.turnI hne hR hnb hn hc0 (his _ _ _) (his A' ys.length cap') hk hb (fun y hy=>⟨(q2 y hy).1,(q2 y hy).2.1,(q2 y hy).2.2⟩) q3;refine hK _ _ (hnext ys A' cap' q0 _ _ ⟨_,hi'.put PX (SV.plain_keep hr (fun q hq=>⟨?_,rfl⟩) q4)⟩);have hnk:cx.ok0 q∨cx.new q:=by exact VC
 refine⟨hnk,hq.1.2,fun k' hb' hk' y hy e1=>?_⟩;rw[bA]at hk';split at hk';rename_i e;subst e;simp only[zE hne]at hy;rw[hβ]at hy;injection hy with hy;subst hy;exact hq.2.1 e1.symm;rename_i z1;rw[bA]at hk';split at hk';rename_i e;subst e;simp only[Cg]at hy;exact hq.2.2 y hy e1;rename_i z2;simp only[zE (Ne.symm z2)]at hy;rcases hq.1.1 with z|z|z;exact z.2.2 k' _ hk' y hy e1;have:=(hi.own k' _ hk' y hy).2;have z:w.heap.size≤q:=z;omega;rcases z with z|⟨u,y1,y2⟩;exact hq.2.1 z;exact z2 (hi.sep nm k' _ _ hn hk' u y y1 hy (y2.trans e1.symm))
def MT(P:Program)(T:TypeId)(name:String)(f:FuncId)(pr:Bool):Prop:=
 ((P.info? T).bind fun ti=>(ti.methods.find? (·.name==name)).bind fun m=>if m.path.isEmpty then m.func else none)=some (f,pr)
def mtO(h:MT P T name f true)(hu:P.underlying T=some (.pointer e))(n:Nat)(v:Value):(method (n+1) T v name).run P w=.ok (f,v) w:=by
 unfold MT at h;cases hi:P.info? T with
 | none=>rw[hi]at h;cases h
 | some ti=>
  rw[hi]at h;simp only[Option.bind_some]at h;cases hm:ti.methods.find? (·.name==name)with
  | none=>rw[hm]at h;cases h
  | some m=>
   rw[hm]at h;simp only[Option.bind_some]at h;split at h;rename_i hp;have hp:m.path = #[]:=by simpa using hp
   simp[method,typeInfo,hi,hm,hp,follow,h,receiverAt,run_underlying hu,Place.get];cases h
def cxF(ts:Array TypeId)(t:TypeId)(ad:Addr)(s1 s2:ByteArray):Builtin.ssaWrapNilChk_ ts t #[.pointer (some ad),.string s1,.string s2]=pure (.pointer (some ad)):=rfl
def evI(h:MT P T name f false)(hu:P.underlying T=some (.pointer e))(n:Nat)(hl:(loadVar e ⟨pb,po,none⟩).run P w=.ok hv w):(method (n+1) T (dE pb po) name).run P w=.ok (f,hv) w:=by
 unfold MT at h;cases hi:P.info? T with
 | none=>rw[hi]at h;cases h
 | some ti=>
  rw[hi]at h;simp only[Option.bind_some]at h;cases hm:ti.methods.find? (·.name==name)with
  | none=>rw[hm]at h;cases h
  | some m=>
   rw[hm]at h;simp only[Option.bind_some]at h;split at h;rename_i hp;have hp:m.path = #[]:=by simpa using hp
   simp[method,typeInfo,hi,hm,hp,follow,h,receiverAt,run_underlying hu,Place.get,dE,cxF,strVal,asAddr,hl];cases h
def z8(P:Program):P.types.size+Made.depth=(P.types.size+99)+1:=rfl
def abU(hent:∀w args,(callFunc kf args).run P w=.ok (.enter kf args) w)(hmt:MT P T name kf true)(hu:P.underlying T=some (.pointer e))(hx:a.eval x=.iface T (dE pb po)):
 (execOp a.eval ⟨dst,.call {callee:=.invoke x name,args:=xo.toArray,argTypes:=ts},ty,pos,aft,gd⟩).run P w=.ok (.enter kf ((dE pb po::xo.map a.eval).toArray)) w:=by simp[execOp,resolve,invoke,callMethod,hx,z8,mtO hmt hu,hent];exact fV Sp
def Ih(hent:∀w args,(callFunc kf args).run P w=.ok (.enter kf args) w)(hmt:MT P T name kf false)(hu:P.underlying T=some (.pointer e))(hx:a.eval x=.iface T (dE pb po))(hl:(loadVar e ⟨pb,po,none⟩).run P w=.ok hv w):
 (execOp a.eval ⟨dst,.call {callee:=.invoke x name,args:=xo.toArray,argTypes:=ts},ty,pos,aft,gd⟩).run P w=.ok (.enter kf ((hv::xo.map a.eval).toArray)) w:=by simp[execOp,resolve,invoke,callMethod,hx,z8,evI hmt hu _ hl,hent];exact fV Sp
def xx(hent:∀w args,(callFunc kf args).run P w=.ok (.enter kf args) w)(hx:a.eval x=v):
 (execOp a.eval ⟨dst,.call {callee:=.value (.func kf),args:=(x::xo).toArray,argTypes:=ts},ty,pos,aft,gd⟩).run P w=.ok (.enter kf ((v::xo.map a.eval).toArray)) w:=by subst hx;simp[execOp,resolve,Act.eval,Deferred.ofValue,invoke,hent]
def q9(hu:P.underlying T=some (.pointer e))(hx:Ev st x (.raw v)):aH P cx st ⟨dst,.makeInterface T x,ty,pos,aft,gd⟩ (.raw (.iface T v)):=
 bz fun st' hag β a w hi=>by exact Wm
def ra(hu:P.underlying T=some (.int ki))(hx:Ev st x (.raw v)):aH P cx st ⟨dst,.makeInterface T x,ty,pos,aft,gd⟩ (.raw (.iface T v)):=
 bz fun st' hag β a w hi=>by exact Wm
def yy{xT:TypeId}(hu:P.underlying T=some (.int ki))(hx:Ev st x (.raw (.iface T v))):aH P cx st ⟨dst,.typeAssert x xT T true,ty,pos,aft,gd⟩ (.tup2 (.raw v) (.raw (.bool true))):=
 bz fun st' hag β a w hi=>by have h1:=hi.raw (hag.ev aT hx);exact⟨.tuple #[v,.bool true],by simp[execOp,Instr.typeAssert,run_underlying hu,h1],_,_,rfl,rfl,rfl⟩
def Et(hi:InvB cx st β a w)(hβ:β nb=some (pb,po))(hnb:aG st.heap nb=some ⟨rHd,[(A,n,cap)]⟩)(he:Ty P e rHd):(loadVar e ⟨pb,po,none⟩).run P w=.ok (.slice A n cap) w:=by obtain⟨cs,h3,h4⟩:=nE (jS hi hnb hβ) (i:=0) (x:=(A,n,cap)) rfl (Lens.id rHd);obtain⟨v,h5,h6⟩:=gA (P:=P) he h3 h4;have:v=.slice A n cap:=rHd.val_raw rfl h6;subst this;simpa using h5
def lF{ss:List SV}{r s:SV}(h:Ct P kf (.tv (ag rt) xs::ss) r)(hmt:MT P T name kf false)(hu:P.underlying T=some (.pointer e))(he:Ty P e rHd)
 (hx:Ev st x s) (his:Ke nb nm rt.n pb po A n cap (.iface T (dE pb po)) s) (hsf:s.free nb=false) (hsf':s.free nm=false) (hnb:aG st.heap nb=some ⟨rHd,[(A,n,cap)]⟩) (hn:aG st.heap nm=some ⟨rt,xs⟩) (hfull:n=xs.length) (ha:ArgsB st xo ss) (hr:r.Flat):
 aH P cx st ⟨dst,.call {callee:=.invoke x name,args:=xo.toArray,argTypes:=ts},ty,pos,aft,gd⟩ r:=by intro st' hag d hd hdn a w ⟨β,hi⟩ Q;have hxm:x∈(Op.call {callee:=.invoke x name,args:=xo.toArray,argTypes:=ts}).operands:=ug;have hnb':=(hag.look hxm hx hsf).trans hnb;have hn':=(hag.look hxm hx hsf').trans hn;obtain⟨hβ,hhd,hval⟩:=(his _ _ _ _).1 (hi.ev (hag.ev hxm hx));have hargs:=ha.holds (cx:=cx) (β:=β) (a:=a) (w:=w) (st':=st') (fun x hx=>hag.ops x Fw) (fun x hx s nm he hf=>hag.look Fw he hf) hi;have hsl:=fK (rt:=rt) hi hn' hhd So (ok:=fun b=>b<w.heap.size) (fun _ hb=>hb.2.1) (fun b o hb=>hi.own_lt hn' hb);rw[Pv,fV So]at hsl;unfold Oper.wp;rw[Ih h.ent hmt hu hval (Et hi hβ hnb' he),Oper.upon_enter];refine(h.calls w (fun b=>b<w.heap.size) _ hi.okB ⟨_,_,rfl,hsl,hargs⟩).mono ?_;rintro e w' ⟨v,rfl,hb,hv⟩;have hb:=hb.plain (fun _ h=>h);subst hd;exact⟨β,(hi.later hb).put hdn (hr hv)⟩
def ac0{s:SV}(hc:bg st.slots c0=some s)(his:Ke nb nm sz pb po A n cap u s)(hj:bg st.slots j=some (.raw (.slice A n cap)))(hi:Inv cx st a w):Inv cx ⟨(j,.own nm sz 0 n)::st.slots,st.heap⟩ a w:=by obtain⟨β,hb⟩:=hi;obtain⟨v,_,h2⟩:=hb.slots c0 _ hc;obtain⟨_,hhd,_⟩:=(his _ _ _ _).1 h2;exact⟨β,hb.turnS hj fun v' hv=>by have hv:v'=.slice A n cap:=hv;subst hv;exact hhd⟩
def Y13(c0 j:Nat){s:SV}(hc:bg st.slots c0=some s)(his:Ke nb nm sz pb po A n cap u s)(hj:bg st.slots j=some (.raw (.slice A n cap)))(h:JG P cx ops ⟨(j,.own nm sz 0 n)::st.slots,st.heap⟩ l k):JG P cx ops st l k:=fun a w hi=>h a w (ac0 hc his hj hi)
def abJ(c0 c1:Nat){s s1 t:SV}(hc:bg st.slots c0=some (.lnk s u t))(h1:bg st.slots c1=some s1)(hne:Nat.beq c1 c0=false)(h:JG P cx ops ⟨(c0,s)::(c1,.lnk s1 u t)::st.slots,st.heap⟩ l k):JG P cx ops st l k:=fun a w ⟨β,hb⟩=>by
 obtain⟨_,_,_,ht⟩:=hb.slots c0 _ hc;have h2:=hb.turnS (s':=.lnk s1 u t) h1 fun v hv=>⟨hv,ht⟩;have hc':bg ((c1,SV.lnk s1 u t)::st.slots) c0=some (.lnk s u t):=by rw[show bg ((c1,SV.lnk s1 u t)::st.slots) c0=bif Nat.beq c1 c0 then some (.lnk s1 u t)else bg st.slots c0 from rfl,hne];exact hc
 exact h a w ⟨β,h2.turnS (s':=s) hc' fun v hv=>hv.1⟩
def aco(j nb:Nat)(hj:bg st.slots j=some (.optr nb 1 0 0))(h:∀pb po,JG P cx ops ⟨(j,.both (.optr nb 1 0 0) (dE pb po))::st.slots,st.heap⟩ l k):JG P cx ops st l k:=fun a w ⟨β,hb⟩=>by obtain⟨v,_,b,o,e1,e2⟩:=hb.slots j _ hj;refine h b o a w ⟨β,hb.turnS hj fun v' hv=>⟨hv,?_⟩⟩;obtain⟨b',o',g1,g2⟩:=hv;rw[e1]at g1;injection g1 with g1;injection g1 with g1 g1';subst g1;subst g1';simpa using g2
omit [NM rt] in
def CN(hi:InvB cx st β a w){s:SV}(hx:Ev st x s)(his:Ke nb nm sz pb po A n cap u s):β nb=some (pb,po)∧a.eval x=u:=by obtain⟨h1,_,h2⟩:=(his _ _ _ _).1 (hi.ev hx);exact⟨h1,h2⟩
def uM(hi:InvB cx st β a w){s:SV}(hent:∀w args,(callFunc kf args).run P w=.ok (.enter kf args) w)(hmt:MT P T name kf false)(hu:P.underlying T=some (.pointer e))(he:Ty P e rHd)
 (hx:Ev st x s) (his:Ke nb nm sz pb po A n cap (.iface T (dE pb po)) s) (hnb:aG st.heap nb=some ⟨rHd,[(A,n,cap)]⟩):
 (execOp a.eval ⟨dst,.call {callee:=.invoke x name,args:=xo.toArray,argTypes:=ts},ty,pos,aft,gd⟩).run P w=.ok (.enter kf ((.slice A n cap::xo.map a.eval).toArray)) w:=
 Ih hent hmt hu (CN hi hx his).2 (Et hi (CN hi hx his).1 hnb he)
def EV(hi:InvB cx st β a w){s:SV}(hent:∀w args,(callFunc kf args).run P w=.ok (.enter kf args) w)(hmt:MT P T name kf true)(hu:P.underlying T=some (.pointer e))
 (hx:Ev st x s) (his:Ke nb nm sz pb po A n cap (.iface T (dE pb po)) s):
 (execOp a.eval ⟨dst,.call {callee:=.invoke x name,args:=xo.toArray,argTypes:=ts},ty,pos,aft,gd⟩).run P w=.ok (.enter kf ((dE pb po::xo.map a.eval).toArray)) w:=
 abU hent hmt hu (CN hi hx his).2
def EW(hi:InvB cx st β a w){s:SV}(hent:∀w args,(callFunc kf args).run P w=.ok (.enter kf args) w)
 (hx:Ev st x s) (his:Ke nb nm sz pb po A n cap u s):
 (execOp a.eval ⟨dst,.call {callee:=.value (.func kf),args:=(x::xo).toArray,argTypes:=ts},ty,pos,aft,gd⟩).run P w=.ok (.enter kf ((u::xo.map a.eval).toArray)) w:=
 xx hent (CN hi hx his).2
def YlZ(m:Nat)(hn:aG st.heap nm=some ⟨rt,xs⟩)(hi:Inv cx st a w):Inv cx ⟨st.slots,(nm,⟨rt,xs.take m⟩)::st.heap⟩ a w:=by
 obtain⟨β,hb⟩:=hi;refine⟨β,hb.re (fun k=>k) β (fun k h hk=>.inr ⟨rfl,?_⟩) (fun _ _ _ _ _ _ _ _ e=>e) (fun q t hq=>hb.slots q t hq)⟩;rw[bA]at hk;split at hk;rename_i e;subst e;injection hk with hk;subst hk;refine⟨_,hn,fun l hl=>?_⟩;cases l with
 | none=>have hl:xs=[]:=hl;subst hl;simp[HB.holds]
 | some bo=>obtain⟨b',o'⟩:=bo;refine⟨fun hm'=>?_,fun hm'=>aad⟩;obtain⟨cur,e',q1,q2,q3⟩:=hl.1 hm';refine⟨cur,e',q1,?_,fun i' x' hi'=>q3 i' x' ?_⟩;have:(xs.take m).length*rt.n≤xs.length*rt.n:=bn _ QE;simp only at q2⊢;omega;simp only at hi';rw[PC]at hi';split at hi';exact hi';cases hi'
 exact⟨h,hk,fun _ x=>x⟩
def vaD(nm m:Nat)(hn:aG st.heap nm=some ⟨rt,xs⟩)(h:JG P cx ops ⟨st.slots,(nm,⟨rt,xs.take m⟩)::st.heap⟩ l k):JG P cx ops st l k:=fun a w hi=>h a w (YlZ m hn hi)
def FY:RT Unit where
 n:=1
 agg:=false
 raw _:=none
 rep _ _ cs _:=∃b,cs=[.bool b]
 len h:=by obtain⟨b,rfl⟩:=h;rfl
 one h:=by obtain⟨b,rfl⟩:=h;simp[Value.oneCell']
 keep _ h:=h
 scal _:=rfl
 exact_ h1 h2:=by cases h1
 exact' h:=LD
omit [NM rt] in
def yY(i:Nat){b:Bool}(hs:bg st.slots i=some (.raw (.bool b)))(h:JR P cx ⟨(i,.tv FY ())::st.slots,st.heap⟩ k):JR P cx st k:=fun a w ⟨β,hb⟩=>
 h a w ⟨β,hb.turnS hs fun v hv=>(by have hv:v=.bool b:=hv;subst hv;exact⟨[.bool b],⟨b,rfl⟩,by simp[FY]⟩)⟩
end
section
structure LstT(ops:Array Oper)(q m:Nat)(listed:Array Bool):Prop where
 size:listed.size=ops.size
 mid:∀i,q≤i→i≤m→listed.getD i false=true
 high:∀i,m<i→i<ops.size→listed.getD i false=false
 closed:∀j oj,ops[j]?=some oj→listed.getD j false=true→∀e∈oj.after,Region.binds .any e=true→listed.getD e.on false=true
def wO:∀(x y:List Bool),x.length=y.length→(∀i:Nat,x[i]?=some true→y[i]?=some true)→y.countP (fun b=>!b)≤x.countP (fun b=>!b)
 | [],[],_,_=>Kl _
 | [],_::_,h,_=>by simp at h
 | _::_,[],h,_=>by simp at h
 | b::x,c::y,h,hh=>by have h1:=wO x y PW (fun i hi=>by simpa using hh (i+1) Dq);have h2:=hh 0;cases b<;>cases c<;>simp at h2⊢<;>omega
def K3(hs:listed.size=n)(h:∀i,i<n→listed.getD i false=true→i≤m):n-(m+1)≤Nf listed:=by
 rw[←BY n (m+1)];unfold Nf;refine wO _ _ (by simp[Yw,hs]) fun i hi=>?_;have hin:i<n:=by have:=(Y0.1 hi).1;simpa[hs]using this
 have h1:listed.getD i false=true:=by have hi':listed[i]?=some true:=Dq;simp[hi']
 have:=h i hin h1;simp[Yw,hin];omega
def LstT.zero(h:LstT ops q m listed)(hm:m<ops.size)(hz:Nf listed=ops.size-(m+1)):listed=Yw ops.size (m+1):=by
 refine oX h.size fun i hi'=>?_;by_cases e:i≤m;rw[show decide (i<m+1)=true by simp;omega];cases hl:listed.getD i false with
 | true=>rfl
 | false=>
  exfalso;have h1:=pJ abj hl;have h2:=K3 (listed:=listed.setIfInBounds i true) (n:=ops.size) (m:=m) (by simp[h.size]) (fun j hj hjl=>by by_cases e2:i=j;omega;rw[getD_set_ne false e2]at hjl;rcases Qa m j with g|g;rw[h.high j g hj]at hjl;cases hjl;exact g)
  omega
 rw[h.high i So hi'];simp;omega
def LstT.more(h:LstT ops q m listed)(hm:m<ops.size)(hz:ops.size-(m+1)<Nf listed):∃i,i<ops.size∧listed.getD i false=false∧i<q:=by
 rcases Classical.em (∃i,i<ops.size∧listed.getD i false=false∧i<q)with h'|h';exact h';exfalso;have:listed=Yw ops.size (m+1):=oX h.size fun i his=>by
  by_cases e:i≤m;rw[show decide (i<m+1)=true by simp;omega];cases hl':listed.getD i false with
  | true=>rfl
  | false=>exfalso;rcases Qa i q with g|g;exact h' ⟨i,his,hl',g⟩;rw[h.mid i g e]at hl';cases hl'
  rw[h.high i So his];simp;omega
 rw[this,BY]at hz;omega
def LstT.early(h:LstT ops q m listed)(hm:m<ops.size)
 (hlate:∀i oi,ops[i]?=some oi→m<i→(∃e∈oi.after,Region.binds .any e=true∧m<e.on)∨∀j,j<q→∃e∈oi.after,Region.binds .any e=true∧e.on=j)
 (hz:ops.size-(m+1)<Nf listed) (i:Nat) (hr:i∈Region.ready .any ops listed):i<q:=by
 obtain⟨hun,oi,hoi,hdeps⟩:=mem_ready.1 hr;have his:i<listed.size:=by rw[h.size];exact(Gm.1 hoi).1
 rw[fP his]at hun;rcases Qa i q with g|g;exact g;exfalso;rcases Qa m i with g2|g2;rcases hlate i oi hoi g2 with⟨e,he,hb,hon⟩|hall;have h1:=hdeps e he hb;rcases Qa e.on ops.size with g3|g3;rw[h.high e.on hon g3]at h1;cases h1;rw[Array.getD_eq_getD_getElem?,Array.getElem?_eq_none (by rw[h.size];exact g3)]at h1;simp at h1;obtain⟨j,hj1,hj2,hj3⟩:=h.more hm hz;obtain⟨e,he,hb,hon⟩:=hall j hj3;have:=hdeps e he hb;rw[hon,hj2]at this;cases this;rw[h.mid i g g2]at hun;cases hun
def LstT.set(h:LstT ops q m listed)(dk:wq ops)(hr:i∈Region.ready .any ops listed)(hhi:i<q)(hqm:q≤m):LstT ops q m (listed.setIfInBounds i true):=by obtain⟨hun,oi,hoi,hall⟩:=mem_ready.1 hr;refine⟨by simp[h.size],fun j hj hj2=>?_,fun t ht hts=>by rw[getD_set_ne false So];exact h.high t ht hts,fun j oj hj hl e he hb=>?_⟩;rw[getD_set_ne false So];exact h.mid j hj hj2;exact Vp
def tbE(dk:wq ops){Q:Exit→Act→World→Prop}{lo hi g:Nat}(hlo:lo=0)(hgg:g=ops.size-(m+1)){cs:List (Nat×SV)}(hqm:hi≤m)(hhi:m<ops.size)(hl:l.length=hi-lo)(hat:∀i,i<l.length→l[i]?=ops[lo+i]?)
 (hlate:∀i oi,ops[i]?=some oi→m<i→(∃e∈oi.after,Region.binds .any e=true∧m<e.on)∨∀j,j<hi→∃e∈oi.after,Region.binds .any e=true∧e.on=j)
 (has:AS P cx ops st l cs)
 (hK:∀a w,Inv cx (iy st cs (fun _=>true)) a w→wpAny P .any ops Q g (Yw ops.size (m+1)) a w):
 ∀(f:Nat) (listed:Array Bool),LstT ops hi m listed→Nf listed=f+(ops.size-(m+1))→∀a w,Inv cx (iy st cs (fun i=>listed.getD (lo+i) false)) a w→wpAny P .any ops Q (f+g) listed a w:=by
 obtain⟨hcl,hga⟩:=has.at_
 have hidx:∀j c,cs[j]?=some c→∃oj,ops[lo+j]?=some oj∧oj.dst=some c.1∧j<l.length:=by
  exact UP
 intro f
 induction f with
 | zero=>
  intro listed hL hu a w hi'
  have he:=hL.zero hhi So
  subst he
  rw[N1]
  refine hK a w ?_
  refine Sub.inv ⟨fun i s hs=>?_,fun i s hs=>?_⟩ hi'
  ·rw[dK]at hs⊢
   rw[←hs]
   congr 1
   exact gC fun j c hj _=>by
    obtain⟨_,_,_,hjl⟩:=hidx j c hj
    rw[dR false So];simp;omega
  rw[eh]at hs⊢;exact hs
 | succ f ih=>
  intro listed hL hu a w hi'
  rw[show f+1+g=(f+g)+1 by omega]
  refine⟨fun hnil=>?_,fun i hr=>?_⟩
  ·exfalso
   have hex:=hL.more hhi (show ops.size-(m+1)<Nf listed by omega)
   obtain⟨n0,⟨h1,h2,h3⟩,hmin⟩:=exists_least hex
   have:n0∈Region.ready .any ops listed:=by
    have hs:n0<listed.size:=by rw[hL.size];exact h1
    refine mem_ready.2 ⟨by rw[fP hs];exact h2,ops[n0],PB h1,fun e he hb=>?_⟩
    have hlt:=dk.back n0 _ (PB h1) e he hb
    cases hl':listed.getD e.on false with
    | true=>rfl
    | false=>
     have:=hmin e.on ⟨So,hl',So⟩
     omega
   rw[hnil]at this
   cases this
  have hih:=hL.early hhi hlate (show ops.size-(m+1)<Nf listed by omega) i hr
  have hil:lo≤i:=So
  obtain⟨hun,oi,hoi,hdeps⟩:=mem_ready.1 hr
  have his:i<listed.size:=ZM
  have hunf:listed.getD i false=false:=abc
  have hli:l[i-lo]?=some oi:=by
   rw[hat (i-lo) So,show lo+(i-lo)=i by omega];exact hoi
  obtain⟨d,s,hcs,hdst,hG⟩:=hga (i-lo) oi hli
  have hwr:∀j c,cs[j]?=some c→j≠i-lo→(c.1∈oi.looksAt ops∨c.1=d)→(listed.getD (lo+j) false=true↔j<i-lo):=by
   intro j c hj hne hc
   obtain⟨oj,hoj,hdj,hjl⟩:=hidx j c hj
   rcases Qa j (i-lo)with h|h
   ·have hap:oj.apart ops oi=false:=by
     cases hb:oj.apart ops oi with
     | false=>rfl
     | true=>
      obtain⟨h1,h2,h3⟩:=Oper.apart_spec hb
      rcases hc with hc|hc
      ·exact absurd hc (h1 c.1 hdj)
      exact absurd (by rw[hdst,hc]) (h2 c.1 hdj)
    obtain⟨e,he,hb,hon⟩:=dk.order (lo+j) i oj oi So hoj hoi hap
    have:=hdeps e he hb
    rw[hon]at this
    simp[this,h]
   have hgt:i<lo+j:=So
   have hap:oi.apart ops oj=false:=by
    cases hb:oi.apart ops oj with
    | false=>rfl
    | true=>
     obtain⟨h1,h2,h3⟩:=Oper.apart_spec hb
     rcases hc with hc|hc
     ·exact absurd hc (h3 c.1 hdj)
     exact absurd (by rw[hdj,hc]) (h2 d hdst)
   obtain⟨e,he,hb,hon⟩:=dk.order i (lo+j) oi oj hgt hoi hoj hap
   cases hlj:listed.getD (lo+j) false with
   | false=>simp;omega
   | true=>
    have:=hL.closed (lo+j) oj hoj hlj e he hb
    rw[hon,hunf]at this
    cases this
  have hagr:AgrG ops oi (iy st (cs.take (i-lo)) (fun _=>true)) (iy st cs (fun j=>listed.getD (lo+j) false)):=by
   refine⟨fun t ht=>?_,fun _ _ _ _ _ _=>by rw[eh,eh]⟩
   rw[dK,dK]
   congr 1
   refine p7 fun j c hj he=>?_
   by_cases hne:j=i-lo
   ·subst hne
    rw[show lo+(i-lo)=i by omega,hunf];simp
   exact hwr j c hj hne (.inl (by rw[he];exact ht))
  have hstep:=hG _ hagr a w hi' (Q:=Q)
  have hnext:∀a' w',Inv cx ((iy st cs (fun j=>listed.getD (lo+j) false)).put d s) a' w'→wpAny P .any ops Q (f+g) (listed.setIfInBounds i true) a' w':=by
   intro a' w' hi''
   refine ih _ (hL.set dk hr hih hqm) aa1 a' w' ?_
   refine Sub.inv ⟨fun t s' hs=>?_,fun t s' hs=>?_⟩ hi''
   ·simp only[St.put,bC]
    rw[dK]at hs
    have hset:∀j,(listed.setIfInBounds i true).getD (lo+j) false=if j=i-lo then true else listed.getD (lo+j) false:=by
     intro j
     by_cases hne:j=i-lo
     ·subst hne
      rw[Cg rfl,show lo+(i-lo)=i by omega]
      simp[his]
     rw[zE hne,getD_set_ne false So]
    by_cases e:d=t
    ·subst e
     rw[Cg rfl]
     have:=p8 (cs:=cs) (L:=fun j=>(listed.setIfInBounds i true).getD (lo+j) false) (i:=i-lo) (c:=(d,s)) hcs abl (fun j c' hj he hij=>by
      simp only[hset]
      rw[zE So]
      have:=hwr j c' hj So (.inr he)
      cases hlj:listed.getD (lo+j) false with
      | false=>rfl
      | true=>have:=this.1 hlj;omega)
     rw[this]at hs
     exact hs
    rw[zE e,dK,←hs]
    congr 1
    refine gC fun j c hj he=>?_
    simp only[hset]
    rw[zE (by
     rintro rfl
     rw[hcs]at hj
     injection hj with hj
     subst hj
     exact e he)]
   simp only[St.put,eh]at hs⊢;exact hs
  exact VN
def MK(ops:Array Oper)(q m:Nat):Bool:=
 (List.range m).all (fun i=>decide (i<q)||(List.range (m+1)).any fun j=>decide (i<j)&&Region.waitsFor .any ops j i)&&
 (List.range ops.size).all fun i=>decide (i≤m)||(match ops[i]? with|some oi=>oi.after.any (fun e=>Region.binds .any e&&decide (m≤e.on))&&(oi.after.any (fun e=>Region.binds .any e&&decide (m<e.on))||(List.range q).all fun j=>oi.after.any (fun e=>Region.binds .any e&&Nat.beq e.on j))|none=>true)
def lh{id:Nat}{cs1 cs2:List (Nat×SV)}{om:Oper}{stB:St}(q m:Nat)(hm:P.follows .mixedOrders=true)(hB:vh l.toArray=true)(hbar:MK l.toArray q m=true)(hml:m<l.length)(hqm:q≤m)
 (hom:l[m]?=some om) (hgm:om.guard=none)
 (has1:AS P cx l.toArray st (l.take m) cs1)
 (hA:∀bs:List Bool,bs.length=q→∀a w,Inv cx (iy st cs1 (fun i=>bs.getD i true)) a w→∀Q,om.wp P a w (fun a' w'=>Inv cx (iy stB cs2 (fun i=>bs.getD i true)) a' w') Q)
 (has2:AS P cx l.toArray stB (l.take q) cs2)
 (ht:JT P cx l (m+1) (iy stB cs2 (fun _=>true)) k):J P cx st (.region id l.toArray true) k:=by
 have dk:=pE hB
 unfold MK at hbar
 rw[YC,Qe,Qe]at hbar
 obtain⟨hb1,hb2⟩:=hbar
 intro a w hi
 refine wp_region_any hm ?_
 obtain⟨β,hb⟩:=hi
 have hi0:Inv cx st a w.drew:=⟨β,hb.later (Below.drew' w)⟩
 have hst0:Inv cx (iy st cs1 (fun i=>(Array.replicate l.toArray.size false).getD (0+i) false)) a w.drew:=by
  exact VZ
 have hL:Lst l.toArray 0 m (Array.replicate l.toArray.size false):=
  ⟨Sp,fun i h=>So,fun i h1 h2=>aaw,fun j oj hj hl=>aaF⟩
 have hu:Nf (Array.replicate l.toArray.size false)=m+(l.toArray.size-m):=by rw[t8];simp;omega
 have homs:l.toArray[m]?=some om:=by simpa using hom
 have hls:l.toArray.size=l.length:=Sp
 obtain⟨hcl1,_⟩:=has1.at_
 obtain⟨hcl2,_⟩:=has2.at_
 have hlate:∀i oi,l.toArray[i]?=some oi→m<i→(∃e∈oi.after,Region.binds .any e=true∧m<e.on)∨∀j,j<q→∃e∈oi.after,Region.binds .any e=true∧e.on=j:=by
  intro i oi hoi hgt
  have his:=(Gm.1 hoi).1
  have:=hb2 i (Lb.2 his)
  simp only[hoi,JO,Ek,YC]at this
  rcases this with h|⟨_,h|h⟩
  ·omega
  ·obtain⟨e,he,hbe⟩:=Array.any_eq_true'.1 h
   simp only[YC,Ek]at hbe
   exact .inl ⟨e,he,hbe.1,hbe.2⟩
  refine .inr fun j hj=>?_
  have:=Qe.1 h j (Lb.2 hj)
  obtain⟨e,he,hbe⟩:=Array.any_eq_true'.1 this
  simp only[YC]at hbe
  exact⟨e,he,hbe.1,OR hbe.2⟩
 have hbehind:∀(listed:Array Bool),Lst l.toArray 0 m listed→∀i∈Region.ready .any l.toArray listed,m<i→False:=by
  intro listed hL i hr hgt
  obtain⟨_,oi,hoi,hdeps⟩:=mem_ready.1 hr
  have his:=(Gm.1 hoi).1
  have:=hb2 i (Lb.2 his)
  simp only[hoi,JO,Ek,YC]at this
  rcases this with h|⟨h,_⟩
  ·omega
  obtain⟨e,he,hbe⟩:=Array.any_eq_true'.1 h
  simp only[YC,Ek]at hbe
  have hlt:=dk.back i oi hoi e he hbe.1
  have h1:=hdeps e he hbe.1
  have h2:=hL.high e.on So So
  rw[fP abx,h1]at h2
  cases h2
 have hatm:∀(listed:Array Bool),Lst l.toArray 0 m listed→∀F a w,m∈Region.ready .any l.toArray listed→Nf listed=F+1→Inv cx (iy st cs1 (fun i=>listed.getD (0+i) false)) a w→wpOp P l.toArray (k.post P) m (wpAny P .any l.toArray (k.post P) F (listed.setIfInBounds m true)) a w:=by
  intro listed hL F a w hr hF hi
  obtain⟨_,oi,hoi,hdeps⟩:=mem_ready.1 hr
  have hall:∀d j,m-j=d→j<m→q≤j→listed.getD j false=true:=by
   intro d
   induction d using Nat.strongRecOn with
   | _ d ihd=>
    intro j hd hj hj0
    have h1:=hb1 j (Lb.2 hj)
    simp only[JO,Ek]at h1
    have h1:=h1.resolve_left So
    obtain⟨j',hj',hj2⟩:=Oo.1 h1
    simp only[YC,Ek]at hj2
    obtain⟨oj,hoj,e,he,hbe,hon⟩:=Region.waitsFor_spec hj2.2
    have hle:j'≤m:=by have:=Lb.1 hj';omega
    by_cases hji:j'=m
    ·subst hji
     rw[hoj]at hoi
     injection hoi with hoi
     subst hoi
     rw[←hon];exact hdeps e he hbe
    have:=ihd (m-j') So j' rfl So So
    rw[←hon];exact hL.closed j' oj hoj this e he hbe
  have hlm:listed.getD m false=false:=by
   have:=hL.high m (Kl _) So
   rwa [fP abx]at this
  have hms:m<listed.size:=abx
  have hT:LstT l.toArray q m (listed.setIfInBounds m true):=by
   refine⟨by simp[hL.size],fun j h1 h2=>?_,fun j h1 h2=>?_,fun j oj hj hl e he hbe=>?_⟩
   ·by_cases e:m=j
    ·subst e;simp[hms]
    rw[getD_set_ne false e];exact hall _ j rfl So h1
   ·rw[getD_set_ne false So]
    have:=hL.high j So h2
    rwa [fP abx]at this
   by_cases e1:m=j
   ·subst e1
    have:oj=oi:=Option.some.inj (hj.symm.trans hoi)
    subst this
    exact getD_set_true (hdeps e he hbe)
   rw[getD_set_ne false e1]at hl
   exact getD_set_true (hL.closed j oj hj hl e he hbe)
  let bs:List Bool:=(List.range q).map fun i=>listed.getD i false
  have hbs:∀j,j<m→listed.getD j false=bs.getD j true:=fun j hj=>by
   by_cases e:j<q
   ·simp only[bs,zy,cr,List.getElem?_range e,Lf,YM]
   rw[hall _ j rfl hj So,zy,jp (by simp[bs];omega)];rfl
  have hi1:Inv cx (iy st cs1 (fun i=>bs.getD i true)) a w:=by
   refine Sub.inv ⟨fun t s hs=>?_,fun t s hs=>?_⟩ hi
   ·rw[dK]at hs⊢
    rw[←hs]
    congr 1
    refine gC fun j c hj _=>?_
    have hjl:j<m:=by
     have:=(Y0.1 hj).1
     rw[hcl1]at this;simp at this;omega
    rw[N1];exact hbs j hjl
   rw[eh]at hs⊢;exact hs
  unfold wpOp
  simp only[homs]
  rw[Cg (by simp[Region.wanted,hgm])]
  refine .inl (Oper.wp_mono (fun a' w' hB'=>?_) (hA bs (by simp[bs]) a w hi1 _))
  have hun:=pJ hms hlm
  obtain⟨f,hf⟩:∃f,F=f+(l.toArray.size-(m+1)):=by
   have:=K3 (listed:=listed.setIfInBounds m true) (n:=l.toArray.size) (m:=m) (by simp[hL.size]) (fun j hj hjl=>by
    rcases Qa m j with g|g
    ·rw[hT.high j g hj]at hjl;cases hjl
    exact g)
   exact⟨F-(l.toArray.size-(m+1)),So⟩
  rw[hf]
  refine tbE (P:=P) (Q:=k.post P) (lo:=0) (hi:=q) (m:=m) dk rfl rfl hqm So QE (fun i hi=>by
   simp only[KC]at hi
   rw[rD So];simp) hlate has2 (fun a w hi=>?_) f _ hT So a' w' ?_
  ·have:=ht a w hi
   rwa [show l.length-(m+1)=l.toArray.size-(m+1)by simp]at this
  refine Sub.inv ⟨fun t s hs=>?_,fun t s hs=>?_⟩ hB'
  ·rw[dK]at hs⊢
   rw[←hs]
   congr 1
   refine gC fun j c hj _=>?_
   have hjl:j<q:=by
    have:=(Y0.1 hj).1
    rw[hcl2]at this;simp at this;omega
   rw[N1,getD_set_ne false So]
   exact(hbs j So).symm
  rw[eh]at hs⊢;exact hs
 have:=Z15 (P:=P) (Q:=k.post P) (g:=l.toArray.size-m) dk rfl (lo:=0) (hi:=m) (P8 _) So QE (fun i hi=>by
  simp only[KC]at hi
  rw[rD So];simp) has1
  (fun listed hL i hr hge F a w hF hne hi=>by
   have him:i=m:=by
    rcases Qa m i with h|h
    ·exact absurd h (fun h=>hbehind _ hL i hr h)
    omega
   subst him
   exact hatm listed hL F a w hr hF hi)
  (fun a w hi=>by
   rw[show l.toArray.size-m=l.toArray.size-(m+1)+1 by omega]
   have hLm:Lst l.toArray 0 m (Yw l.toArray.size m):=⟨by simp[Yw],fun i h=>So,fun i h1 h2=>by rw[dR true h2];simp;omega,fun j oj hj hlj e he hbe=>by
    have hjs:=(Gm.1 hj).1
    have:=dk.back j oj hj e he hbe
    rw[dR false hjs]at hlj
    rw[dR false So]
    simp at hlj⊢;omega⟩
   refine⟨fun hnil=>?_,fun i hr=>?_⟩
   ·exfalso
    have hmem:m∈Region.ready .any l.toArray (Yw l.toArray.size m):=by
     refine mem_ready.2 ⟨by rw[dR true So];simp,om,homs,fun e he hbe=>?_⟩
     have:=dk.back m om homs e he hbe
     rw[dR false So];simp;omega
    rw[hnil]at hmem;cases hmem
   have him:i=m:=by
    obtain⟨hun,oi,hoi,_⟩:=mem_ready.1 hr
    have his:=(Gm.1 hoi).1
    rw[dR true his]at hun
    simp at hun
    rcases Qa m i with h|h
    ·exact absurd h (fun h=>hbehind _ hLm i hr h)
    omega
   subst him
   refine hatm _ hLm _ a w hr (by rw[BY];omega) ?_
   refine Sub.inv ⟨fun t s hs=>?_,fun t s hs=>?_⟩ hi
   ·rw[dK]at hs⊢
    rw[←hs]
    congr 1
    refine gC fun j c hj _=>?_
    have hjl:j<i:=by
     have:=(Y0.1 hj).1
     rw[hcl1]at this;simp at this;omega
    rw[N1,dR false So];simp[hjl]
   rw[eh]at hs⊢;exact hs)
  m _ hL hu a w.drew hst0
 rw[show m+(l.toArray.size-m)=l.toArray.size by omega]at this
 exact this
def cK{st0 st1 st2 st3:St}(h1:∀a w,Inv cx st0 a w→Inv cx st1 a w)(ho:OS P cx o st1 st2)(h2:Sub st2 st3):∀a w,Inv cx st0 a w→∀Q,o.wp P a w (fun a' w'=>Inv cx st3 a' w') Q:=
 fun a w hi Q=>Oper.wp_mono (fun a' w' h=>h2.inv h) (ho a w (h1 a w hi) Q)
end
section
def adQ{k:IntKind}{q z:Int}{g:Nat}{cs:Array Value}(ht:P.underlying t=some (.array n e))(he:Ty P e (ay kk))(hg:GlB g cs)
 (hx:Ev st x (.raw (.pointer (some ⟨g,0,none⟩)))) (hi':Ev st ix (.raw (.int k q))) (hij:q=(j:Int)) (hj:j<n) (hc:cs[j]?=some (.int kk z)):aH P cx st ⟨dst,.indexAddr t x ix,ty,pos,aft,gd⟩ (.eptr (ay kk) z):=
 bz fun st' hag β a w hi=>by
 have h2:=hi.raw (hag.ev aT hx);have h5:=hi.raw (hag.ev aT hi');obtain⟨h6,e',fr,h7⟩:=hi.glo hg;obtain⟨_,i0,hi0,hs⟩:=he;have hb2:(0:Int)≤q∧q<(n:Int):=So;have hq:q.toNat=j:=So;refine⟨.pointer (some ⟨g,j,none⟩),by simp[execOp,h2,h5,Instr.indexAt,Instr.sureAddr,asIntOf,run_underlying ht,hb2,eM hi0,hs,hq,Addr.add_lit,ay],g,j,[.int kk z],rfl,h6,?_,?_⟩;simp[ay];intro i v hv;cases i with
 | zero=>simp at hv;subst hv;simp[World.cell?,h7,hc]
 | succ i=>simp at hv
end
section
abbrev exV(pb:Nat):Nat→Prop:=fun q=>q=pb
def RetV(w0:World)(ok0:Ok)(pb po:Nat)(cur:Array Value)(rt:RT α)(y:α)(r:SV):Ending→World→Prop:=fun e w'=>
 ∃v,e=.returned v∧BelowX (exV pb) w0.heap.size w0 w'∧(∃cur' e',w'.heap[pb]?=some (.cells cur' e' (0,0))∧cur'.size=cur.size)∧
  gT rt w' (fun q=>Nd ⟨w0,ok0,0,exV pb⟩ w' q∧q≠pb) pb po [y]∧r.holds qI w' (fun q=>Nd ⟨w0,ok0,0,exV pb⟩ w' q∧q≠pb) v
structure CtV(P:Program)(kf:FuncId)(s1:SV)(rt:RT α)(x y:α)(ss:List SV)(r:SV):Prop where
 ent:∀w args,(callFunc kf args).run P w=.ok (.enter kf args) w
 calls:∀(w:World) (ok0:Ok) (pb po:Nat) (cur:Array Value) (e:TypeId) (v1:Value) (vs:List Value),OkP w ok0→¬ok0 pb→w.heap[pb]?=some (.cells cur e (0,0))→
  gT rt w ok0 pb po [x]→gh w ok0 (s1::ss) (v1::vs)→Calls P kf ((v1::dE pb po::vs).toArray) w (RetV w ok0 pb po cur rt y r)
def BJ{s1:SV}{x y:α}{ss:List SV}{r:SV}(hf:P.funcs[kf]?=some fn)(hb:fn.body=some c)(hn:(fn.name == "runtime.NumGoroutine")=false)(hm:fn.ntmps=m)(hlen:Nat.ble (ss.length+2) m=true)
 (hp:((s1::ss).all SV.plain)=true)
 (h:∀(w0:World) (ok0:Ok) (pb po:Nat) (cur:Array Value) (e:TypeId),w0.heap[pb]?=some (.cells cur e (0,0))→¬ok0 pb→gT rt w0 ok0 pb po [x]→
  J P (Cx.of w0 ok0 m) ⟨(0,s1)::(1,.raw (dE pb po))::nC 2 ss,[]⟩ c (.fin fn (RetV w0 ok0 pb po cur rt y r))):CtV P kf s1 rt x y ss r:=by
 refine⟨cJ hf hb hn,fun w ok0 pb po cur e v1 vs hok hnb hcur hrow hh=>?_⟩;have hl:=fO hh;have hl:ss.length=vs.length:=by simpa using hl.symm
 have hlen':ss.length+2≤m:=Nn;refine calls_of_wp hf hb ?_;have:=h w ok0 pb po cur e hcur hnb hrow {tmps:=(v1::dE pb po::vs).toArray++Array.replicate (fn.ntmps-(v1::dE pb po::vs).toArray.size) undef,defers:=[]} w ⟨qI,?_⟩;exact Xl;have hpl:∀(j:Nat) (s:SV),(s1::ss)[j]?=some s→s.plain=true:=fun j s hj=>Qe.1 hp s (nL hj);have hkk:∀b',ok0 b'→bY (Cx.of w ok0 m) [] qI w b'∧w.heap[b']?=w.heap[b']?:=fun b' hb'=>⟨⟨.inl hb',hok b' hb',fun nm x hx=>by simp[aG]at hx⟩,rfl⟩;refine⟨(Below.refl _ _).toX,hok.x fun _ q=>q.elim,rfl,by simp[hm];omega,fun nm hb hh=>KP,fun nm nm' hb hb' hh=>KP,fun nm hb hh=>KP,fun i s hs=>?_⟩;rw[bC]at hs;split at hs;rename_i e;subst e;injection hs with hs;subst hs;obtain⟨v,h1,h2⟩:=fU hh (j:=0) rfl;have h1:v1=v:=LF;subst h1;exact⟨v1,aao,SV.plain_keep (hpl 0 _ rfl) hkk h2⟩;rw[bC]at hs;split at hs;rename_i e;subst e;injection hs with hs;subst hs;exact⟨dE pb po,aao,rfl⟩;obtain⟨j,rfl,hj⟩:=iH hs;obtain⟨v,h1,h2⟩:=fU hh (j:=j+1) JP;have h1:vs[j]?=some v:=LF;have hjl:j<vs.length:=(Y0.1 h1).1;exact⟨v,by rw[Gn QE];simp[Nat.add_comm 2 j,h1],SV.plain_keep (hpl (j+1) s JP) hkk h2⟩
def uv(hx:Ev st x (.raw (dE pb po))):aH P cx st ⟨dst,.nilCheck x,ty,pos,aft,gd⟩ (.raw (dE pb po)):=
 bz fun st' hag β a w hi=>by have h1:a.eval x=dE pb po:=hi.raw (hag.ev aT hx);exact⟨dE pb po,by simp[execOp,h1,dE],rfl⟩
def Bi{k:Nat}(hf:aB P t k=some off)(hx:Ev st x (.raw (dE pb po))):aH P cx st ⟨dst,.fieldAddr t x k,ty,pos,aft,gd⟩ (.raw (dE pb (po+off))):=
 bz fun st' hag β a w hi=>by have h1:a.eval x=dE pb po:=hi.raw (hag.ev aT hx);exact⟨dE pb (po+off),by simp[execOp,h1,dE,kI hf],rfl⟩
def up(cur:Array Value)(i:Nat)(u:Value):Array Value:=(cur.toList.take i++u.cells.toList++cur.toList.drop (i+u.cells.size)).toArray
def rV(h:i+u.cells.size≤cur.size):(up cur i u).size=cur.size:=by unfold up;simp;omega
def HE(h:i+u.cells.size≤cur.size)(q:Nat):(up cur i u)[q]?=if q<i then cur[q]? else if q<i+u.cells.size then u.cells.toList[q-i]? else cur[q]?:=by unfold up;rw[Jq];have e1:(cur.toList.take i).length=i:=QE;have e2:u.cells.toList.length=u.cells.size:=Sp;by_cases q1:q<i;exact WD;rw[zE q1];by_cases q2:q<i+u.cells.size;exact Wv;rw[zE q2,l9 (by rw[Yl,e1,e2];omega),Yl,e1,e2,KE];rw[show i+u.cells.size+(q-(i+u.cells.size))=q by omega];simp
def InvB.setOld(hi:InvB (Cx.of w0 ok0 m) st β a w)(h0:w0.heap[pb]?=some (.cells cur e (0,0)))(hnb:¬ok0 pb)(hsz:cur'.size=cur.size):
 w.heap[pb]?=some (.cells cur e (0,0))∧InvB (Cx.of (w0.setRow pb cur') ok0 m) st β a (w.setRow pb cur'):=by
 have hpb:pb<w0.heap.size:=InvB.cell_lt h0;have hw:w.heap[pb]?=some (.cells cur e (0,0)):=(hi.below.blockX pb hpb (fun h=>h)).trans h0;have hok:∀b',bY (Cx.of w0 ok0 m) st.heap β w b'→bY (Cx.of (w0.setRow pb cur') ok0 m) st.heap β (w.setRow pb cur') b'∧(w.setRow pb cur').heap[b']?=w.heap[b']?:=by
  rintro b' ⟨h1,h2,h3⟩;have hne:b'≠pb:=by rintro rfl;rcases h1 with z|z;exact hnb z;have z:w0.heap.size≤b':=Cx.new_of z;omega
  refine⟨⟨?_,J3,h3⟩,setRow_other _ _ _ _ hne⟩;rcases h1 with z|z;exact .inl z;exact .inr (.inl (by simpa using Cx.new_of z))
 have hown:∀nm h,aG st.heap nm=some h→∀x,β nm=some x→w0.heap.size≤x.1∧x.1<w.heap.size:=fun nm h hh x hx=>⟨Cx.new_of (hi.own nm h hh x hx).1,(hi.own nm h hh x hx).2⟩;refine⟨hw,⟨⟨hi.below.os,hi.below.tape,hi.below.output,by simpa using hi.below.size,fun k hk hx=>?_,hi.below.drawn⟩,(OkP.mk (fun b hb=>by simpa using hi.old.ok b hb) fun b cs g=>have q:=hi.old.ok.gl b cs g;⟨q.1,q.2.imp fun e h=>h.imp fun fr h2=>(setRow_other _ _ _ _ (show b≠pb from fun e=>hnb (by rw[←e];exact q.1))).trans h2⟩).x fun _ q=>q.elim,hi.defers,hi.size,fun k hb' hk x hx=>?_,hi.sep,fun k hb' hk=>?_,fun i s hs'=>?_⟩⟩;by_cases e1:k=pb;subst e1;rw[setRow_heap _ _ _ _ _ _ hw,setRow_heap _ _ _ _ _ _ h0];rw[setRow_other _ _ _ _ e1,setRow_other _ _ _ _ e1];exact hi.below.blockX k Og (fun h=>h);have:=hown k hb' hk x hx;exact⟨.inl (by simpa using this.1),by simpa using this.2⟩;exact HB.keep hok (fun x hx=>setRow_other _ _ _ _ (by have:=hown k hb' hk x hx;omega)) (hi.rows k hb' hk);obtain⟨v,h1,h2⟩:=hi.slots i s hs';refine⟨v,h1,SV.keep hok (fun k hk=>⟨rfl,fun b1 o1 _ cur1 e1 fr1 h3=>?_⟩) h2⟩;by_cases hbb:b1=pb;subst hbb;rw[hw]at h3;injection h3 with h3;injection h3 with h3 _ _;subst h3;exact⟨cur',_,_,setRow_heap _ _ _ _ _ _ hw,hsz⟩;exact⟨cur1,e1,fr1,by rw[setRow_other _ _ _ _ hbb];exact h3,rfl⟩
def mx{v1:ResultVar}{s t r:SV}{f:Nat}{x y:α}{d:γ}{set:α→γ→α}(hr:fn.results = #[v0,v1])
 (g0:xA P (Cx.of (w0.setRow pb (up cur (po+f) u)) ok0 m) st v0 s) (g1:xA P (Cx.of (w0.setRow pb (up cur (po+f) u)) ok0 m) st v1 t) (hp:s.plain=true∧t.plain=true) (he:SV.tup2 s t=r)
 (h0:w0.heap[pb]?=some (.cells cur e (0,0))) (hnb:¬ok0 pb) (hrow:gT rt w0 ok0 pb po [x]) (hl:Lens rt f rt' get set) (hu:u.cells.size=rt'.n) (hi0:bg st.slots i=some (.both (.tv rt' d) u)) (ey:set x d=y):
 JR P (Cx.of (w0.setRow pb (up cur (po+f) u)) ok0 m) st (.fin fn (RetV w0 ok0 pb po cur rt y r)):=by
 rintro a w ⟨β,hi⟩;subst he ey;obtain⟨v,h3,h4⟩:=g0 β a w hi;obtain⟨v',h5,h6⟩:=g1 β a w hi;obtain⟨cur1,e1,q1,q2,q3⟩:=hrow;rw[h0]at q1;injection q1 with q1;injection q1 with q1 _ _;subst q1;obtain⟨cs,q4,q5⟩:=q3 0 x rfl;have hcl:=rt.len q4;have hfit:=hl.fits;have hn1:[x].length*rt.n=rt.n:=Sp;have hpb:pb<w0.heap.size:=InvB.cell_lt h0;have hw0s:(w0.setRow pb (up cur (po+f) u)).heap.size=w0.heap.size:=Sp;have hwpb:w.heap[pb]?=some (.cells (up cur (po+f) u) e (0,0)):=by rw[hi.below.blockX pb (by simpa using hpb) (fun h=>h)];exact setRow_heap _ _ _ _ _ _ h0
 have hbel:∀k,k<w0.heap.size→k≠pb→w.heap[k]?=w0.heap[k]?:=fun k hk hne=>by rw[hi.below.blockX k Og (fun h=>h)];exact setRow_other _ _ _ _ hne
 have hle:po+f+u.cells.size≤cur.size:=So;have hkk:∀q,bY (Cx.of (w0.setRow pb (up cur (po+f) u)) ok0 m) st.heap β w q→Nd ⟨w0,ok0,0,exV pb⟩ w q∧q≠pb:=fun q hq=>by refine⟨⟨?_,hq.2.1⟩,?_⟩;rcases hq.1 with z|z;exact .inl z;exact .inr (.inl (by have:=Cx.new_of z;simpa using this));rintro rfl;rcases hq.1 with z|z;exact hnb z;have:=Cx.new_of z;simp at this;omega
 have hold:∀q,ok0 q→Nd ⟨w0,ok0,0,exV pb⟩ w q∧q≠pb:=fun q hq=>by have h1:=hi.old.ok q hq;have h2:q<w0.heap.size:=LF;have h3:=hi.below.size;simp at h3;exact⟨⟨.inl hq,So⟩,fun e=>hnb (e▸hq)⟩
 refine⟨hi.defers,.tuple #[v,v'],by simp[gJ,hr,h3,h5],_,rfl,⟨hi.below.os,hi.below.tape,hi.below.output,by have:=hi.below.size;simpa using this,fun k hk hx=>hbel k hk hx,hi.below.drawn⟩,⟨_,_,hwpb,rV hle⟩,⟨_,_,hwpb,by rw[rV hle];exact q2,fun j z hz=>?_⟩,⟨v,v',rfl,SV.plain_keep hp.1 (fun q hq=>⟨hkk q hq,rfl⟩) h4,SV.plain_keep hp.2 (fun q hq=>⟨hkk q hq,rfl⟩) h6⟩⟩;obtain⟨v2,_,h7,h8⟩:=hi.slots i _ hi0;subst h8;have hval:rt'.val w (bY _ st.heap β w) v2 d:=h7;have hj:j=0:=Zx;subst hj;have hz:set x d=z:=by simpa using hz
 subst hz;have hrep:=rt.keep (ok':=fun q=>Nd ⟨w0,ok0,0,exV pb⟩ w q∧q≠pb) (fun q hq=>⟨hold q hq,hbel q (by have:=hi.old.ok q hq;simpa using this) (fun e=>hnb (e▸hq))⟩) q4;have hc:=rt'.keep (ok':=fun q=>Nd ⟨w0,ok0,0,exV pb⟩ w q∧q≠pb) (fun q hq=>⟨hkk q hq,rfl⟩) (rt'.val_cells hval);have hul:v2.cells.toList.length=rt'.n:=by simpa using hu
 refine⟨_,hl.set_ hrep hc,fun q v3 hq=>?_⟩;rw[HE hle,Jc,M6];rw[F3]at hq;by_cases z1:q<f;rw[Cg So];rw[NH QE,rD z1]at hq;have:=q5 q v3 hq;rw[Jc,M6]at this;exact this;rw[zE So];rw[l9 QE]at hq;have e1:(cs.take f).length=f:=QE;rw[e1]at hq;by_cases z2:q<f+rt'.n;rw[Cg So];rw[NH So]at hq;rw[show po+q-(po+f)=q-f by omega];exact hq;rw[zE So];rw[l9 So,hul,KE]at hq;rw[show f+rt'.n+(q-f-rt'.n)=q by omega]at hq;have:=q5 q v3 hq;rw[Jc,M6]at this;exact this
variable[NM rt]
def InvB.turnV(hi:InvB cx st β a w){o:Nat}{x y:α}(hn:aG st.heap nm=some ⟨rt,[x]⟩)(hb:β nm=some (b,o))(hcur:w.heap[b]?=some (.cells cur e (0,0)))(hg:BelowX (exV b) w.heap.size w w'){e':TypeId}(hcur':w'.heap[b]?=some (.cells cur' e' (0,0)))(hsz:cur'.size=cur.size)
 (hrow:gT rt w' (fun q=>Nd (Cx.mk w (bY cx st.heap β w) 0 (exV b)) w' q∧q≠b) b o [y]):InvB cx ⟨st.slots,(nm,⟨rt,[y]⟩)::st.heap⟩ β a w':=by
 have hown:=hi.own nm _ hn _ hb;have hothers:∀k hb',aG st.heap k=some hb'→k≠nm→∀x,β k=some x→x.1≠b:=fun k hb' hk hne x hx e1=>hne (hi.sep k nm _ _ hk hn x (b,o) hx hb e1);have hbl:∀k,k<w.heap.size→k≠b→w'.heap[k]?=w.heap[k]?:=fun k hk hne=>hg.blockX k hk hne;have hh0:∀k,aG ((nm,HB.mk rt [y])::st.heap) k=if nm=k then some ⟨rt,[y]⟩else aG st.heap k:=fun k=>bA _ _ _ _
 have hok:∀b',bY cx st.heap β w b'→bY cx ((nm,⟨rt,[y]⟩)::st.heap) β w' b'∧w'.heap[b']?=w.heap[b']?:=by exact Ur
 have hok2:∀q,(Nd (Cx.mk w (bY cx st.heap β w) 0 (exV b)) w' q∧q≠b)→bY cx ((nm,⟨rt,[y]⟩)::st.heap) β w' q:=fun q hq=>by exact Uc
 refine⟨⟨hg.os.trans hi.below.os,hg.tape.trans hi.below.tape,hg.output.trans hi.below.output,wb hi.below.size hg.size,fun k hk hx=>?_,wb hi.below.drawn hg.drawn⟩,hi.old,hi.defers,hi.size,fun k hb' hk x hx=>?_,fun k k' h1 h2 hk hk' x y hx hy hxy=>?_,fun k hb' hk=>?_,fun i s hs'=>?_⟩;exact VT;exact Vl;exact UA;exact Tr;obtain⟨v,h1,h2⟩:=hi.slots i s hs';refine⟨v,h1,SV.keep hok (fun k hk=>⟨rfl,fun b1 o1 hbo cur1 e1 fr1 h3=>?_⟩) h2⟩;by_cases hbb:b1=b;subst hbb;rw[hcur]at h3;injection h3 with h3;injection h3 with h3 _ _;subst h3;exact⟨cur',_,_,hcur',hsz⟩;exact⟨cur1,e1,fr1,by rw[hbl b1 (InvB.cell_lt h3) hbb];exact h3,rfl⟩
def zq{d:Nat}{x y:α}{s1:SV}{ss:List SV}{rr:SV}{p:Operand}(h:CtV P kf s1 rt x y ss rr)
 (hx:Ev st p (.optr nm rt.n 0 0)) (hn:aG st.heap nm=some ⟨rt,[x]⟩) (ha:Args st (x1::xo) (s1::ss)) (hp:((s1::ss).all SV.plain)=true) (hr:rr.plain=true) (hd:Nat.blt d cx.n=true):
 GH P cx ops st ⟨some d,.call {callee:=.value (.func kf),args:=(x1::p::xo).toArray,argTypes:=ts},ty,pos,aft,none⟩ (some (d,rr),some (nm,⟨rt,[y]⟩)) [nm] []:=by
 intro st' hag _ a w hi Q;rw[Cg L0];obtain⟨β,hi⟩:=hi;have hn':aG st'.heap nm=some ⟨rt,[x]⟩:=(hag.heap nm Sp).trans hn;have hrun:(execOp a.eval ⟨some d,.call {callee:=.value (.func kf),args:=(x1::p::xo).toArray,argTypes:=ts},ty,pos,aft,none⟩).run P w=.ok (.enter kf ((x1::p::xo).map a.eval).toArray) w:=by exact Xb
 unfold Oper.wp;rw[hrun,Oper.upon_enter];obtain⟨b,o,hβ,e2⟩:=hi.ev (hag.ev ug hx);have e2:a.eval p=dE b o:=by simpa using e2
 have hrow:=jS hi hn' hβ;obtain⟨cur,e,hcur,_,_⟩:=id hrow;have hargs:=ha.holds (st':=st') (fun x hx=>hag.evs (by simp only[Op.operands,Call.operands];simp at hx⊢;rcases hx with hx|hx<;>simp[hx])) hi hp;have hnok:¬bY cx st'.heap β w b:=fun q=>q.2.2 nm _ hn' _ hβ rfl;rw[zr,zr,e2];refine(h.calls w (bY cx st'.heap β w) b o cur e _ _ hi.okP hnok hcur hrow hargs).mono ?_;rintro e0 w' ⟨v,rfl,hb,⟨cur',e',hc',hsz⟩,hrow',hu⟩;have hi':=hi.turnV hn' hβ hcur hb hc' hsz hrow';refine⟨β,hi'.put PX (SV.plain_keep hr (fun q hq=>⟨⟨?_,hq.1.2,?_⟩,rfl⟩) hu)⟩;exact Wx;exact UQ
end
section
variable{δ:Type}
def cS{d:α}(hx:Ev st x (.eptr rt d)):aH P cx st ⟨dst,.nilCheck x,ty,pos,aft,gd⟩ (.eptr rt d):=
 bz fun st' hag β a w hi=>by have h1:=hi.ev (hag.ev aT hx);obtain⟨b,o,cs,h2,_⟩:=id h1;exact Xk
def di{f:Nat}(hx:Ev st x (.optr nm sz i f)):aH P cx st ⟨dst,.nilCheck x,ty,pos,aft,gd⟩ (.optr nm sz i f):=
 bz fun st' hag β a w hi=>by have h1:=hi.ev (hag.ev aT hx);obtain⟨b,o,_,h2⟩:=id h1;exact Xk
def Bt{s s' t:SV}(hc:bg st.slots c0=some (.lnk s u t))(hj:bg st.slots j=some s')(hi:Inv cx st a w):Inv cx ⟨(j,.lnk s' u t)::st.slots,st.heap⟩ a w:=by obtain⟨β,hb⟩:=hi;obtain⟨_,_,_,ht⟩:=hb.slots c0 _ hc;exact⟨β,hb.turnS (s':=.lnk s' u t) hj fun v hv=>⟨hv,ht⟩⟩
def adR(c0 j:Nat){s s' t:SV}(hc:bg st.slots c0=some (.lnk s u t))(hj:bg st.slots j=some s')(h:J P cx ⟨(j,.lnk s' u t)::st.slots,st.heap⟩ c k):J P cx st c k:=fun a w hi=>h a w (Bt hc hj hi)
def ED(c0 j:Nat){s s' t:SV}(hc:bg st.slots c0=some (.lnk s u t))(hj:bg st.slots j=some s')(h:JG P cx ops ⟨(j,.lnk s' u t)::st.slots,st.heap⟩ l k):JG P cx ops st l k:=fun a w hi=>h a w (Bt hc hj hi)
def adS(j:Nat){s t:SV}(hj:bg st.slots j=some (.lnk s u t))(h:J P cx ⟨(j,s)::st.slots,st.heap⟩ c k):J P cx st c k:=fun a w ⟨β,hb⟩=>h a w ⟨β,hb.turnS (s':=s) hj fun _ hv=>hv.1⟩
def tE[NM rt]{k:IntKind}{i:Int}(ht:P.underlying t=some (.slice e))(he:Ty P e rt)
 (hx:Ev st x (.raw u)) (hi':evS st ix=some (.lnk (.raw (.int k i)) u (.own nm rt.n off n))) (hij:i=(j:Int)) (hj:j<n):aH P cx st ⟨dst,.indexAddr t x ix,ty,pos,aft,gd⟩ (.optr nm rt.n (off+j) 0):=
 bz fun st' hag β a w hi=>by have h0:a.eval x=u:=hi.raw (hag.ev aT hx);have hE:Ev st ix (.lnk (.raw (.int k i)) u (.own nm rt.n off n)):=.base hi';have h5:=hi.ev (hag.ev aT hE);obtain⟨h5,h1⟩:=h5;have h5:a.eval ix=.int k i:=h5;exact Tk
def adT{x2:Operand}{i:Int}[NM rt]{r1:RT γ}{d1:γ}{r2:RT δ}{d2:δ}(h:Ct P kf [.tv r2 d2,.raw (.int kk i)] (.raw v))
 (h1:Ev st x1 (.tv r1 d1)) (h2:evS st x2=some (.lnk (.raw (.int kk i)) u (.own nm rt.n 0 n))) (hn:aG st.heap nm=some ⟨rt,ys⟩) (hnl:n=ys.length) (hc:rN rt ys u r1 d1 r2 d2):
 aH P cx st ⟨dst,.call {callee:=.value (.func kf),args:=#[x1,x2],argTypes:=ts},ty,pos,aft,gd⟩ (.raw v):=by
 intro st' hag d hd hdn a w ⟨β,hi⟩ Q
 subst hnl
 have hE:Ev st x2 (.lnk (.raw (.int kk i)) u (.own nm rt.n 0 ys.length)):=.base h2
 have hn':aG st'.heap nm=some ⟨rt,ys⟩:=by rw[hag.heap x2 ug _ nm h2 Pa];exact hn
 have e1:=hi.ev (hag.ev ug h1)
 obtain⟨e2,e3⟩:=hi.ev (hag.ev ug hE)
 have hsub:∀j s,aG (bQ nm st'.heap) j=some s→aG st'.heap j=some s:=a6 nm _
 have hno:aG (bQ nm st'.heap) nm=none:=bm nm _
 have hok:∀b,bY cx st'.heap β w b→bY cx (bQ nm st'.heap) β w b:=fun b ⟨g1,g2,g3⟩=>⟨g1,g2,fun k h hk=>g3 k h (hsub _ _ hk)⟩
 have hsl:(ag rt).val w (bY cx (bQ nm st'.heap) β w) u ys:=by
  exact U1
 have e1':(SV.tv r1 d1).holds β w (bY cx (bQ nm st'.heap) β w) (a.eval x1):=SV.keep (fun b hb=>⟨hok b hb,rfl⟩) (fun k _=>⟨rfl,fun b o _ cur e fr hc=>⟨cur,e,fr,hc,rfl⟩⟩) e1
 have hargs:gh w (bY cx (bQ nm st'.heap) β w) [SV.tv r2 d2,.raw (.int kk i)] ([x1,x2].map a.eval):=by
  refine⟨_,_,rfl,?_,_,_,rfl,e2,rfl⟩
  obtain⟨cs,h5,h6⟩:=e1'
  exact⟨cs,hc.2 _ _ _ hsl h5,by rw[h6,hc.1]⟩
 have hrun:(execOp a.eval ⟨dst,.call {callee:=.value (.func kf),args:=#[x1,x2],argTypes:=ts},ty,pos,aft,gd⟩).run P w=.ok (.enter kf ([x1,x2].map a.eval).toArray) w:=by
  exact Xb
 unfold Oper.wp
 rw[hrun,Oper.upon_enter]
 refine(h.calls w (bY cx (bQ nm st'.heap) β w) _ (hi.okPd hsub) hargs).mono ?_
 rintro e w' ⟨v',rfl,hb,hv⟩
 have hb:=hb.plain (fun _ h=>h)
 subst hd
 have hl:=hi.later hb
 exact⟨β,hl.put hdn hv⟩
end
section
variable{δ:Type}[NM rt]
omit [NM rt] in
def y7{f:Nat}{s:SV}{p:Operand}(ht:Ty P t rHd)(hx:Ev st p (.raw (dE pb (po+f))))(hi0:bg st.slots i=some (.both s (.slice A n cap)))(h0:w0.heap[pb]?=some (.cells cur e (0,0)))(hnb:¬ok0 pb)(hfit:po+f+1≤cur.size)
 (h:JG P (Cx.of (w0.setRow pb (up cur (po+f) (.slice A n cap))) ok0 m) ops st rest k):
 JG P (Cx.of w0 ok0 m) ops st (⟨none,.store t p (.tmp i),ty,pos,aft,none⟩::rest) k:=by
 rintro a w ⟨β,hi⟩;refine wpList_plain rfl fun K hK=>?_;obtain⟨u,hu1,_,hu2⟩:=hi.slots i _ hi0;subst hu2;have hu:a.eval (.tmp i)=.slice A n cap:=by simp[Act.eval,hu1]
 have hp:a.eval p=dE pb (po+f):=hi.raw hx;obtain⟨_,i0,hii,hs⟩:=ht;have hs:i0.size=1:=hs;have hsz:=rV (cur:=cur) (i:=po+f) (u:=.slice A n cap) hfit;obtain⟨hw,hi1⟩:=hi.setOld (cur':=up cur (po+f) (.slice A n cap)) h0 hnb hsz;have hst:=run_storeCells_at P pb (po+f) e [Value.slice A n cap] 0 cur w hw hfit (by intro v hv;simp at hv;subst hv;rfl);simp only[M6]at hst;have hrun:(execOp a.eval ⟨none,.store t p (.tmp i),ty,pos,aft,none⟩).run P w=.ok .skip (w.setRow pb (up cur (po+f) (.slice A n cap))):=by simp only[execOp,Instr.storeAt,hp,hu,dE,Instr.sureAddr,Sem.run_bind,Sem.run_pure,Result.andThen_ok,storeVar,eM hii,hs];rw[zE (by simp[Value.cells])];rw[show(Value.slice A n cap).cells.toList=[Value.slice A n cap]from rfl,hst];rfl
 unfold Oper.wp;rw[hrun,Oper.upon_skip];exact hK _ _ (h _ _ ⟨β,hi1⟩)
omit [NM rt] in
def Rq{f:Nat}{x:α}{rtH:RT δ}{F:Option Addr×Nat×Nat→δ}{get:δ→Option Addr×Nat×Nat}{set:δ→Option Addr×Nat×Nat→δ}{xH:δ}(hrow:gT rt w0 ok0 pb po [x])(h0:w0.heap[pb]?=some (.cells cur e (0,0)))(hnb:¬ok0 pb)
 (hfit:po+f+1≤cur.size) (ho:vx rt x rtH F) (hl:Lens rtH f rHd get set) (hn:rt.n=rtH.n) (ex:∀y,set (F y) (A,n,cap)=xH):
 gT rtH (w0.setRow pb (up cur (po+f) (.slice A n cap))) ok0 pb po [xH]:=by
 obtain⟨cur1,e1,q1,q2,q3⟩:=hrow;rw[h0]at q1;injection q1 with q1;injection q1 with q1 _ _;subst q1;obtain⟨cs,q4,q5⟩:=q3 0 x rfl;have hsz:=rV (cur:=cur) (i:=po+f) (u:=.slice A n cap) hfit;refine⟨_,_,setRow_heap _ _ _ _ _ _ h0,by rw[hsz,←hn];simpa using q2,fun j z hz=>?_⟩;have hj:j=0:=Zx;subst hj;have hz:xH=z:=by simpa using hz
 subst hz;obtain⟨y,hy⟩:=ho.2 w0 ok0 cs q4;have hcl:=rt.len q4;have hff:=hl.fits;have hset:=hl.set_ (cs':=[.slice A n cap]) (d':=(A,n,cap)) hy rfl;rw[ex y]at hset;refine⟨_,rtH.keep (fun b hb=>⟨hb,setRow_other _ _ _ _ (fun e=>hnb (e▸hb))⟩) hset,fun q v3 hq=>?_⟩;have hle:po+f+(Value.slice A n cap).cells.size≤cur.size:=hfit;rw[HE hle,Jc,M6];have hc1:(Value.slice A n cap).cells.size=1:=rfl;have hfn:f<cs.length:=by rw[hcl,hn];have:f+1≤rtH.n:=hff;omega
 have hcur:∀q v,cs[q]?=some v→cur[po+q]?=some v:=fun q v h=>by have:=q5 q v h;simpa using this
 rw[F3]at hq;by_cases z1:q<f;rw[Cg So];rw[NH QE,rD z1]at hq;exact hcur q v3 hq;rw[zE So];rw[l9 QE]at hq;have e3:(cs.take f).length=f:=QE;rw[e3]at hq;by_cases z2:q=f;subst z2;rw[Cg So,show po+q-(po+q)=0 by omega];rw[O5]at hq;exact hq;rw[zE So];rw[l9 QE,KE,show f+rHd.n+(q-f - [Value.slice A n cap].length)=q by show f+1+(q-f-1)=q;omega]at hq;exact hcur q v3 hq
def jT{t:SV}(hx:evS st x=some (.lnk (.raw (dE pb po)) u t)):aH P cx st ⟨dst,.nilCheck x,ty,pos,aft,gd⟩ (.lnk (.raw (dE pb po)) u t):=
 bz fun st' hag β a w hi=>by obtain⟨h1,h2⟩:=hi.ev (hag.ev aT (.base hx));have h1:a.eval x=dE pb po:=h1;exact⟨dE pb po,by simp[execOp,h1,dE],rfl,h2⟩
def Bj{k:Nat}{s:SV}(hf:aB P t k=some off)(hx:evS st x=some (.lnk (.raw (dE pb po)) u s)):aH P cx st ⟨dst,.fieldAddr t x k,ty,pos,aft,gd⟩ (.lnk (.raw (dE pb (po+off))) u s):=
 bz fun st' hag β a w hi=>by obtain⟨h1,h2⟩:=hi.ev (hag.ev aT (.base hx));have h1:a.eval x=dE pb po:=h1;exact⟨dE pb (po+off),by simp[execOp,h1,dE,kI hf],rfl,h2⟩
omit [NM rt] in
def Hs{x:α}(hi:InvB (Cx.of w1 ok0 m) st β a w)(hrow:gT rt w1 ok0 pb po [x]):∃cs,rt.rep w (bY (Cx.of w1 ok0 m) st.heap β w) cs x∧CellsAt w pb po cs:=by obtain⟨cur,e,q1,q2,q3⟩:=hrow;obtain⟨cs,q4,q5⟩:=q3 0 x rfl;have hpb:=InvB.cell_lt q1;have hw:w.heap[pb]?=some (.cells cur e (0,0)):=(hi.below.blockX pb hpb (fun h=>h)).trans q1;refine⟨cs,rt.keep (fun b hb=>?_) q4,fun j v hj=>?_⟩;have hb1:=hi.old.ok b hb;refine⟨⟨.inl hb,F2 hb1 hi.below.size,fun nm h hh x hx e1=>?_⟩,hi.below.blockX b hb1 (fun h=>h)⟩;have:=Cx.new_of (hi.own nm h hh x hx).1;have hb1:b<w1.heap.size:=hb1;omega;have:=q5 j v hj;rw[Jc,M6]at this;simp[World.cell?,hw,this]
omit [NM rt] in
def rX{s:SV}{d:α}(ht:Ty P t rt)(hx:evS st x=some (.lnk (.raw (dE pb po)) u s))(hrow:gT rt w1 ok0 pb po [d]):aH P (Cx.of w1 ok0 m) st ⟨dst,.load t x,ty,pos,aft,gd⟩ (.lnk (.tv rt d) u s):=
 bz fun st' hag β a w hi=>by obtain⟨h1,h2⟩:=hi.ev (hag.ev aT (.base hx));have h1:a.eval x=dE pb po:=h1;obtain⟨cs,h3,h4⟩:=Hs hi hrow;obtain⟨v,h5,h6⟩:=gA (P:=P) ht h3 h4;exact⟨v,by simp[execOp,Instr.loadAt,h1,dE,Instr.sureAddr,h5],h6,h2⟩
omit [NM rt] in
def Bh{f:Nat}{s:SV}{d:α}{get:α→Option Addr×Nat×Nat}{set:α→Option Addr×Nat×Nat→α}(ht:Ty P t rHd)(hx:evS st x=some (.lnk (.raw (dE pb (po+f))) (.slice A n cap) s))(hrow:gT rt w1 ok0 pb po [d])(hl:Lens rt f rHd get set)(hg:get d=(A,n,cap)):
 aH P (Cx.of w1 ok0 m) st ⟨dst,.load t x,ty,pos,aft,gd⟩ (.lnk (.raw (.slice A n cap)) (.slice A n cap) s):=
 bz fun st' hag β a w hi=>by obtain⟨h1,h2⟩:=hi.ev (hag.ev aT (.base hx));have h1:a.eval x=dE pb (po+f):=h1;obtain⟨cs,h3,h4⟩:=Hs hi hrow;have h5:=hl.get_ h3;rw[hg]at h5;obtain⟨v,h6,h7⟩:=gA (P:=P) ht h5 (h4.part f rHd.n);have h8:=rHd.val_raw (u:=.slice A n cap) rfl h7;exact⟨v,by simp[execOp,Instr.loadAt,h1,dE,Instr.sureAddr,h6],h8,h2⟩
omit [NM rt] in
def yr{k:IntKind}{i:Int}(ht:P.underlying t=some (.slice e))(he:Ty P e rt)
 (hx:evS st x=some (.lnk (.raw u) u (.own nm rt.n off n))) (hi':Ev st ix (.raw (.int k i))) (hij:i=(j:Int)) (hj:j<n):aH P cx st ⟨dst,.indexAddr t x ix,ty,pos,aft,gd⟩ (.optr nm rt.n (off+j) 0):=
 bz fun st' hag β a w hi=>by obtain⟨h0,h1⟩:=hi.ev (hag.ev aT (.base hx));have h0:a.eval x=u:=h0;have h5:=hi.raw (hag.ev aT hi');exact Tk
def Ib(c0 j:Nat){s t:SV}{s':SV}(hc:bg st.slots c0=some (.both t v))(hj:bg st.slots j=some s')(h:J P cx ⟨(j,.lnk s' v t)::st.slots,st.heap⟩ c k):J P cx st c k:=fun a w ⟨β,hb⟩=>
 h a w ⟨β,hb.turnS hj fun x hx=>by obtain⟨y,_,h1,h2⟩:=hb.slots c0 _ hc;subst h2;exact⟨hx,h1⟩⟩
inductive Ao(st:St){α:Type}(rt:RT α)(ys:List α)(u:Value)(t:SV):List Operand→List SV→Prop
 | nil:Ao st rt ys u t [] []
 | cons {x:Operand} {s:SV} {xs:List Operand} {ss:List SV} (h:Ev st x s) (hp:s.plain=true) (hr:Ao st rt ys u t xs ss):Ao st rt ys u t (x::xs) (s::ss)
 | cast {γ δ:Type} {r1:RT γ} {d1:γ} {r2:RT δ} {d2:δ} {x:Operand} {xs:List Operand} {ss:List SV} (h:evS st x=some (.lnk (.tv r1 d1) u t)) (hc:rN rt ys u r1 d1 r2 d2) (hr:Ao st rt ys u t xs ss):Ao st rt ys u t (x::xs) (.tv r2 d2::ss)
def ux{r:SV}{aS:List SV}{xs:List Operand}{xl:Operand}{sl:SV}(h:Ct P kf aS r)(hfl:r.Flat)(hxl:evS st xl=some (.lnk sl u (.own nm rt.n 0 n)))(hmem:xl∈xs)(hn:aG st.heap nm=some ⟨rt,ys⟩)(hnl:n=ys.length)
 (ha:Ao st rt ys u (.own nm rt.n 0 n) xs aS):
 aH P cx st ⟨dst,.call {callee:=.value (.func kf),args:=xs.toArray,argTypes:=ts},ty,pos,aft,gd⟩ r:=by
 intro st' hag d hd hdn a w ⟨β,hi⟩ Q;subst hnl;have hop:∀x∈xs,x∈(Oper.op ⟨dst,.call {callee:=.value (.func kf),args:=xs.toArray,argTypes:=ts},ty,pos,aft,gd⟩).operands:=fun x hx=>Fw;have hn':aG st'.heap nm=some ⟨rt,ys⟩:=by rw[hag.heap xl (hop xl hmem) _ nm hxl Pa];exact hn
 obtain⟨_,e3⟩:=hi.ev (hag.ev (hop xl hmem) (.base hxl));have hsub:∀j s,aG (bQ nm st'.heap) j=some s→aG st'.heap j=some s:=a6 nm _;have hno:aG (bQ nm st'.heap) nm=none:=bm nm _;have hok:∀b,bY cx st'.heap β w b→bY cx (bQ nm st'.heap) β w b:=fun b ⟨g1,g2,g3⟩=>⟨g1,g2,fun k h hk=>g3 k h (hsub _ _ hk)⟩;have hsl:(ag rt).val w (bY cx (bQ nm st'.heap) β w) u ys:=by exact U1
 have hkk:∀b,bY cx st'.heap β w b→bY cx (bQ nm st'.heap) β w b∧w.heap[b]?=w.heap[b]?:=fun b hb=>⟨hok b hb,rfl⟩;have hall:∀(xs:List Operand) (aS:List SV),Ao st rt ys u (.own nm rt.n 0 ys.length) xs aS→(∀x∈xs,x∈(Oper.op ⟨dst,.call {callee:=.value (.func kf),args:=xs.toArray,argTypes:=ts},ty,pos,aft,gd⟩).operands→True)→
  (∀x∈xs,∀s,Ev st x s→Ev st' x s)→gh w (bY cx (bQ nm st'.heap) β w) aS (xs.map a.eval):=fun xs aS hA _ hev=>by
  induction hA with
  | nil=>rfl
  | cons h hp _ ih=>exact⟨_,_,rfl,SV.plain_keep hp hkk (hi.ev (hev _ Sp _ h)),ih (fun _ _ _=>trivial) (fun x hx=>hev x K8)⟩
  | cast h hc _ ih=>
   obtain⟨e1,_⟩:=hi.ev (hev _ Sp _ (.base h))
   refine⟨_,_,rfl,?_,ih (fun _ _ _=>trivial) (fun x hx=>hev x K8)⟩
   obtain⟨cs,h5,h6⟩:=e1
   exact⟨cs,hc.2 _ _ _ hsl (RT.keep _ hkk h5),by rw[h6,hc.1]⟩
 have hargs:=hall xs aS ha (fun _ _ _=>trivial) (fun x hx s he=>hag.ev (hop x hx) he);have hrun:(execOp a.eval ⟨dst,.call {callee:=.value (.func kf),args:=xs.toArray,argTypes:=ts},ty,pos,aft,gd⟩).run P w=.ok (.enter kf (xs.map a.eval).toArray) w:=by exact Xb
 unfold Oper.wp;rw[hrun,Oper.upon_enter];refine(h.calls w (bY cx (bQ nm st'.heap) β w) _ (hi.okPd hsub) hargs).mono ?_;rintro e w' ⟨v',rfl,hb,hv⟩;have hb:=hb.plain (fun _ h=>h);subst hd;exact⟨β,(hi.later hb).put hdn (hfl hv)⟩
end
section
def SV.pin(u:Value):SV→SV
 | .lnk s x t=>.lnk (s.pin u) x t
 | s=>.both s u
def SV.pin_holds{ok:Ok}{u:Value}:∀{s:SV} {v:Value},(s.pin u).holds β w ok v↔s.holds β w ok v∧v=u
 | .lnk s x t,v=>by
  simp only[SV.pin,SV.holds]
  rw[SV.pin_holds (s:=s)]
  exact⟨fun h=>⟨⟨h.1.1,h.2⟩,h.1.2⟩,fun h=>⟨⟨h.1.1,h.2⟩,h.1.2⟩⟩
 | .raw _,_ | .tv _ _,_ | .eptr _ _,_ | .own ..,_ | .optr ..,_ | .mref _,_ | .epown ..,_ | .both _ _,_ | .fam ..,_ | .gd _ _,_ | .tup2 ..,_ | .tup3 ..,_ | .tup4 ..,_=>Iff.rfl
def Dl(β:Loc)(w:World)(ok:Ok)(aS:List SV)(vs:List Value):Prop:=vs.length=aS.length∧∀(j:Nat) (s:SV),aS[j]?=some s→∃v,vs[j]?=some v∧s.holds β w ok v
def Pi(hp:List (Nat×HB))(β:Loc)(q:Nat):Prop:=∃nm hb x,aG hp nm=some hb∧β nm=some x∧x.1=q
def SepG(hp:List (Nat×HB))(β:Loc):Prop:=∀nm nm' hb hb',aG hp nm=some hb→aG hp nm'=some hb'→∀x y,β nm=some x→β nm'=some y→x.1=y.1→nm=nm'
structure Lent(w:World)(ok0:Ok)(hp:List (Nat×HB))(β:Loc):Prop where
 nok:∀nm hb,aG hp nm=some hb→∀x,β nm=some x→¬ok0 x.1∧x.1<w.heap.size
 sep:SepG hp β
 rows:∀nm hb,aG hp nm=some hb→hb.holds w ok0 (β nm)
def RetG(cx:Cx)(I:ι→Prop)(H1:ι→List (Nat×HB))(r:ι→SV)(p:ι→List (Value×SV)):Ending→World→Prop:=fun e w'=>
 ∃v β' i,e=.returned v∧I i∧BelowX cx.ex cx.w0.heap.size cx.w0 w'∧(∀nm hb,aG (H1 i) nm=some hb→∀x,β' nm=some x→cx.new x.1∧x.1<w'.heap.size)∧SepG (H1 i) β'∧
  (∀nm hb,aG (H1 i) nm=some hb→hb.holds w' (bY cx (H1 i) β' w') (β' nm))∧(r i).holds β' w' (bY cx (H1 i) β' w') v∧∀x∈p i,x.2.holds β' w' (bY cx (H1 i) β' w') x.1
structure CtG(P:Program)(kf:FuncId)(H0:List (Nat×HB))(aS:List SV)(I:ι→Prop)(H1:ι→List (Nat×HB))(r:ι→SV)(p:ι→List (Value×SV)):Prop where
 ent:∀w args,(callFunc kf args).run P w=.ok (.enter kf args) w
 calls:∀(w:World) (ok0:Ok) (β:Loc) (vs:List Value),OkP w ok0→Lent w ok0 H0 β→Dl β w ok0 aS vs→Calls P kf vs.toArray w (RetG ⟨w,ok0,0,Pi H0 β⟩ I H1 r p)
def lQ{aS:List SV}{r:ι→SV}{p:ι→List (Value×SV)}(hf:P.funcs[kf]?=some fn)(hb:fn.body=some c)(hn:(fn.name == "runtime.NumGoroutine")=false)(hm:fn.ntmps=m)(hlen:Nat.ble aS.length m=true)
 (h:∀(w0:World) (ok0:Ok) (ex:Nat→Prop),J P ⟨w0,ok0,m,ex⟩ ⟨nC 0 aS,H0⟩ c (.fin fn (RetG ⟨w0,ok0,m,ex⟩ I H1 r p))):CtG P kf H0 aS I H1 r p:=by
 refine⟨cJ hf hb hn,fun w ok0 β vs hok hl hh=>?_⟩;have hlen':aS.length≤m:=Nn;have hvl:=hh.1;refine calls_of_wp hf hb ?_;have:=h w ok0 (Pi H0 β) {tmps:=vs.toArray++Array.replicate (fn.ntmps-vs.toArray.size) undef,defers:=[]} w ⟨β,?_⟩;exact Xl;have hkk:∀b',ok0 b'→bY ⟨w,ok0,m,Pi H0 β⟩ H0 β w b'∧w.heap[b']?=w.heap[b']?:=fun b' hb'=>
  ⟨⟨.inl hb',hok b' hb',fun nm hb hh x hx e=>(hl.nok nm hb hh x hx).1 (by rw[e];exact hb')⟩,rfl⟩
 refine⟨(Below.refl _ _).toX,hok.x (fun q ⟨nm,hb,x,q1,q2,q3⟩=>q3▸(hl.nok nm hb q1 x q2).1),rfl,by simp[hm];omega,fun nm hb hh x hx=>⟨.inr ⟨nm,hb,x,hh,hx,rfl⟩,(hl.nok nm hb hh x hx).2⟩,hl.sep,fun nm hb hh=>HB.keep hkk (fun _ _=>rfl) (hl.rows nm hb hh),fun i s hs=>?_⟩;obtain⟨j,rfl,hj⟩:=iH hs;obtain⟨v,h1,h2⟩:=hh.2 j s hj;have hjl:j<vs.length:=(Y0.1 h1).1;refine⟨v,by rw[Gn QE];simp[h1],SV.keep hkk (fun nm _=>⟨rfl,fun b o _ cur e fr hc=>⟨cur,e,fr,hc,rfl⟩⟩) h2⟩
def finG{H:List (Nat×HB)}(hi:InvB cx st β a w)(hH:∀nm hb,aG H nm=some hb→aG st.heap nm=some hb):
 (∀q,bY cx st.heap β w q→bY cx H β w q∧w.heap[q]?=w.heap[q]?):=fun q hq=>⟨⟨hq.1,hq.2.1,fun nm hb hh=>hq.2.2 nm hb (hH nm hb hh)⟩,rfl⟩
def e7{s:SV}{r:ι→SV}{p:ι→List (Value×SV)}(i:ι)(hr:fn.results = #[v0])(h0:xA P cx st v0 s)(hI:I i)(e:s=r i)(hH:∀nm hb,aG (H1 i) nm=some hb→aG st.heap nm=some hb)(hp:∀x∈p i,∃j,bg st.slots j=some (x.2.pin x.1)):
 JR P cx st (.fin fn (RetG cx I H1 r p)):=by rintro a w ⟨β,hi⟩;obtain⟨v,h1,h2⟩:=h0 β a w hi;have hk:=finG hi hH;have hs:∀{s:SV} {v:Value},s.holds β w (bY cx st.heap β w) v→s.holds β w (bY cx (H1 i) β w) v:=fun h=>SV.keep hk (fun nm _=>⟨rfl,fun b o _ cur e fr hc=>⟨cur,e,fr,hc,rfl⟩⟩) h;refine⟨hi.defers,v,?_,v,β,i,rfl,hI,hi.below,fun nm hb hh=>hi.own nm hb (hH nm hb hh),fun nm nm' hb hb' q1 q2=>hi.sep nm nm' hb hb' (hH _ _ q1) (hH _ _ q2),fun nm hb hh=>HB.keep hk (fun _ _=>rfl) (hi.rows nm hb (hH nm hb hh)),e▸hs h2,fun x hx=>?_⟩;simp[gJ,hr,h1];obtain⟨j,hj⟩:=hp x hx;obtain⟨u,_,h3⟩:=hi.slots j _ hj;obtain⟨h3,rfl⟩:=SV.pin_holds.1 h3;exact hs h3
def acr{l r:List (Nat×HB)}:aG (l++r) n=match aG l n with|some h=>some h|none=>aG r n:=by
 induction l with
 | nil=>rfl
 | cons x l ih=>obtain⟨i,s⟩:=x;rw[C7,bA,bA];split;rfl;exact ih
def InvB.turnG(hi:InvB cx st β a w){H1:List (Nat×HB)}{β':Loc}{r:List (Nat×SV)}
 (h0:∀k hb,aG H0 k=some hb→aG st.heap k=some hb) (hn0:∀k hb,aG H0 k=some hb→(aG H1 k).isSome=true) (hn1:∀k hb,aG H1 k=some hb→(aG H0 k).isSome=true∨aG st.heap k=none)
 (hR:∀k∈R,aG H1 k=none∧(aG st.heap k).isSome=true) (hk:KeepP R st.slots ks r) (hg:BelowX (Pi H0 β) w.heap.size w w')
 (own':∀nm hb,aG H1 nm=some hb→∀x,β' nm=some x→(Cx.mk w (bY cx st.heap β w) 0 (Pi H0 β)).new x.1∧x.1<w'.heap.size) (sep':SepG H1 β')
 (rows':∀nm hb,aG H1 nm=some hb→hb.holds w' (bY (Cx.mk w (bY cx st.heap β w) 0 (Pi H0 β)) H1 β' w') (β' nm)):
 ∃β2:Loc,InvB cx ⟨r,H1++st.heap⟩ β2 a w'∧(∀q,bY (Cx.mk w (bY cx st.heap β w) 0 (Pi H0 β)) H1 β' w' q→bY cx (H1++st.heap) β2 w' q)∧∀k hb,aG H1 k=some hb→β2 k=β' k:=by
 have hb1:∀k hb,aG H1 k=some hb→(fun k=>if(aG H1 k).isSome then β' k else β k:Loc) k=β' k:=fun k hb h=>Ph
 have hb2:∀k,aG H1 k=none→(fun k=>if(aG H1 k).isSome then β' k else β k:Loc) k=β k:=fun k h=>Ph
 generalize hβ2:(fun k=>if(aG H1 k).isSome then β' k else β k:Loc)=β2 at *
 have hlk:∀k hb,aG (H1++st.heap) k=some hb→aG H1 k=some hb∨(aG H1 k=none∧aG H0 k=none∧aG st.heap k=some hb):=fun k hb h=>by
  rw[acr]at h
  cases e:aG H1 k with
  | some x=>rw[e]at h;exact .inl h
  | none=>
   rw[e]at h
   refine .inr ⟨rfl,?_,h⟩
   cases e0:aG H0 k with
   | none=>rfl
   | some y=>have:=hn0 k y e0;rw[e]at this;cases this
 have hoth:∀k hb,aG H1 k=none→aG H0 k=none→aG st.heap k=some hb→∀x,β k=some x→¬Pi H0 β x.1:=fun k hb _ hk0 hk x hx ⟨nm,hb',y,q1,q2,q3⟩=>by
  have:=hi.sep nm k hb' hb (h0 nm hb' q1) hk y x q2 hx q3
  subst this;rw[hk0]at q1;cases q1
 have hok:∀q,bY cx st.heap β w q→bY cx (H1++st.heap) β2 w' q∧w'.heap[q]?=w.heap[q]?:=fun q hq=>by
  have hne:¬Pi H0 β q:=fun⟨nm,hb',y,q1,q2,q3⟩=>hq.2.2 nm hb' (h0 nm hb' q1) y q2 q3
  refine⟨⟨hq.1,F2 hq.2.1 hg.size,fun k hb hh x hx e=>?_⟩,hg.blockX q hq.2.1 hne⟩
  rcases hlk k hb hh with z|⟨z1,z2,z3⟩
  ·rw[hb1 k hb z]at hx
   rcases(own' k hb z x hx).1 with y|y
   ·have y:w.heap.size≤x.1:=y
    have:=hq.2.1
    omega
   exact hne (e▸y)
  rw[hb2 k z1]at hx;exact hq.2.2 k hb z3 x hx e
 have hok2:∀q,bY (Cx.mk w (bY cx st.heap β w) 0 (Pi H0 β)) H1 β' w' q→bY cx (H1++st.heap) β2 w' q:=fun q hq=>by
  rcases hq.1 with z|z|z
  ·exact(hok q z).1
  ·have z:w.heap.size≤q:=z
   refine⟨.inr (.inl (wb hi.below.size z)),hq.2.1,fun k hb hh x hx e=>?_⟩
   rcases hlk k hb hh with y|⟨y1,y2,y3⟩
   ·rw[hb1 k hb y]at hx;exact hq.2.2 k hb y x hx e
   rw[hb2 k y1]at hx
   have:=(hi.own k hb y3 x hx).2
   omega
  have z':=z
  obtain⟨nm,hb',y,q1,q2,q3⟩:=z
  have hnw:=(hi.own nm hb' (h0 nm hb' q1) y q2).1
  rw[q3]at hnw
  refine⟨.inr hnw,hq.2.1,fun k hb hh x hx e=>?_⟩
  rcases hlk k hb hh with y|⟨y1,y2,y3⟩
  ·rw[hb1 k hb y]at hx;exact hq.2.2 k hb y x hx e
  rw[hb2 k y1]at hx
  exact hoth k hb y1 y2 y3 x hx (e▸z')
 refine⟨β2,⟨⟨hg.os.trans hi.below.os,hg.tape.trans hi.below.tape,hg.output.trans hi.below.output,wb hi.below.size hg.size,fun q hq hx=>?_,wb hi.below.drawn hg.drawn⟩,hi.old,hi.defers,hi.size,fun k hb hh x hx=>?_,fun k k' hb hb' hh hh' x y hx hy hxy=>?_,fun k hb hh=>?_,fun i s hs=>?_⟩,hok2,hb1⟩
 ·refine(hg.blockX q (F2 hq hi.below.size) ?_).trans (hi.below.blockX q hq hx)
  rintro⟨nm,hb',y,q1,q2,q3⟩
  rcases(hi.own nm hb' (h0 nm hb' q1) y q2).1 with z|z
  ·rw[q3]at z;omega
  rw[q3]at z;exact hx z
 ·rcases hlk k hb hh with z|⟨z1,z2,z3⟩
  ·rw[hb1 k hb z]at hx
   have:=own' k hb z x hx
   refine⟨?_,this.2⟩
   rcases this.1 with y|⟨nm,hb',y,q1,q2,q3⟩
   ·exact .inl (wb hi.below.size y)
   exact q3▸(hi.own nm hb' (h0 nm hb' q1) y q2).1
  rw[hb2 k z1]at hx
  have:=hi.own k hb z3 x hx
  exact⟨this.1,F2 this.2 hg.size⟩
 ·have cross:∀k k' hb hb',aG H1 k=some hb→aG H1 k'=none→aG H0 k'=none→aG st.heap k'=some hb'→∀x y,β' k=some x→β k'=some y→x.1≠y.1:=fun k k' hb hb' z y1 y2 y3 x y hx hy e=>by
   rcases(own' k hb z x hx).1 with q|q
   ·have q:w.heap.size≤x.1:=q
    have:=(hi.own k' hb' y3 y hy).2
    omega
   exact hoth k' hb' y1 y2 y3 y hy (e▸q)
  rcases hlk k hb hh with z|⟨z1,z2,z3⟩<;>rcases hlk k' hb' hh' with y|⟨y1,y2,y3⟩
  ·rw[hb1 k hb z]at hx;rw[hb1 k' hb' y]at hy;exact sep' k k' hb hb' z y x _ hx hy hxy
  ·rw[hb1 k hb z]at hx;rw[hb2 k' y1]at hy;exact absurd hxy (cross k k' hb hb' z y1 y2 y3 x _ hx hy)
  ·rw[hb2 k z1]at hx;rw[hb1 k' hb' y]at hy;exact absurd hxy.symm (cross k' k hb' hb y z1 z2 z3 _ x hy hx)
  rw[hb2 k z1]at hx;rw[hb2 k' y1]at hy;exact hi.sep k k' hb hb' z3 y3 x _ hx hy hxy
 ·rcases hlk k hb hh with z|⟨z1,z2,z3⟩
  ·rw[hb1 k hb z];exact HB.keep (fun q hq=>⟨hok2 q hq,rfl⟩) (fun _ _=>rfl) (rows' k hb z)
  rw[hb2 k z1]
  exact HB.keep hok (fun x hx=>hg.blockX _ (hi.own k hb z3 x hx).2 (hoth k hb z1 z2 z3 x hx)) (hi.rows k hb z3)
 obtain⟨hs0,hw⟩:=hk.look i s hs
 obtain⟨v,h1,h2⟩:=hi.slots i s hs0
 refine⟨v,h1,SV.keep hok (fun nm hnf=>?_) h2⟩
 obtain⟨g1,g2⟩:=hR nm (SV.within_mem hw hnf)
 have g3:aG H0 nm=none:=by
  cases e0:aG H0 nm with
  | none=>rfl
  | some y=>have:=hn0 nm y e0;rw[g1]at this;cases this
 cases hl:aG st.heap nm with
 | none=>rw[hl]at g2;cases g2
 | some hb=>
  refine⟨hb2 nm g1,fun b o hbo cur e fr hc=>⟨cur,e,fr,?_,rfl⟩⟩
  rw[hg.blockX b (InvB.cell_lt hc) (hoth nm hb g1 g3 hl (b,o) hbo)];exact hc
def Pb(H0 h:List (Nat×HB)):Prop:=∀k hb,aG H0 k=some hb→aG h k=some hb
def dZ:Pb [] h:=fun k hb q=>P5
def bB{l:List (Nat×HB)}{k:Nat}{hb:HB}(h1:aG h k=some hb)(h2:Pb l h):Pb ((k,hb)::l) h:=fun j x q=>by rw[bA]at q;split at q;rename_i e;subst e;injection q with q;subst q;exact h1;exact h2 j x q
def yD(H0 H1 h:List (Nat×HB))(R N:List Nat):Bool:=H0.all (fun x=>(aG H1 x.1).isSome)&&H1.all (fun x=>(aG H0 x.1).isSome||(aG h x.1).isNone)&&R.all (fun k=>(aG H1 k).isNone&&(aG h k).isSome)&&N.all (fun k=>(aG H1 k).isSome)
def vR:∀{l:List (Nat×HB)} {k:Nat} {hb:HB},aG l k=some hb→(k,hb)∈l
 | [],k,hb,h=>by simp[aG]at h
 | (i,s)::l,k,hb,h=>by rw[bA]at h;split at h;rename_i e;subst e;injection h with h;subst h;exact PT;exact f9 _ (vR h)
def vO{H1:List (Nat×HB)}{N:List Nat}(e:yD H0 H1 h R N=true):(∀k hb,aG H0 k=some hb→(aG H1 k).isSome=true)∧(∀k hb,aG H1 k=some hb→(aG H0 k).isSome=true∨aG h k=none)∧(∀k∈R,aG H1 k=none∧(aG h k).isSome=true)∧∀k∈N,(aG H1 k).isSome=true:=by unfold yD at e;simp only[YC,Qe,JO,JQ]at e;obtain⟨⟨⟨e1,e2⟩,e3⟩,e4⟩:=e;exact⟨fun k hb q=>e1 _ (vR q),fun k hb q=>e2 _ (vR q),fun k hk=>e3 k hk,fun k hk=>e4 k hk⟩
def vX{aS:List SV}{r:ι→SV}{xs:List Operand}{d:Nat}(R N ks:List Nat){r0:List (Nat×SV)}(h:CtG P kf [] aS I H1 r (fun _=>[]))(ha:Args st xs aS)(hp:(aS.all SV.plain)=true)(hd:Nat.blt d cx.n=true)
 (hn:∀i,yD [] (H1 i) st.heap R N=true) (hr:∀i,(r i).within N=true) (hk:KeepP R st.slots ks r0) (hnext:∀i,I i→JG P cx ops ⟨(d,r i)::r0,H1 i++st.heap⟩ rest k):
 JG P cx ops st (⟨some d,.call {callee:=.value (.func kf),args:=xs.toArray,argTypes:=ts},ty,pos,aft,none⟩::rest) k:=by
 rintro a w ⟨β,hi⟩;refine wpList_plain rfl fun K hK=>?_;have hargs:=ha.holds (cx:=cx) (β:=β) (a:=a) (w:=w) (st':=st) (fun x hx=>rfl) hi hp;have hrun:(execOp a.eval ⟨some d,.call {callee:=.value (.func kf),args:=xs.toArray,argTypes:=ts},ty,pos,aft,none⟩).run P w=.ok (.enter kf (xs.map a.eval).toArray) w:=by exact Xb
 unfold Oper.wp;rw[hrun,Oper.upon_enter];have hB:Dl β w (bY cx st.heap β w) aS (xs.map a.eval):=⟨fO hargs,fun j s hj=>by obtain⟨v,q1,q2⟩:=fU hargs hj;exact⟨v,q1,SV.plain_keep (Qe.1 hp s (nL hj)) (fun b hb=>⟨hb,rfl⟩) q2⟩⟩
 refine(h.calls w (bY cx st.heap β w) β _ hi.okP ⟨fun nm hb q=>P5,fun nm nm' hb hb' q=>P5,fun nm hb q=>P5⟩ hB).mono ?_;rintro e w' ⟨v,β',i,rfl,hI,hg,own',sep',rows',hv,_⟩;obtain⟨n1,n2,n3,n4⟩:=vO (hn i);obtain⟨β2,hi',hok2,hb1⟩:=hi.turnG (H0:=[]) dZ n1 n2 n3 hk hg own' sep' rows';refine hK _ _ (hnext i hI _ _ ⟨β2,hi'.put PX (SV.keep (fun q hq=>⟨hok2 q hq,rfl⟩) (fun nm hnf=>?_) hv)⟩);have hs:=n4 nm (SV.within_mem (hr i) hnf);cases hl:aG (H1 i) nm with
 | none=>rw[hl]at hs;cases hs
 | some hb=>exact⟨hb1 nm hb hl,fun b o hbo cur e fr hc=>⟨cur,e,fr,hc,rfl⟩⟩
def sf{s0:SV}{ss:List SV}{r p:ι→SV}{d:Nat}(R N ks:List Nat){r0:List (Nat×SV)}(h:∀u,CtG P kf H0 (s0.pin u::ss) I H1 r (fun i=>[(u,p i)]))
 (hc0:bg st.slots c0=some s0) (ha:Args st xo ss) (hp:(ss.all SV.plain)=true) (hd:Nat.blt d cx.n=true) (hH:Pb H0 st.heap)
 (hn:∀i,yD H0 (H1 i) st.heap R N=true) (hr:∀i,((r i).within N&&(p i).within N)=true) (hk:KeepP R st.slots ks r0) (hnext:∀i,I i→JG P cx ops ⟨(d,r i)::(c0,p i)::r0,H1 i++st.heap⟩ rest k):
 JG P cx ops st (⟨some d,.call {callee:=.value (.func kf),args:=(.tmp c0::xo).toArray,argTypes:=ts},ty,pos,aft,none⟩::rest) k:=by
 rintro a w ⟨β,hi⟩
 refine wpList_plain rfl fun K hK=>?_
 obtain⟨u,hu1,hu2⟩:=hi.slots c0 _ hc0
 have heu:a.eval (.tmp c0)=u:=by simp[Act.eval,hu1]
 have hargs:=ha.holds (cx:=cx) (β:=β) (a:=a) (w:=w) (st':=st) (fun x hx=>rfl) hi hp
 have hrun:(execOp a.eval ⟨some d,.call {callee:=.value (.func kf),args:=(.tmp c0::xo).toArray,argTypes:=ts},ty,pos,aft,none⟩).run P w=.ok (.enter kf ((.tmp c0::xo).map a.eval).toArray) w:=by
  simp[execOp,resolve,Act.eval,Deferred.ofValue,invoke,(h u).ent]
 unfold Oper.wp
 rw[hrun,Oper.upon_enter,zr,heu]
 have hB:Dl β w (bY cx st.heap β w) (s0.pin u::ss) (u::xo.map a.eval):=⟨by simpa using fO hargs,fun j s hj=>by
  cases j with
  | zero=>simp at hj;subst hj;exact⟨u,rfl,SV.pin_holds.2 ⟨hu2,rfl⟩⟩
  | succ j=>
   obtain⟨v,q1,q2⟩:=fU hargs (j:=j) JP
   exact⟨v,by simpa using q1,SV.plain_keep (Qe.1 hp s (nL JP)) (fun b hb=>⟨hb,rfl⟩) q2⟩⟩
 refine((h u).calls w (bY cx st.heap β w) β _ hi.okP ⟨fun nm hb q x hx=>⟨fun z=>z.2.2 nm hb (hH nm hb q) x hx rfl,(hi.own nm hb (hH nm hb q) x hx).2⟩,fun nm nm' hb hb' q q'=>hi.sep nm nm' hb hb' (hH _ _ q) (hH _ _ q'),fun nm hb q=>hi.rows nm hb (hH nm hb q)⟩ hB).mono ?_
 rintro e w' ⟨v,β',i,rfl,hI,hg,own',sep',rows',hv,hpp⟩
 obtain⟨n1,n2,n3,n4⟩:=vO (hn i)
 obtain⟨β2,hi',hok2,hb1⟩:=hi.turnG hH n1 n2 n3 hk hg own' sep' rows'
 have hrr:=hr i
 rw[YC]at hrr
 have key:∀{s:SV} {v:Value},s.within N=true→s.holds β' w' (bY (Cx.mk w (bY cx st.heap β w) 0 (Pi H0 β)) (H1 i) β' w') v→s.holds β2 w' (bY cx (H1 i++st.heap) β2 w') v:=fun hw hv=>SV.keep (fun q hq=>⟨hok2 q hq,rfl⟩) (fun nm hnf=>by
  have hs:=n4 nm (SV.within_mem hw hnf)
  cases hl:aG (H1 i) nm with
  | none=>rw[hl]at hs;cases hs
  | some hb=>exact⟨hb1 nm hb hl,fun b o hbo cur e fr hc=>⟨cur,e,fr,hc,rfl⟩⟩) hv
 have hpu:=key hrr.2 (hpp _ (List.mem_singleton_self _))
 have hi2:InvB cx ⟨(c0,p i)::r0,H1 i++st.heap⟩ β2 a w':=⟨hi'.below,hi'.old,hi'.defers,hi'.size,hi'.own,hi'.sep,hi'.rows,fun j t hj=>by
  rw[bC]at hj
  split at hj
  ·rename_i e;subst e;injection hj with hj;subst hj;exact⟨u,hu1,hpu⟩
  exact hi'.slots j t hj⟩
 exact hK _ _ (hnext i hI _ _ ⟨β2,hi2.put PX (key hrr.1 hv)⟩)
def se(c0 j:Nat){s t t2:SV}{u2:Value}(hc:bg st.slots c0=some (.lnk (.lnk s u t) u2 t2))(hj:bg st.slots j=some (.raw u))(h:JG P cx ops ⟨(j,t)::st.slots,st.heap⟩ l k):JG P cx ops st l k:=fun a w ⟨β,hb⟩=>by obtain⟨_,_,⟨_,ht⟩,_⟩:=hb.slots c0 _ hc;exact h a w ⟨β,hb.turnS (s':=t) hj fun v hv=>aaN⟩
def lE{s t t2:SV}{u2:Value}(hx:evS st x=some (.lnk (.lnk s u t) u2 t2)):aH P cx st ⟨dst,.move x,ty,pos,aft,gd⟩ s:=
 bz fun st' hag β a w hi=>by obtain⟨⟨h1,_⟩,_⟩:=hi.ev (hag.ev aT (.base hx));exact⟨a.eval x,acN,h1⟩
end
variable{s:SV}
section
def Qw(P:Program)(t:TypeId)(k:Nat):Option (TypeId×Nat):=
 match P.underlying t with
 | some (.struct fs)=>(fs[k]?).map fun f=>(f.type,f.offset)
 | _=>none
def nl{ft:TypeId}{k:Nat}{d:α}{set:α→γ→α}(hag:rt.agg=true)(hf:Qw P t k=some (ft,off))(hT:Ty P ft rt')(hl:Lens rt off rt' get set)(hx:Ev st x (.tv rt d)):
 aH P cx st ⟨dst,.field t x k,ty,pos,aft,gd⟩ (SV.of rt' (get d)):=
 bz fun st' hg β a w hi=>by
 obtain⟨cs,h1,h2⟩:=hi.ev (hg.ev aT hx);rw[hag]at h2;have h2:a.eval x=.agg cs.toArray:=h2;obtain⟨⟨de,hu,hd⟩,i,hi0,hs⟩:=hT;have hr:=hl.get_ h1;have hfit:=hl.fits;have hlen:=rt.len h1;have key:∃v,(part ft cs.toArray off).run P w=.ok v w∧rt'.val w (bY cx st'.heap β w) v (get d):=by
  cases ha:rt'.agg with
  | true=>refine⟨.agg (cs.toArray.extract off (off+rt'.n)),by simp[part,ni hu,hd,ha,eM hi0,hs],_,hr,?_⟩;rw[ha,Cg rfl];congr 1;apply Array.ext';simp[List.extract_eq_take_drop]
  | false=>
   obtain⟨u,hu1⟩:=um rt' ha hr;have h0:cs[off]?=some u:=by
    have:((cs.drop off).take rt'.n)[0]?=some u:=by rw[hu1];rfl
    rw[PC]at this;split at this;simpa using this;cases this
   refine⟨u,by simp[part,ni hu,hd,ha,h0],_,hr,?_⟩;rw[hu1,ha];rfl
 obtain⟨v,h5,h6⟩:=key;unfold Qw at hf;split at hf;rename_i fs hfs;cases hk:fs[k]? with
 | none=>rw[hk]at hf;cases hf
 | some f=>rw[hk]at hf;simp only[Lf,Option.some.injEq,Prod.mk.injEq]at hf;obtain⟨rfl,rfl⟩:=hf;exact⟨v,by simp[execOp,Instr.field,h2,run_underlying hfs,hk,asAgg,h5],jz h6⟩
 cases hf
end
section
open Go.MapKept Go.ChangeMaps
def Q7(obj:Obj)(kvs:List (List UInt8×Value)):Prop:=∃es clock,obj=.map es clock∧es.toList.map (fun e=>(e.key,e.val))=kvs.map (fun p=>(e6 p.1,p.2))
def L7(l:List (List UInt8×α))(k:List UInt8):Option α:=(l.find? (fun p=>decide (p.1=k))).map (·.2)
def wy(a b:List UInt8):Instr.sameNow .string (e6 a) (e6 b)=some (decide (a=b)):=by unfold e6;show some ((⟨a.toArray⟩:ByteArray)==⟨b.toArray⟩)=_;rw[show((⟨a.toArray⟩:ByteArray)==⟨b.toArray⟩)=(a.toArray==b.toArray)from rfl];congr 1;by_cases h:a=b;subst h;simp;rw[decide_eq_false h,beq_eq_false_iff_ne];intro e;exact h Lm
def zP{k:List UInt8}:∀{es:List MapEntry} {kvs:List (List UInt8×Value)} {i:Nat},es.map (fun e=>(e.key,e.val))=kvs.map (fun p=>(e6 p.1,p.2))→∃r,Instr.findNow .string (e6 k) es i=some r∧r.map (·.2)=L7 kvs k
 | [],kvs,i,h=>by
  cases kvs with
  | nil=>exact⟨none,rfl,rfl⟩
  | cons p r=>simp at h
 | e::es,[],i,h=>by simp at h
 | e::es,p::kvs,i,h=>by
  simp only[zr,List.cons.injEq,Prod.mk.injEq]at h
  obtain⟨⟨h1,h2⟩,h3⟩:=h
  by_cases q:k=p.1
  ·refine⟨some (i,e.val),?_,?_⟩
   ·rw[Instr.findNow,h1,wy,decide_eq_true q]
   unfold L7;rw[List.find?_cons_of_pos (by simp[q])];simp[h2]
  obtain⟨r,g1,g2⟩:=zP (k:=k) (i:=i+1) h3
  refine⟨r,?_,?_⟩
  ·rw[Instr.findNow,h1,wy,decide_eq_false q];exact g1
  rw[g2];unfold L7;rw[List.find?_cons_of_neg (by simpa using fun e=>q e.symm)]
def pd:RT (List (List UInt8×Value)) where
 n:=0
 agg:=true
 raw _:=none
 rep _ _ _ _:=False
 len h:=h.elim
 one h:=h.elim
 keep _ h:=h.elim
 scal h:=ob
 exact_ h:=ob
 exact' h:=ob
 mp:=true
 mrep obj d:=Q7 obj d
def MapT(rt:RT α)(w:World)(ok:Ok)(b:Nat)(d:List (List UInt8×α)):Prop:=ok b∧∃obj kvs,w.heap[b]?=some obj∧Q7 obj kvs∧kvs.length=d.length∧∀i (h1:i<kvs.length) (h2:i<d.length),kvs[i].1=d[i].1∧rt.val w ok kvs[i].2 d[i].2
def MapT.keep{ok':Ok}(h:∀b,ok b→ok' b∧w'.heap[b]?=w.heap[b]?)(hm:MapT rt w ok b d):MapT rt w' ok' b d:=by obtain⟨h1,obj,kvs,h2,h3,h4,h5⟩:=hm;exact⟨(h b h1).1,obj,kvs,(h b h1).2.trans h2,h3,h4,fun i q1 q2=>⟨(h5 i q1 q2).1,rt.val_keep h (h5 i q1 q2).2⟩⟩
def mf(rt:RT α):RT (List (List UInt8×α)) where
 n:=1
 agg:=false
 raw _:=none
 rep w ok cs d:=(cs=[.map none]∧d=[])∨∃b,cs=[.map (some b)]∧MapT rt w ok b d
 len:=by rintro w ok cs d (⟨rfl,_⟩|⟨b,rfl,_⟩)<;>rfl
 one:=by rintro w ok cs d (⟨rfl,_⟩|⟨b,rfl,_⟩) v hv<;>simp at hv<;>simp[hv,Value.oneCell']
 keep:=by
  rintro w w' ok ok' cs d h (⟨rfl,h1⟩|⟨b,rfl,h1⟩)
  ·exact .inl ⟨rfl,h1⟩
  exact .inr ⟨b,rfl,h1.keep h⟩
 scal _:=rfl
 exact_ h:=ob
 exact' h:=ob
instance:NM (mf rt):=⟨rfl⟩
def oP(rt:RT α):RT (List (Value×α)) where
 n:=1
 agg:=false
 raw _:=none
 rep w ok cs d:=cs=[.bool true]∧∀x∈d,rt.val w ok x.1 x.2
 len:=by rintro w ok cs d ⟨rfl,_⟩;rfl
 one:=by rintro w ok cs d ⟨rfl,_⟩ v hv;simp at hv;simp[hv,Value.oneCell']
 keep:=by rintro w w' ok ok' cs d h ⟨rfl,h1⟩;exact⟨rfl,fun x hx=>rt.val_keep h (h1 x hx)⟩
 scal _:=rfl
 exact_ h:=ob
 exact' h:=ob
def Fy{α:Type}{rt:RT α}{w:World}{ok:Ok}{k:List UInt8}:∀{kvs:List (List UInt8×Value)} {d:List (List UInt8×α)},kvs.length=d.length→(∀i (h1:i<kvs.length) (h2:i<d.length),kvs[i].1=d[i].1∧rt.val w ok kvs[i].2 d[i].2)→
 (L7 kvs k=none∧L7 d k=none)∨∃v x,L7 kvs k=some v∧L7 d k=some x∧rt.val w ok v x
 | [],[],_,_=>.inl ⟨rfl,rfl⟩
 | [],_::_,h,_=>by simp at h
 | _::_,[],h,_=>by simp at h
 | p::kvs,q::d,h,hh=>by
  obtain⟨h1,h2⟩:=hh 0 Sp Sp;simp only[Fk]at h1 h2;by_cases e:p.1=k;refine .inr ⟨p.2,q.2,?_,?_,h2⟩;unfold L7;rw[List.find?_cons_of_pos Lm];rfl;unfold L7;rw[List.find?_cons_of_pos (by simpa[←h1]using e)];rfl;have:=Fy (k:=k) (kvs:=kvs) (d:=d) PW (fun i q1 q2=>by have:=hh (i+1) (by simpa using q1) (by simpa using q2);simpa using this)
  unfold L7 at this⊢;rw[List.find?_cons_of_neg Lm,List.find?_cons_of_neg (by simpa[←h1]using e)];exact this
section
variable{kt et:TypeId}
def wE{d:Nat}(hd:Nat.blt d cx.n=true)(hf:fb d st.slots=true):
 OS P cx ⟨some d,.makeMap T none,ty,pos,aft,gd⟩ st ⟨(d,.mref d)::st.slots,(d,⟨pd,[[]]⟩)::st.heap⟩:=by
 rintro a w ⟨β,hi⟩ Q;have hrun:(execOp a.eval ⟨some d,.makeMap T none,ty,pos,aft,gd⟩).run P w=.ok (.value (.map (some w.heap.size))) (w.alloc (.map #[] 0)):=by simp[execOp,Go.RowKit.run_makeMap]
 unfold Oper.wp;rw[hrun,Oper.upon_value];have hb:Below w.heap.size w (w.alloc (.map #[] 0)):=(Below.refl _ _).alloc (Kl _) _;have:=hi.fresh (nm:=d) (hb0:=⟨pd,[[]]⟩) (l:=some (w.heap.size,0)) hf hb (fun x h=>by injection h with h;subst h;exact⟨Kl _,Sp⟩)
  ⟨fun h=>by simp[pd]at h,fun _=>⟨[],.map #[] 0,rfl,heap_alloc_new w _,⟨#[],0,rfl,rfl⟩⟩⟩
 exact⟨_,this.put PX ⟨w.heap.size,0,Sp,rfl⟩⟩
def HO(hi:InvB cx st β a w)(hx:Ev st x (.mref nm))(hn:aG st.heap nm=some ⟨pd,[kvs]⟩):
 ∃b of obj,β nm=some (b,of)∧a.eval x=.map (some b)∧w.heap[b]?=some obj∧Q7 obj kvs:=by obtain⟨b,of,h1,h2⟩:=hi.ev hx;have hr:=hi.rows nm _ hn;rw[h1]at hr;obtain⟨D,obj,h3,h4,h5⟩:=hr.2 rfl;injection h3 with h3 _;subst h3;exact⟨b,of,obj,h1,h2,h4,h5⟩
def Z10{obj:Obj}{z:Value}(hT:P.underlying T=some (.map kt et))(hK:P.underlying kt=some .string)(hz:(zeroValue et).run P w=.ok z w)(hb:w.heap[b]?=some obj)(hS:Q7 obj kvs):
 (Instr.lookup T (.map (some b)) (e6 key) true).run P w=.ok (.tuple #[(L7 kvs key).getD z,.bool (L7 kvs key).isSome]) w:=by
 obtain⟨es,clock,rfl,he⟩:=hS;obtain⟨r,h1,h2⟩:=zP (k:=key) (i:=0) he;have hc:∀e,(Instr.checkKey e 10000 kt (e6 key)).run P w=.ok () w:=fun e=>by exact W5
 have hf:(Instr.findKey kt (e6 key) es.toList).run P w=.ok r w:=by simp[Instr.findKey,run_underlying hK,h1]
 simp only[Instr.lookup,Sem.run_bind,run_underlying hT,Result.andThen_ok,MapKept.run_getObj_map hb,Sem.run_pure,hc,hf];cases r with
 | none=>rw[←h2];simp[hz]
 | some p=>rw[←h2];simp
def yv{z:α}(hT:P.underlying T=some (.map kt et))(hK:P.underlying kt=some .string)(hz:TyZero P et rt z)(hx:Ev st x (.tv (mf rt) d))(hy:Ev st y (.raw (e6 key))):
 aH P cx st ⟨dst,.lookup T x y true,ty,pos,aft,gd⟩ (.tup2 (SV.of rt ((L7 d key).getD z)) (.raw (.bool (L7 d key).isSome))):=
 bz fun st' hag β a w hi=>by
 obtain⟨cs,h1,h2⟩:=hi.ev (hag.ev aT hx);have hyv:=hi.raw (hag.ev aT hy);obtain⟨zv,hz1,hz2⟩:=jw hz w;rcases h1 with⟨rfl,rfl⟩|⟨b,rfl,hb,obj,kvs,h3,h4,h5,h6⟩;have h2:a.eval x=.map none:=h2;have hc:∀e,(Instr.checkKey e 10000 kt (e6 key)).run P w=.ok () w:=fun e=>by exact W5
 have hf:(Instr.findKey kt (e6 key) []).run P w=.ok none w:=by simp[Instr.findKey,run_underlying hK,Instr.findNow]
 exact⟨.tuple #[zv,.bool false],by simp[execOp,h2,hyv,Instr.lookup,run_underlying hT,hc,hf,hz1],_,_,rfl,jz (hz2 _ _),rfl⟩;have h2:a.eval x=.map (some b):=h2;exact TY
def HJ{u:Operand}(hT:P.underlying T=some (.map kt et))(hK:P.underlying kt=some .string)(hx:Ev st x (.mref nm))(hn:aG st.heap nm=some ⟨pd,[kvs]⟩)(hy:Ev st y (.raw (e6 key)))(hu:Ev st u (.raw v))(habs:L7 kvs key=none):
 OS P cx ⟨none,.mapUpdate T x y u,ty,pos,aft,gd⟩ st ⟨st.slots,(nm,⟨pd,[kvs++[(key,v)]]⟩)::st.heap⟩:=by
 rintro a w ⟨β,hi⟩ Q;obtain⟨b,of,obj,h1,h2,h3,es,clock,rfl,he⟩:=HO hi hx hn;have hyv:=hi.raw hy;have huv:=hi.raw hu;obtain⟨r,g1,g2⟩:=zP (k:=key) (i:=0) he;rw[habs]at g2;have g2:r=none:=by cases r with|none=>rfl|some p=>cases g2
 subst g2;have hc:∀e,(Instr.checkKey e 10000 kt (e6 key)).run P w=.ok () w:=fun e=>by exact W5
 have hf:(Instr.findKey kt (e6 key) es.toList).run P w=.ok none w:=by simp[Instr.findKey,run_underlying hK,g1]
 have hrun:(Instr.mapUpdate T (.map (some b)) (e6 key) v).run P w=.ok () (setBlock w b (.map (es.push {key:=e6 key,val:=v,born:=clock}) (clock+1))):=by simp[Instr.mapUpdate,run_underlying hT,MapKept.run_getObj_map h3,hc,hf,MapKept.run_setObj_map _ h3,Result.andThen,setBlock]
 unfold Oper.wp;simp only[execOp,h2,hyv,huv,Sem.run_bind,hrun,Result.andThen_ok];have hbs:b<w.heap.size:=(Gm.1 h3).1;refine⟨β,InvB.turnMap (rt':=pd) (xs':=[kvs++[(key,v)]]) hi hn h1 h3 (fun _ _ _ e=>by cases e) (z65 w (.inl rfl)) fun ok=>⟨fun h=>by simp[pd]at h,fun _=>⟨_,.map (es.push {key:=e6 key,val:=v,born:=clock}) (clock+1),rfl,by simp[setBlock,hbs],⟨_,_,rfl,?_⟩⟩⟩⟩;rw[Array.toList_push,ll,he,ll];rfl
def EK(nm i:Nat)(hp:List (Nat×HB))(hs:bg st.slots i=some (.lnk (.mref nm) (.bool true) (.tv (oP rt) es)))(hn:aG st.heap nm=some ⟨pd,[kvs]⟩)(hk:kvs.map (·.2)=es.map (·.1))(hd:d.map (·.1)=kvs.map (·.1))(hd2:d.map (·.2)=es.map (·.2))
 (hsub:∀j s,aG hp j=some s→aG st.heap j=some s) (hno:aG hp nm=none) (h:J P cx ⟨(i,.tv (mf rt) d)::st.slots,hp⟩ c k):J P cx st c k:=by
 rintro a w ⟨β,hi⟩;obtain⟨v,h1,⟨b,of,h2,h3⟩,cs,⟨_,h4⟩,_⟩:=hi.slots i _ hs;have hr:=hi.rows nm _ hn;rw[h2]at hr;obtain⟨D,obj,h5,h6,h7⟩:=hr.2 rfl;injection h5 with h5 _;subst h5;have hb2:InvB cx ⟨st.slots,hp⟩ β a w:=hi.toHeap hsub;refine h a w ⟨β,hb2.below,hb2.old,hb2.defers,hb2.size,hb2.own,hb2.sep,hb2.rows,fun q s hq=>?_⟩;rw[bC]at hq;split at hq;rename_i e;subst e;injection hq with hq;subst hq;refine⟨v,h1,[.map (some b)],.inr ⟨b,rfl,?_⟩,h3⟩;have hown:=hi.own nm _ hn _ h2;have hok:∀q,bY cx st.heap β w q→bY cx hp β w q∧w.heap[q]?=w.heap[q]?:=fun q hq=>⟨⟨hq.1,hq.2.1,fun k x hk=>hq.2.2 k x (hsub k x hk)⟩,rfl⟩;refine⟨⟨.inr hown.1,hown.2,fun k x hk y hy e=>?_⟩,obj,kvs,h6,h7,?_,fun i q1 q2=>⟨?_,?_⟩⟩;have:=hi.sep k nm _ _ (hsub k x hk) hn y _ hy h2 e;subst this;rw[hno]at hk;cases hk;have:=congrArg List.length hd;simpa using this.symm;exact VG;have e1:=congrArg (fun l=>l[i]?) hk;have e2:=congrArg (fun l=>l[i]?) hd2;simp only[cr,RY q1,RY q2,Lf]at e1 e2;cases hx:es[i]? with
 | none=>rw[hx]at e1;cases e1
 | some x=>rw[hx]at e1 e2;simp only[Lf,Option.some.injEq]at e1 e2;rw[e1,e2];exact rt.val_keep hok (h4 x (nL hx))
 exact hb2.slots q s hq
def adU(j:Nat){x:α}(hj:bg st.slots j=some (.tv rt x))(h:∀v,JG P cx ops ⟨(j,.both (.tv rt x) v)::st.slots,st.heap⟩ l k):JG P cx ops st l k:=fun a w ⟨β,hb⟩=>by obtain⟨v,h1,h2⟩:=hb.slots j _ hj;refine h v a w ⟨β,hb.below,hb.old,hb.defers,hb.size,hb.own,hb.sep,hb.rows,fun q t hq=>?_⟩;rw[bC]at hq;split at hq;rename_i e;subst e;injection hq with hq;subst hq;exact⟨v,h1,h2,rfl⟩;exact hb.slots q t hq
def EN(i:Nat)(rt:RT α)(hs:bg st.slots i=some s)(h:J P cx ⟨(i,.lnk s (.bool true) (.tv (oP rt) []))::st.slots,st.heap⟩ c k):J P cx st c k:=fun a w ⟨β,hb⟩=>
 h a w ⟨β,hb.turnS hs fun v hv=>⟨hv,[.bool true],⟨rfl,fun x hx=>by cases hx⟩,rfl⟩⟩
def adV(i j:Nat){x:α}(hs:bg st.slots i=some (.lnk s (.bool true) (.tv (oP rt) es)))(hj:bg st.slots j=some (.both (.tv rt x) v))(h:JG P cx ops ⟨(i,.lnk s (.bool true) (.tv (oP rt) (es++[(v,x)])))::st.slots,st.heap⟩ l k):JG P cx ops st l k:=fun a w ⟨β,hb⟩=>by obtain⟨u,_,g1,g2⟩:=hb.slots j _ hj;subst g2;refine h a w ⟨β,hb.turnS hs fun y hy=>⟨hy.1,?_⟩⟩;obtain⟨cs,⟨e1,e2⟩,e3⟩:=hy.2;refine⟨cs,⟨e1,fun z hz=>?_⟩,e3⟩;rcases Nx.1 hz with hz|hz;exact e2 z hz;rw[J0.1 hz];exact g1
def ty4(i j:Nat){x:α}(hr:rt.raw x=some v)(hag:rt.agg=false)(hs:bg st.slots i=some (.lnk s (.bool true) (.tv (oP rt) es)))(h:JG P cx ops ⟨(i,.lnk s (.bool true) (.tv (oP rt) (es++[(v,x)])))::st.slots,st.heap⟩ l k):JG P cx ops st l k:=fun a w ⟨β,hb⟩=>by refine h a w ⟨β,hb.turnS hs fun y hy=>⟨hy.1,?_⟩⟩;obtain⟨cs,⟨e1,e2⟩,e3⟩:=hy.2;refine⟨cs,⟨e1,fun z hz=>?_⟩,e3⟩;rcases Nx.1 hz with hz|hz;exact e2 z hz;rw[J0.1 hz];exact⟨[v],rt.exact' hr,by rw[hag];rfl⟩
def Al{l:List (List UInt8×γ)}:L7 l key=none↔key∉l.map (·.1):=by unfold L7;rw[Option.map_eq_none_iff,List.find?_eq_none,Nr];constructor;rintro h ⟨p,hp,e⟩;exact h p hp Lm;intro h p hp e;exact h ⟨p,hp,Lm⟩
def byd{l:List (List UInt8×γ)}:(L7 l key).isSome=true↔key∈l.map (·.1):=by
 cases h:L7 l key with
 | none=>have:=Al.1 h;simp[this]
 | some x=>simp only[Option.isSome_some,true_iff];by_cases q:key∈l.map (·.1);exact q;rw[Al.2 q]at h;cases h
def scE(hk:kvs.map (·.2)=es.map (·.1))(hd:d.map (·.1)=kvs.map (·.1))(hd2:d.map (·.2)=es.map (·.2))(h4:∀x∈es,rt.val w ok x.1 x.2):
 kvs.length=d.length∧∀i (h1:i<kvs.length) (h2:i<d.length),kvs[i].1=d[i].1∧rt.val w ok kvs[i].2 d[i].2:=by
 refine⟨by have:=congrArg List.length hd;simpa using this.symm,fun i q1 q2=>⟨?_,?_⟩⟩;exact VG;have e1:=congrArg (fun l=>l[i]?) hk;have e2:=congrArg (fun l=>l[i]?) hd2;simp only[cr,RY q1,RY q2,Lf]at e1 e2;cases hx:es[i]? with
 | none=>rw[hx]at e1;cases e1
 | some x=>rw[hx]at e1 e2;simp only[Lf,Option.some.injEq]at e1 e2;rw[e1,e2];exact h4 x (nL hx)
def yw{z:α}(hT:P.underlying T=some (.map kt et))(hK:P.underlying kt=some .string)(hz:TyZero P et rt z)(hx:evS st x=some (.lnk (.mref nm) (.bool true) (.tv (oP rt) es)))(hn:aG st.heap nm=some ⟨pd,[kvs]⟩)(hk:kvs.map (·.2)=es.map (·.1))(hd:d.map (·.1)=kvs.map (·.1))(hd2:d.map (·.2)=es.map (·.2))(hy:Ev st y (.raw (e6 key))):
 aH P cx st ⟨dst,.lookup T x y true,ty,pos,aft,gd⟩ (.tup2 (SV.of rt ((L7 d key).getD z)) (.raw (.bool (L7 d key).isSome))):=
 bz fun st' hag β a w hi=>by have hx':=hag.ev aT (.base hx);obtain⟨b,of,obj,h1,h2,h3,h4⟩:=HO hi (hag.ev aT (.l1 hx)) ((hag.look aT (.l1 hx) Pa).trans hn);have hyv:=hi.raw (hag.ev aT hy);obtain⟨_,cs,⟨_,e2⟩,_⟩:=hi.ev hx';obtain⟨h5,h6⟩:=scE hk hd hd2 e2;obtain⟨zv,hz1,hz2⟩:=jw hz w;exact TY
end
end
end Go.Eng
