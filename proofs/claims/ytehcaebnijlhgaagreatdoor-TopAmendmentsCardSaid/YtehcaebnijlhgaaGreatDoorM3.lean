import Derived.Laws.StructEq
import Derived.Sort.Grow
import Derived.Test.YtehcaebnijlhgaaGreatDoorM2
set_option linter.all false
set_option maxRecDepth 100000
set_option maxHeartbeats 9000000
namespace Go.Eng
variable{F:List Int→List Int}{Ns Rs:List (List Nat)}{P:Program}{R:List Nat}{T e t ty yt:TypeId}{α γ:Type}{a rt:RT α}{aft:Array Edge}{by_ d d0 f g i j n nm off:Nat}{c0 want:Bool}{cx:Cx}{dst:Option Tmp}{fn:Func}{fs:List Field}{gd:Option (Nat×Bool)}{get:α→γ}{hb:HB}{hp:List (Nat×HB)}{k:Kn}{kf:FuncId}{kk:IntKind}{l rest:List Oper}{m:List Int→Option Nat}{o:Op}{ok:Ok}{ops:Array Oper}{p q r:Prop}{pos:String}{rt':RT γ}{set:α→γ→α}{ts:Array TypeId}{v x y:Operand}{w w':World}{xs ys:List α}{z:α}{β:Loc}{φ:α→Prop}
section
variable{st st':St}{a:Act}{c:Code}
def bQ(nm:Nat):List (Nat×HB)→List (Nat×HB)
 | []=>[]
 | (i,s)::r=>bif Nat.beq i nm then bQ nm r else(i,s)::bQ nm r
def lO(nm:Nat):∀(l:List (Nat×HB)) (j:Nat),aG (bQ nm l) j=if j=nm then none else aG l j
 | [],j=>by simp[bQ,aG]
 | (i,s)::r,j=>by
  rw[show bQ nm ((i,s)::r)=bif Nat.beq i nm then bQ nm r else(i,s)::bQ nm r from rfl];by_cases h:i=nm;subst h;simp only[Nat.beq_refl,cond_true,lO i r,bA];by_cases e:j=i;simp[e];rw[zE e,zE e,zE (Ne.symm e)];have:Nat.beq i nm=false:=by cases hb:Nat.beq i nm with|false=>rfl|true=>exact absurd (OR hb) h
  simp only[this,cond_false,bA,lO nm r];by_cases e:i=j;subst e;simp[h];simp[e]
def a6(nm:Nat)(l:List (Nat×HB)):∀j s,aG (bQ nm l) j=some s→aG l j=some s:=fun j s h=>by rw[lO]at h;split at h;cases h;exact h
def bm(nm:Nat)(l:List (Nat×HB)):aG (bQ nm l) nm=none:=by rw[lO];simp
def InvB.sub(h:Sub st st')(hb:InvB cx st β a w):InvB cx st' β a w:=by have hok:∀b,bY cx st.heap β w b→bY cx st'.heap β w b∧w.heap[b]?=w.heap[b]?:=fun b ⟨h1,h2,h3⟩=>⟨⟨h1,h2,fun nm hb hh=>h3 nm hb (h.heap _ _ hh)⟩,rfl⟩;refine⟨hb.below,hb.old,hb.defers,hb.size,fun nm x hx=>hb.own nm x (h.heap _ _ hx),fun nm nm' x y hx hy=>hb.sep nm nm' x y (h.heap _ _ hx) (h.heap _ _ hy),fun nm x hx=>HB.keep hok (fun _ _=>rfl) (hb.rows nm x (h.heap _ _ hx)),fun i s hs=>?_⟩;exact VX
def InvB.toHeap{sl:List (Nat×SV)}{hp':List (Nat×HB)}(hb:InvB cx ⟨sl,hp⟩ β a w)(h:∀i s,aG hp' i=some s→aG hp i=some s):InvB cx ⟨sl,hp'⟩ β a w:=
 InvB.sub (st:=⟨sl,hp⟩) (st':=⟨sl,hp'⟩) ⟨fun _ _ h=>h,h⟩ hb
def Ah[NM rt]{b o:Nat}(h1:1≤rt.n)(hc:∀i x,ys[i]?=some x→∃cs,rt.rep w ok cs x∧CellsAt w b (o+i*rt.n) cs):
 ∃news:List Value,news.length=ys.length*rt.n∧(∀q u,news[q]?=some u→w.cell? ⟨b,o+q,none⟩=some u)∧(∀u∈news,u.oneCell'=true)∧
  ∀i x,ys[i]?=some x→∃cs,rt.rep w ok cs x∧∀j u,cs[j]?=some u→news[i*rt.n+j]?=some u:=by
 have key:∀q,q<ys.length*rt.n→∃u,w.cell? ⟨b,o+q,none⟩=some u∧u.oneCell'=true:=by
  intro q hq;have hi:q/rt.n<ys.length:=(GG h1).2 hq;obtain⟨cs,h2,h3⟩:=hc (q/rt.n) ys[q/rt.n] (RY hi);have hl:=rt.len h2;have hj:q%rt.n<cs.length:=by rw[hl];exact Na _ h1
  refine⟨cs[q%rt.n],?_,rt.one h2 _ (aA hj)⟩;have:=h3 (q%rt.n) _ (RY hj);rw[show o+q/rt.n*rt.n+q%rt.n=o+q by have:=Nat.div_add_mod q rt.n;rw[O6]at this;omega]at this;exact this
 refine⟨(List.range (ys.length*rt.n)).map fun q=>(w.cell? ⟨b,o+q,none⟩).getD undef,Sp,fun q u hu=>?_,fun u hu=>?_,fun i x hx=>?_⟩;have hq:q<ys.length*rt.n:=by have:=(Y0.1 hu).1;simpa using this
 obtain⟨v,h2,_⟩:=key q hq;simp[hq,h2]at hu;rw[h2,hu];simp only[Nr,Lb]at hu;obtain⟨q,hq,rfl⟩:=hu;obtain⟨v,h2,h3⟩:=key q hq;rw[h2];exact h3;obtain⟨cs,h2,h3⟩:=hc i x hx;refine⟨cs,h2,fun j u hj=>?_⟩;have hl:=rt.len h2;have hjl:j<rt.n:=by rw[←hl];exact(Y0.1 hj).1
 have hil:i<ys.length:=(Y0.1 hx).1;have hlt:i*rt.n+j<ys.length*rt.n:=by have:(i+1)*rt.n≤ys.length*rt.n:=bn _ hil;rw[Qq]at this;omega
 have:=h3 j u hj;rw[qx]at this;simp[hlt,this]
def bX[NM rt]{r:List (Nat×SV)}(ks:List Nat)(ht:P.underlying t=some (.slice e))(he:Ty P e rt)(hz:TyZero P e rt z)(hn1:Nat.ble 1 rt.n=true)
 (hby:(P.info? e).map (·.bytes)=some by_) (hx:Ev st x (.own nm rt.n off n)) (hn:aG st.heap nm=some ⟨rt,xs⟩) (hle:off+n≤xs.length) (hy:Rd st y (ag rt) ys)
 (h63:n+ys.length≤maxLen) (hb:(n+ys.length)*by_≤140737488355328) (hd:Nat.blt d cx.n=true) (hk:Keep st.slots ks r) (hf:fb nm r=true):
 OS P cx ⟨some d,.call {callee:=.builtin .append,args:=#[x,y],argTypes:=#[t,t]},ty,pos,aft,gd⟩ st ⟨(d,.own nm rt.n 0 (n+ys.length))::r,(nm,⟨rt,(xs.drop off).take n++ys⟩)::st.heap⟩:=by
 rintro a w ⟨β,hi⟩ Q
 have hn1':1≤rt.n:=by simpa using hn1
 have hX:((xs.drop off).take n).length=n:=QE
 have hr:InvB cx ⟨r,st.heap⟩ β a w:=hi.sub ⟨hk.sub,fun _ _ h=>h⟩
 have hxv:Yq β w nm rt.n off n (a.eval x):=hi.ev hx
 obtain⟨ycs,⟨A',cap',rfl,hy1,hy2,hy3⟩,hyv0⟩:=hy.val hi
 have hyv:a.eval y=.slice A' ys.length cap':=by rw[hyv0];simp[ag]
 clear hyv0
 obtain⟨_,i0,hi0,hs⟩:=he
 obtain⟨i1,zv,hi1,hzv,hzval⟩:=hz
 have e0:i1=i0:=aac
 subst e0
 have hby':i1.bytes=by_:=by simpa[hi0]using hby
 have hnb:(n+ys.length)*i1.bytes≤140737488355328:=by rw[hby'];exact hb
 have hzs:zv.cells.size=rt.n:=Ze
 have hml:n+ys.length≤9223372036854775807:=by have:=h63;simp only[maxLen]at this;omega
 have fresh:∀(cs:Array Value) (cap:Nat) (w1:World),Below w.heap.size w w1→w1.heap.size=w.heap.size→n+ys.length≤cap→cap≤maxLen→cs.size=cap*rt.n→
  (∀i x,((xs.drop off).take n++ys)[i]?=some x→∃c,rt.rep w (bY cx st.heap β w) c x∧∀j u,c[j]?=some u→cs[i*rt.n+j]?=some u)→
  Inv cx ⟨(d,.own nm rt.n 0 (n+ys.length))::r,(nm,⟨rt,(xs.drop off).take n++ys⟩)::st.heap⟩ (a.put (some d) (.slice (some ⟨w.heap.size,0,none⟩) (n+ys.length) cap)) (w1.alloc (.cells cs e)):=by
  intro cs cap w1 hb1 hsz hcap hcm hcs hrep
  have h0:InvB cx ⟨r,bQ nm st.heap⟩ β a w1:=(InvB.sub (st:=⟨r,st.heap⟩) (st':=⟨r,bQ nm st.heap⟩) ⟨fun _ _ h=>h,a6 nm _⟩ hr).later hb1
  have:=h0.alloc (nm:=nm) (rt:=rt) (xs:=(xs.drop off).take n++ys) (cs:=cs) (e:=e) hf (bm nm _) (by rw[Yl,hX,hcs];exact bn _ hcap) (fun i x hix=>by
   obtain⟨c,h1,h2⟩:=hrep i x hix
   exact⟨c,rt.keep (fun b ⟨g1,g2,g3⟩=>⟨⟨g1,So,fun k h hk=>g3 k h (a6 nm _ _ _ hk)⟩,hb1.block b g2⟩) h1,h2⟩)
  have h2:=this.put (d:=d) (s:=.own nm rt.n 0 (n+ys.length)) (v:=.slice (some ⟨w.heap.size,0,none⟩) (n+ys.length) cap) PX (by
   simp only[SV.holds,Yq,Cg]
   exact⟨_,cap,rfl,hcap,hcm,.inr ⟨by simp[hsz],cs,e,_,heap_alloc_new w1 _,by simp[hcs]⟩⟩)
  refine⟨_,InvB.toHeap (hp:=(nm,⟨rt,(xs.drop off).take n++ys⟩)::bQ nm st.heap) h2 (fun i s h=>?_)⟩
  simp only[bA,lO]at h⊢
  split at h
  ·rename_i e1;rw[Cg e1];exact h
  rename_i e1;rw[zE e1,zE (Ne.symm e1)];exact h
 have cellsY:ys≠[]→∃b' o',A'=some ⟨b',o',none⟩∧∃news:List Value,news.length=ys.length*rt.n∧(∀q u,news[q]?=some u→w.cell? ⟨b',o'+q,none⟩=some u)∧(∀u∈news,u.oneCell'=true)∧
  ∀i x,ys[i]?=some x→∃cs,rt.rep w (bY cx st.heap β w) cs x∧∀j u,cs[j]?=some u→news[i*rt.n+j]?=some u:=fun hne=>by
  obtain⟨b',o',h1,_,h3⟩:=hy3 hne
  exact⟨b',o',h1,Ah hn1' h3⟩
 have oO:∀v w',(Builtin.append_ #[t,t] ty #[a.eval x,a.eval y]).run P w=.ok v w'→(execOp a.eval ⟨some d,.call {callee:=.builtin .append,args:=#[x,y],argTypes:=#[t,t]},ty,pos,aft,gd⟩).run P w=.ok (.value v) w':=fun v w' h=>by
  simp[execOp,resolve,invoke,builtin,h]
 by_cases hY:ys=[]
 ·subst hY
  simp only[FV,M6,Nk]at *
  obtain⟨A,cap,hxe⟩:=mC hxv
  have hnc:n≤cap:=by
   unfold Yq at hxv
   split at hxv
   ·omega
   obtain⟨A2,cap2,h1,h2,_⟩:=hxv
   rw[hxe]at h1;injection h1 with _ _ h1;omega
  have hrun:(Builtin.append_ #[t,t] ty #[a.eval x,a.eval y]).run P w=.ok (a.eval x) w:=by
   rw[hyv,hxe]
   cases A' with
   | none=>cases A<;>simp[Builtin.append_,run_underlying ht,sizeOf,typeInfo,hi0,Builtin.lenOf,hnc,Builtin.firstCells,storeCells]
   | some q=>cases A<;>simp[Builtin.append_,run_underlying ht,sizeOf,typeInfo,hi0,Builtin.lenOf,hnc,Builtin.firstCells,loadCells,loadCellsFrom,storeCells]
  unfold Oper.wp
  rw[oO _ _ hrun,Oper.upon_value]
  unfold Yq at hxv
  cases hb0:β nm with
  | none=>
   rw[hb0]at hxv
   obtain⟨hxv,rfl⟩:=hxv
   have hxs:xs=[]:=by have:=hi.rows nm _ hn;rw[hb0]at this;exact this
   subst hxs
   have h2:=hr.put (d:=d) (s:=.own nm rt.n 0 0) (v:=a.eval x) PX (by simp only[SV.holds,Yq,hb0];exact⟨hxv,trivial⟩)
   refine⟨β,InvB.toHeap (hp:=st.heap) h2 (fun i s h=>?_)⟩
   simp only[bA,List.take_zero]at h
   split at h
   ·rename_i e1;subst e1;injection h with h;subst h;exact hn
   exact h
  | some q=>
   obtain⟨b,o⟩:=q
   rw[hb0]at hxv
   obtain⟨A2,cap2,h1,h2,h3,h4⟩:=hxv
   obtain⟨cur,e',h5,h6,h7⟩:=jS hi hn hb0
   have hlen':o+off*rt.n+n*rt.n≤cur.size:=by
    exact WT
   have hset:=InvB.setRow (rt':=rt) (xs':=(xs.drop off).take n) (cur':=cur) (o':=o+off*rt.n) hr hn hb0 h5 rfl (.inr hf) (by rw[hX];exact hlen') (fun i x hix=>by
    have hin:i<n:=ZY
    rw[rD hin,KE]at hix
    obtain⟨cs,h8,h9⟩:=h7 _ x hix
    exact⟨cs,h8,fun j u hj=>by rw[show o+off*rt.n+i*rt.n+j=o+(off+i)*rt.n+j by rw[Qd];omega];exact h9 j u hj⟩)
   rw[setRow_self w b cur e' (0,0) h5]at hset
   refine⟨_,hset.put PX ?_⟩
   simp only[SV.holds,Yq,Cg]
   refine⟨A2,cap2,h1,h2,h3,?_⟩
   rcases h4 with h4|⟨h4,cur2,e2,fr2,h8,h9⟩
   ·exact .inl h4
   refine .inr ⟨by rw[h4];simp,cur2,e2,fr2,h8,?_⟩
   rw[Qd]at h9;simp only[N1];omega
 obtain⟨b',o',rfl,news,hn2,hn3,hn4,hn5⟩:=cellsY hY
 have hpos:0<ys.length:=N9.2 hY
 have hn3':∀j v,news[j]?=some v→w.cell? ((⟨b',o',none⟩:Addr).add j)=some v:=fun j v hj=>by rw[Addr.add_lit];exact hn3 j v hj
 unfold Yq at hxv
 have fromNil:n=0→a.eval x=.slice none 0 0→(execOp a.eval ⟨some d,.call {callee:=.builtin .append,args:=#[x,y],argTypes:=#[t,t]},ty,pos,aft,gd⟩ |>.run P w) =
  .ok (.value (.slice (some ⟨w.heap.size,0,none⟩) (n+ys.length) (grownCap w ys.length 0 e))) (w.drew.alloc (.cells (news.toArray++Builtin.zeroCells zv.cells (grownCap w ys.length 0 e-ys.length)) e)):=fun h0 hx0=>by
  subst h0
  refine oO _ _ ?_
  rw[hx0,hyv,N1]
  exact run_append_nil (P:=P) w t ty e i1 zv ht hi0 hzv ⟨b',o',none⟩ ys.length cap' news (by rw[hn2,hs]) hn3' hpos So (by have h:=hnb;rw[N1]at h;omega)
 have grow:∀(ad:Addr) (cap:Nat) (olds:List Value),a.eval x=.slice (some ad) n cap→cap<n+ys.length→olds.length=n*rt.n→(∀j v,olds[j]?=some v→w.cell? (ad.add j)=some v)→
  (execOp a.eval ⟨some d,.call {callee:=.builtin .append,args:=#[x,y],argTypes:=#[t,t]},ty,pos,aft,gd⟩ |>.run P w) =
  .ok (.value (.slice (some ⟨w.heap.size,0,none⟩) (n+ys.length) (grownCap w (n+ys.length) cap e))) (w.drew.alloc (.cells (olds.toArray++news.toArray++Builtin.zeroCells zv.cells (grownCap w (n+ys.length) cap e-(n+ys.length))) e)):=fun ad cap olds hx0 hc ho1 ho2=>by
  refine oO _ _ ?_
  rw[hx0,hyv]
  exact run_append_grow (P:=P) w t ty e i1 zv ht hi0 hzv ad n cap olds (by rw[ho1,hs]) ho2 ⟨b',o',none⟩ ys.length cap' news (by rw[hn2,hs]) hn3' hc So (growslice_fits So hnb)
 have endFresh:∀(olds:List Value) (cap:Nat),olds.length=n*rt.n→n+ys.length≤cap→cap≤maxLen→
  (∀i x,((xs.drop off).take n)[i]?=some x→∃c,rt.rep w (bY cx st.heap β w) c x∧∀j u,c[j]?=some u→olds[i*rt.n+j]?=some u)→
  Inv cx ⟨(d,.own nm rt.n 0 (n+ys.length))::r,(nm,⟨rt,(xs.drop off).take n++ys⟩)::st.heap⟩ (a.put (some d) (.slice (some ⟨w.heap.size,0,none⟩) (n+ys.length) cap)) (w.drew.alloc (.cells (olds.toArray++news.toArray++Builtin.zeroCells zv.cells (cap-(n+ys.length))) e)):=by
  intro olds cap ho1 hc hcm ho2
  refine fresh _ cap w.drew (Below.drew' w) rfl hc hcm ?_ (fun i x hix=>?_)
  ·simp only[Array.size_append,afl,size_zeroCells,hzs,ho1,hn2,←Qd]
   congr 1;omega
  have hget:∀q,q<(n+ys.length)*rt.n→(olds.toArray++news.toArray++Builtin.zeroCells zv.cells (cap-(n+ys.length)))[q]?=(olds++news)[q]?:=by
   intro q hq
   rw[Gn (by simp only[Array.size_append,afl,ho1,hn2,←Qd];exact hq)]
   simp
  rcases Qa i n with h|h
  ·rw[NH So]at hix
   obtain⟨cs,h1,h2⟩:=ho2 i x hix
   refine⟨cs,h1,fun j u hj=>?_⟩
   have h3:=h2 j u hj
   have h4:=(Y0.1 h3).1
   rw[hget _ (by rw[ho1]at h4;rw[Qd];omega),NH h4]
   exact h3
  rw[l9 So,hX]at hix
  obtain⟨cs,h1,h2⟩:=hn5 (i-n) x hix
  refine⟨cs,h1,fun j u hj=>?_⟩
  have h3:=h2 j u hj
  have h4:=(Y0.1 h3).1
  have h5:i*rt.n=n*rt.n+(i-n)*rt.n:=by rw[←Qd];congr 1;omega
  rw[hget _ (by rw[hn2]at h4;rw[Qd];omega),l9 (by rw[ho1];omega),ho1,show i*rt.n+j-n*rt.n=(i-n)*rt.n+j by omega]
  exact h3
 unfold Oper.wp
 cases hb0:β nm with
 | none=>
  rw[hb0]at hxv
  obtain⟨hx0,h0⟩:=hxv
  rw[fromNil h0 hx0,Oper.upon_value]
  have:=endFresh [] (grownCap w ys.length 0 e) (by simp[h0]) (by rw[h0,N1];exact grownCap_ge w _ _ _) (grownCap_le_maxLen w _ _ _ So) (fun i x hix=>by rw[h0]at hix;simp at hix)
  rw[h0,N1]at this⊢
  simpa using this
 | some q=>
  obtain⟨b,o⟩:=q
  rw[hb0]at hxv
  obtain⟨A,cap,hx0,h2,h3,h4⟩:=hxv
  obtain⟨cur,e',h5,h6,h7⟩:=jS hi hn hb0
  have hnle:o+off*rt.n+n*rt.n≤cur.size:=by
   exact WT
  rcases h4 with⟨rfl,rfl⟩|⟨h4,cur2,e2,fr2,h8,h9⟩
  ·cases A with
   | none=>
    rw[fromNil rfl hx0,Oper.upon_value]
    have:=endFresh [] (grownCap w ys.length 0 e) Sp (by rw[N1];exact grownCap_ge w _ _ _) (grownCap_le_maxLen w _ _ _ So) (fun i x hix=>by simp at hix)
    rw[N1]at this⊢
    simpa using this
   | some ad=>
    rw[grow ad 0 [] hx0 So Sp (fun j v hj=>by simp at hj),Oper.upon_value]
    exact endFresh [] _ Sp (grownCap_ge w _ _ _) (grownCap_le_maxLen w _ _ _ h63) (fun i x hix=>by simp at hix)
  subst h4
  rw[h5]at h8
  injection h8 with h8
  injection h8 with h8 _ _
  subst h8
  by_cases hroom:n+ys.length≤cap
  ·have hsm:o+off*rt.n+n*rt.n+ys.length*rt.n≤cur.size:=by
    have:(n+ys.length)*rt.n≤cap*rt.n:=bn _ hroom
    rw[Qd]at this h9;omega
   have hst:=run_storeCells_at P b (o+off*rt.n+n*rt.n) e' news 0 cur w h5 (by rw[hn2];omega) hn4
   simp only[M6,hn2]at hst
   have hf2:=run_firstCells_some (P:=P) w rt.n ys.length ⟨b',o',none⟩ ys.length cap' news hn2 hn3'
   have hrun:(Builtin.append_ #[t,t] ty #[a.eval x,a.eval y]).run P w=.ok (.slice (some ⟨b,o+off*rt.n,none⟩) (n+ys.length) cap) (w.setRow b (cur.toList.take (o+off*rt.n+n*rt.n)++news++cur.toList.drop (o+off*rt.n+n*rt.n+ys.length*rt.n)).toArray):=by
    rw[hx0,hyv]
    simp[Builtin.append_,run_underlying ht,sizeOf,typeInfo,hi0,Builtin.lenOf,hroom,hs,hf2,Addr.add_lit,hst]
   rw[oO _ _ hrun,Oper.upon_value]
   have hcl:cur.toList.length=cur.size:=Sp
   have hset:=InvB.setRow (rt':=rt) (xs':=(xs.drop off).take n++ys) (cur':=(cur.toList.take (o+off*rt.n+n*rt.n)++news++cur.toList.drop (o+off*rt.n+n*rt.n+ys.length*rt.n)).toArray) (o':=o+off*rt.n) hr hn hb0 h5 (by simp[hn2];omega) (.inr hf) (by rw[Yl,hX,Qd];simp[hn2];omega) (fun i x hix=>by
    have hget1:∀q,q<o+off*rt.n+n*rt.n→(cur.toList.take (o+off*rt.n+n*rt.n)++news++cur.toList.drop (o+off*rt.n+n*rt.n+ys.length*rt.n)).toArray[q]?=cur[q]?:=fun q hq=>by
     rw[Jq,F3,NH QE,rD hq];simp
    have hget2:∀q,q<ys.length*rt.n→(cur.toList.take (o+off*rt.n+n*rt.n)++news++cur.toList.drop (o+off*rt.n+n*rt.n+ys.length*rt.n)).toArray[o+off*rt.n+n*rt.n+q]?=news[q]?:=fun q hq=>by
     have e1:(cur.toList.take (o+off*rt.n+n*rt.n)).length=o+off*rt.n+n*rt.n:=QE
     rw[Jq,F3,l9 So,e1,NH So]
     congr 1;omega
    rcases Qa i n with h|h
    ·rw[NH So,rD h,KE]at hix
     obtain⟨cs,g1,g2⟩:=h7 _ x hix
     refine⟨cs,g1,fun j u hj=>?_⟩
     have hjl:j<rt.n:=by rw[←rt.len g1];exact(Y0.1 hj).1
     have:(i+1)*rt.n≤n*rt.n:=bn _ h
     rw[Qq]at this
     rw[hget1 _ So,show o+off*rt.n+i*rt.n+j=o+(off+i)*rt.n+j by rw[Qd];omega]
     exact g2 j u hj
    rw[l9 So,hX]at hix
    obtain⟨cs,g1,g2⟩:=hn5 (i-n) x hix
    refine⟨cs,g1,fun j u hj=>?_⟩
    have g3:=g2 j u hj
    have g4:=(Y0.1 g3).1
    have g5:i*rt.n=n*rt.n+(i-n)*rt.n:=by rw[←Qd];congr 1;omega
    rw[show o+off*rt.n+i*rt.n+j=o+off*rt.n+n*rt.n+((i-n)*rt.n+j)by omega,hget2 _ So]
    exact g3)
   refine⟨_,hset.put PX ?_⟩
   simp only[SV.holds,Yq,Cg]
   refine⟨_,cap,rfl,hroom,h3,.inr ⟨Sp,_,_,_,setRow_heap _ _ _ _ _ _ h5,?_⟩⟩
   rw[Qd]at h9
   simp only[N1,afl,Yl,KC,PS,hcl,hn2]
   omega
  have ho2:∀i x,((xs.drop off).take n)[i]?=some x→∃cs,rt.rep w (bY cx st.heap β w) cs x∧CellsAt w b (o+off*rt.n+i*rt.n) cs:=fun i x hix=>by
   have hin:i<n:=ZY
   rw[rD hin,KE]at hix
   obtain⟨cs,g1,g2⟩:=h7 _ x hix
   refine⟨cs,g1,fun j u hj=>?_⟩
   rw[show o+off*rt.n+i*rt.n+j=o+(off+i)*rt.n+j by rw[Qd];omega]
   have:=g2 j u hj
   simp[World.cell?,h5,this]
  obtain⟨olds,g1,g2,_,g4⟩:=Ah hn1' ho2
  rw[hX]at g1
  rw[grow ⟨b,o+off*rt.n,none⟩ cap olds hx0 So g1 (fun j v hj=>by rw[Addr.add_lit];exact g2 j v hj),Oper.upon_value]
  exact endFresh olds _ g1 (grownCap_ge w _ _ _) (grownCap_le_maxLen w _ _ _ h63) g4
end
section
variable{st st':St}{a:Act}{c:Code}
def aq[NM rt][NM rt']{ad:Nat}{y:α}(ht:Ty P t rt')(hs:bg st.slots ad=some (.optr nm rt.n i f))(hn:aG st.heap nm=some ⟨rt,xs⟩)(hy:xs[i]?=some y)(hl:Lens rt f rt' get set):
 xA P cx st (.cell ad t) (SV.of rt' (get y)):=fun β a w hi=>by obtain⟨v,h1,b,o,h2,h3⟩:=hi.slots ad _ hs;obtain⟨cs,h4,h5⟩:=nE (jS hi hn h2) hy hl;obtain⟨u,h6,h7⟩:=gA (P:=P) ht h4 h5;exact⟨u,by simp[pR,h1,h3,asAddr,h6],jz h7⟩
def wo(rt:RT α):Prop:=∀{w w':World} {ok ok':Ok} {cs:List Value} {d:α},rt.rep w ok cs d→rt.rep w' ok' cs d
def fj(k:IntKind):wo (ay k):=fun h=>h
def gE{a:RT α}{b:RT γ}(ha:wo a)(hb:wo b):wo (bF a b):=fun⟨c1,c2,h,h1,h2⟩=>⟨c1,c2,h,ha h1,hb h2⟩
def SV.Flat(s:SV):Prop:=∀{β β':Loc} {w w':World} {ok ok':Ok} {v:Value},s.holds β w ok v→s.holds β' w' ok' v
def fh{v:Value}:(SV.raw v).Flat:=fun h=>h
def qy[NM rt]{d:α}(h:wo rt):(SV.tv rt d).Flat:=fun⟨cs,h1,h2⟩=>⟨cs,h h1,h2⟩
def pB{s0 s1:SV}(h0:s0.Flat)(h1:s1.Flat):(SV.tup2 s0 s1).Flat:=fun⟨x,y,h,k0,k1⟩=>⟨x,y,h,h0 k0,h1 k1⟩
def adE{s0 s1 s2:SV}(h0:s0.Flat)(h1:s1.Flat)(h2:s2.Flat):(SV.tup3 s0 s1 s2).Flat:=fun⟨x,y,z,h,k0,k1,k2⟩=>⟨x,y,z,h,h0 k0,h1 k1,h2 k2⟩
inductive ArgsB(st:St):List Operand→List SV→Prop
 | nil:ArgsB st [] []
 | cons {x:Operand} {s:SV} {xs:List Operand} {ss:List SV} (h:Ev st x s) (hp:s.plain=true) (hr:ArgsB st xs ss):ArgsB st (x::xs) (s::ss)
 | nilS {α:Type} {rt:RT α} {x:Operand} {xs:List Operand} {ss:List SV} (h:Ev st x (.raw (.slice none 0 0))) (hr:ArgsB st xs ss):ArgsB st (x::xs) (.tv (ag rt) []::ss)
 | lit {α:Type} {rt:RT α} {d:α} {v:Value} {x:Operand} {xs:List Operand} {ss:List SV} (h:Ev st x (.raw v)) (hv:∀w ok,rt.val w ok v d) (hr:ArgsB st xs ss):ArgsB st (x::xs) (.tv rt d::ss)
 | own {α:Type} {rt:RT α} {ds:List α} {nm off n:Nat} {x:Operand} {xs:List Operand} {ss:List SV} (h:Ev st x (.own nm rt.n off n)) (hn:aG st.heap nm=some ⟨rt,ds⟩) (hle:off+n≤ds.length) (hr:ArgsB st xs ss) (hm:rt.mp=false:=by rfl):ArgsB st (x::xs) (.tv (ag rt) ((ds.drop off).take n)::ss)
def InvB.own_lt(hi:InvB cx st β a w)(hn:aG st.heap nm=some hb){b o:Nat}(h:β nm=some (b,o)):b<w.heap.size:=(hi.own nm hb hn (b,o) h).2
def ArgsB.holds:∀{xs:List Operand} {aS:List SV},ArgsB st xs aS→∀{st':St},(∀x∈xs,evS st' x=evS st x)→(∀x∈xs,∀s nm,Ev st x s→s.free nm=false→aG st'.heap nm=aG st.heap nm)→InvB cx st' β a w→gh w (fun b=>b<w.heap.size) aS (xs.map a.eval)
 | _,_,.nil,_,_,_,_=>rfl
 | _,_,.cons (x:=x) h hp hr,st',hx,hh,hi=>
  ⟨_,_,rfl,SV.plain_keep hp (fun b hb=>⟨hb.2.1,rfl⟩) (hi.ev (h.tr (hx x Sp))),hr.holds (fun y hy=>hx y O2) (fun y hy=>hh y O2) hi⟩
 | _,_,.nilS (x:=x) h hr,st',hx,hh,hi=>
  ⟨_,_,rfl,by rw[hi.raw (h.tr (hx x Sp))];exact r6,hr.holds (fun y hy=>hx y O2) (fun y hy=>hh y O2) hi⟩
 | _,_,.lit (x:=x) h hv hr,st',hx,hh,hi=>
  ⟨_,_,rfl,by rw[hi.raw (h.tr (hx x Sp))];exact hv _ _,hr.holds (fun y hy=>hx y O2) (fun y hy=>hh y O2) hi⟩
 | _,_,.own (x:=x) h hn hle hr hm,st',hx,hh,hi=>
  have:NM _:=⟨hm⟩
  ⟨_,_,rfl,fK hi ((hh x Sp _ _ h Pa).trans hn) (hi.ev (h.tr (hx x Sp))) hle (fun _ hb=>hb.2.1) (fun _ _ hb=>hi.own_lt ((hh x Sp _ _ h Pa).trans hn) hb),hr.holds (fun y hy=>hx y O2) (fun y hy=>hh y O2) hi⟩
def rc{k:FuncId}{aS:List SV}{r:SV}{xs:List Operand}(h:Ct P k aS r)(ha:ArgsB st xs aS)(hr:r.Flat):
 aH P cx st ⟨dst,.call {callee:=.value (.func k),args:=xs.toArray,argTypes:=ts},ty,pos,aft,gd⟩ r:=by
 intro st' hag d hd hdn a w ⟨β,hi⟩ Q;have hargs:=ha.holds (cx:=cx) (β:=β) (a:=a) (w:=w) (st':=st') (fun x hx=>hag.ops x Fw) (fun x hx s nm he hf=>hag.look Fw he hf) hi;have hrun:(execOp a.eval ⟨dst,.call {callee:=.value (.func k),args:=xs.toArray,argTypes:=ts},ty,pos,aft,gd⟩).run P w=.ok (.enter k (xs.map a.eval).toArray) w:=by exact Xb
 unfold Oper.wp;rw[hrun,Oper.upon_enter];refine(h.calls w _ _ hi.okB hargs).mono ?_;rintro e w' ⟨v,rfl,hb,hv⟩;have hb:=hb.plain (fun _ h=>h);subst hd;exact⟨β,(hi.later hb).put hdn (hr hv)⟩
def te[BEq α](P:Program)(t:TypeId)(rt:RT α)(d0:Nat):Prop:=
 ∀(d:Nat) (w:World) (ok:Ok) (v1 v2:Value) (x y:α),d0≤d→rt.val w ok v1 x→rt.val w ok v2 y→(Op.equalIn d t v1 v2).run P w=.ok (x==y) w
def jc{k:IntKind}(h:P.underlying t=some (.int k)):te P t (ay k) 1:=by rintro(_|d) w ok v1 v2 x y hd ⟨_,rfl,rfl⟩⟨_,rfl,rfl⟩;omega;exact run_equalIn_int w d t k k x y h
def rP(l:List UInt8):(ByteArray.mk l.toArray).toList=l:=by rw[ByteArray.toList_eq]
def Gr(h:P.underlying t=some .string):te P t du 1:=by rintro(_|d) w ok v1 v2 x y hd ⟨_,rfl,rfl⟩⟨_,rfl,rfl⟩;omega;have:=run_equalIn_string (P:=P) w d t ⟨x.toArray⟩ ⟨y.toArray⟩ h;rw[rP,rP]at this;exact this
def EqF[BEq α](P:Program)(fs:List Field)(off:Nat)(rt:RT α)(d0:Nat):Prop:=
 ∀(d:Nat) (w:World) (ok:Ok) (xs ys:Array Value) (x y:α),d0≤d→rt.rep w ok (xs.toList.drop off) x→rt.rep w ok (ys.toList.drop off) y→(Op.eqFields d xs ys fs).run P w=.ok (x==y) w
def uk[NM rt](ht:Ty P t rt){xs:Array Value}{x:α}(h:rt.rep w ok ((xs.toList.drop off).take rt.n) x):∃v,(part t xs off).run P w=.ok v w∧rt.val w ok v x:=by
 obtain⟨⟨de,hu,hd⟩,i,hi,hs⟩:=ht;cases ha:rt.agg with
 | true=>refine⟨.agg (xs.extract off (off+rt.n)),by simp[part,ni hu,hd,ha,eM hi,hs],_,h,?_⟩;simp only[ha,if_true];congr 1;apply Array.ext';simp[List.extract_eq_take_drop]
 | false=>
  obtain⟨c,hc⟩:=um rt ha h;have hn:=rt.scal ha;have h0:xs[off]?=some c:=by
   have:((xs.toList.drop off).take rt.n)[0]?=some c:=by rw[hc];rfl
   rw[hn,rD So,KE]at this;simpa using this
  exact⟨c,by simp[part,ni hu,hd,ha,h0],[c],by rw[←hc];exact h,by simp[ha]⟩
def og[BEq α]{f:Field}[NM rt](hn:f.name≠ "_")(ho:f.offset=off)(ht:Ty P f.type rt)(he:te P f.type rt d0):EqF P [f] off rt d0:=by
 intro d w ok xs ys x y hd hx hy;have hx':rt.rep w ok ((xs.toList.drop off).take rt.n) x:=by rw[fV (Kf (rt.len hx))];exact hx
 have hy':rt.rep w ok ((ys.toList.drop off).take rt.n) y:=by rw[fV (Kf (rt.len hy))];exact hy
 obtain⟨v1,h1,h2⟩:=uk (P:=P) ht hx';obtain⟨v2,h3,h4⟩:=uk (P:=P) ht hy';have h5:=he d w ok v1 v2 x y hd h2 h4;simp only[Op.eqFields,Cg hn,ho,Sem.run_bind,h1,Result.andThen_ok,h3,h5];cases x==y<;>simp
def gS[BEq α][BEq γ]{f:Field}{off':Nat}[NM rt][NM rt'](hn:f.name≠ "_")(ho:f.offset=off)(ht:Ty P f.type rt)(he:te P f.type rt d0)(hf:EqF P fs off' rt' d0)(hoff:off'=off+rt.n):EqF P (f::fs) off (bF rt rt') d0:=by
 subst hoff;intro d w ok xs ys x y hd hx hy;obtain⟨c1,c2,hxc,hx1,hx2⟩:=hx;obtain⟨e1,e2,hyc,hy1,hy2⟩:=hy;have hl1:=rt.len hx1;have hl2:=rt.len hy1;have hx':rt.rep w ok ((xs.toList.drop off).take rt.n) x.1:=by rw[hxc,N3 So,fV So];exact hx1
 have hy':rt.rep w ok ((ys.toList.drop off).take rt.n) y.1:=by rw[hyc,N3 So,fV So];exact hy1
 have hx'':rt'.rep w ok (xs.toList.drop (off+rt.n)) x.2:=by rw[←Jd,hxc,List.drop_append,KD So,hl1,O5];exact hx2
 have hy'':rt'.rep w ok (ys.toList.drop (off+rt.n)) y.2:=by rw[←Jd,hyc,List.drop_append,KD So,hl2,O5];exact hy2
 obtain⟨v1,h1,h2⟩:=uk (P:=P) ht hx';obtain⟨v2,h3,h4⟩:=uk (P:=P) ht hy';have h5:=he d w ok v1 v2 x.1 y.1 hd h2 h4;have h6:=hf d w ok xs ys x.2 y.2 hd hx'' hy'';simp only[Op.eqFields,Cg hn,ho,Sem.run_bind,h1,Result.andThen_ok,h3,h5];have hb:(x==y)=(x.1==y.1&&x.2==y.2):=rfl;rw[hb];cases x.1==y.1;simp;simp[h6]
def lN[BEq α][NM rt](hag:rt.agg=true)(hu:P.underlying t=some (.struct (P.fieldsOf t)))(hfs:(P.fieldsOf t).toList=fs)(hp:P.stoodInHeld t=false)(hf:EqF P fs 0 rt d0):te P t rt (d0+1):=by rintro(_|d) w ok v1 v2 x y hd ⟨c1,h1,rfl⟩⟨c2,h2,rfl⟩;omega;simp only[hag,if_true];rw[run_equalIn_struct w d t _ _ hu hp,hfs];exact hf d w ok _ _ x y So LF J3
def iM[BEq α][NM rt]{p q:α}(he:te P t rt d0)(hd0:Nat.ble d0 10000=true)(hag:rt.agg=true)(hm:P.eqGuardType P.depth t=false)(hx:Rd st x rt p)(hy:Rd st y rt q):
 aH P cx st ⟨dst,.binOp .eql t x y yt,ty,pos,aft,gd⟩ (.raw (.bool (p==q))):=
 bz fun st' hag' β a w hi=>by have h1:=(hx.tr (hag'.ops x aT)).val hi;have h2:=(hy.tr (hag'.ops y aT)).val hi;have h3:=he 10000 w _ _ _ p q (by simpa using hd0) h1 h2;obtain⟨c1,_,e1⟩:=h1;obtain⟨c2,_,e2⟩:=h2;simp only[hag,if_true]at e1 e2;rw[e1,e2]at h3;exact⟨.bool (p==q),by simp[execOp,e1,e2,run_eqGuard_agg,hm,run_eql_struct,h3],rfl⟩
def oA[BEq α][NM rt]{p q:α}(he:te P t rt d0)(hd0:Nat.ble d0 10000=true)(hag:rt.agg=true)(hm:P.eqGuardType P.depth t=false)(hx:Rd st x rt p)(hy:Rd st y rt q):
 aH P cx st ⟨dst,.binOp .neq t x y yt,ty,pos,aft,gd⟩ (.raw (.bool (p != q))):=
 bz fun st' hag' β a w hi=>by have h1:=(hx.tr (hag'.ops x aT)).val hi;have h2:=(hy.tr (hag'.ops y aT)).val hi;have h3:=he 10000 w _ _ _ p q (by simpa using hd0) h1 h2;obtain⟨c1,_,e1⟩:=h1;obtain⟨c2,_,e2⟩:=h2;simp only[hag,if_true]at e1 e2;rw[e1,e2]at h3;exact⟨.bool (p != q),by simp[execOp,e1,e2,run_eqGuard_agg,hm,run_neq_struct,h3,bne],rfl⟩
def hJ[NM rt]{lo hi:Option Operand}{l h:Nat}(ht:P.underlying t=some (.slice e))(he:Ty P e rt)(hx:Ev st x (.own nm rt.n off n))
 (hlo:match lo with|none=>l=0|some y=>∃(k:IntKind) (i:Int),Ev st y (.raw (.int k i))∧i=(l:Int)) (hhi:match hi with|none=>h=n|some y=>∃(k:IntKind) (i:Int),Ev st y (.raw (.int k i))∧i=(h:Int))
 (hlh:l≤h) (hle:h≤n):aH P cx st ⟨dst,.slice t x lo hi none,ty,pos,aft,gd⟩ (.own nm rt.n (off+l) (h-l)):=
 bz fun st' hag β a w hiv=>by
 have hv:=hiv.ev (hag.ev aT hx);obtain⟨A,cap,h1⟩:=mC hv;obtain⟨_,i0,hi0,hs⟩:=he;have hnc:n≤cap:=by simp only[SV.holds,Yq]at hv;split at hv;omega;obtain⟨A2,cap2,g1,g2,_⟩:=hv;rw[h1]at g1;injection g1 with _ _ g1;omega
 have hbounds:(Instr.sliceBounds true n cap (lo.map a.eval) (hi.map a.eval) none).run P w=.ok (l,h,cap) w:=by
  have hlo':∀m,l≤m→(match lo.map a.eval with|some v=>Instr.sliceBound v m (if(none:Option Value).isSome then .slice3C else .sliceB)|none=>pure 0:Sem Nat).run P w=.ok l w:=by intro m hm;exact UY
  cases hi with
  | none=>simp at hhi;have hl':=hlo' n So;exact Wo
  | some y=>
   obtain⟨k,i,hy,hih⟩:=hhi;have h5:=hiv.raw (hag.ev (by cases lo<;>simp[Op.operands]) hy);have hb:0≤i∧i≤(cap:Int):=So;have hn:i.toNat=h:=So;have hh':(Instr.sliceBound (a.eval y) cap .sliceAcap).run P w=.ok h w:=by simp[h5,Instr.sliceBound,asIntOf,hb,hn]
   have hl':=hlo' h hlh;exact Wn
 refine⟨.slice (if cap=l then A else A.map (·.add (l*rt.n))) (h-l) (cap-l),?_,?_⟩;simp[execOp,Instr.sliceAt,run_underlying ht,h1,Instr.slice,hbounds,eM hi0,hs];simp only[SV.holds,Yq]at hv⊢;cases hb:β nm with
 | none=>rw[hb]at hv;obtain⟨hv,hn⟩:=hv;rw[h1]at hv;injection hv with hA _ hc;subst hA hc;have hl0:l=0:=So;have hh0:h=0:=So;subst hl0 hh0;simp
 | some q=>obtain⟨b,o⟩:=q;rw[hb]at hv;obtain⟨A2,cap2,g1,g2,g3,g4⟩:=hv;rw[h1]at g1;injection g1 with g1 _ g5;subst g1 g5;refine⟨_,_,rfl,So,So,?_⟩;rcases g4 with⟨g4,g5⟩|⟨g4,cur,e',fr,g5,g6⟩;exact .inl ⟨So,So⟩;by_cases hcl:cap=l;exact .inl ⟨So,So⟩;refine .inr ⟨by rw[zE hcl,g4];simp[Addr.add_lit,Qd,qx],cur,e',fr,g5,?_⟩;rw[show off+l+(cap-l)=off+cap by omega];exact g6
def Y10[NM rt](hs:bg st.slots i=some (.tv (ag rt) xs))(hi:Inv cx st a w):xs.length≤9223372036854775807:=by obtain⟨β,hb⟩:=hi;obtain⟨v,_,h2⟩:=hb.slots i _ hs;obtain⟨A,cap,_,h3,h4,_⟩:=qQ h2;simp only[maxLen]at h4;omega
def fT[NM rt](i:Nat)(hs:bg st.slots i=some (.tv (ag rt) xs))(h:xs.length≤9223372036854775807→J P cx st c k):J P cx st c k:=fun a w hi=>h (Y10 hs hi) a w hi
def AG(rt:RT α)(φ:α→Prop):Prop:=∀{w:World} {ok:Ok} {cs:List Value} {d:α},rt.rep w ok cs d→φ d
def u9[NM rt]:AG rt (fun _=>True):=fun _=>trivial
def BD{a:RT α}{b:RT γ}{ψ:γ→Prop}(ha:AG a φ)(hb:AG b ψ):AG (bF a b) (fun d=>φ d.1∧ψ d.2):=fun⟨_,_,_,h1,h2⟩=>⟨ha h1,hb h2⟩
def qz[NM rt](h:AG rt φ):AG (ag rt) (fun xs=>xs.length≤9223372036854775807∧∀x∈xs,φ x):=fun⟨A,cap,h1,h2,h3,h4⟩=>by refine⟨by simp only[maxLen]at h3;omega,fun x hx=>?_⟩;obtain⟨b,o,_,_,hc⟩:=h4 (by rintro rfl;cases hx);obtain⟨i,hi⟩:=List.getElem?_of_mem hx;obtain⟨cs,h5,_⟩:=hc i x hi;exact h h5
def sIx[NM rt]{d:α}(hf:AG rt φ)(hs:bg st.slots i=some (.tv rt d))(hi:Inv cx st a w):φ d:=by obtain⟨β,hb⟩:=hi;obtain⟨v,_,h2⟩:=hb.slots i _ hs;obtain⟨cs,h1,_⟩:rt.val w _ v d:=h2;exact hf h1
def M1[NM rt](i:Nat){d:α}(hf:AG rt φ)(hs:bg st.slots i=some (.tv rt d))(h:φ d→J P cx st c k):J P cx st c k:=fun a w hi=>h (sIx hf hs hi) a w hi
def gc{k:IntKind}{p q r:Int}(hx:Ev st x (.raw (.int k p)))(hy:Ev st y (.raw (.int k q)))(h0:q≠0)(hr:p.tmod q=r):
 aH P cx st ⟨dst,.binOp .rem t x y yt,ty,pos,aft,gd⟩ (.raw (.int k r)):=hr▸op_rem hx hy h0
def qG{p q:Int}(h0:0≤p)(h1:p≤9223372036854775807)(h2:0<q):IntKind.i64.wrap (p.tdiv q)=p/q:=by rw[Int.tdiv_eq_ediv_of_nonneg h0];have h3:0≤p/q:=Int.ediv_nonneg h0 So;have h4:p/q≤p:=Int.ediv_le_self _ h0;exact N2 So
def tk{p q:Int}(h0:0≤p):p.tmod q=p%q:=Int.tmod_eq_emod_of_nonneg h0
end
variable{s:SV}{ss:List SV}
section
variable{β:Type}
def ZR(rt:RT α)(cs:List Value)(z:α):Prop:=∀w ok,rt.rep w ok cs z
def cN(k:IntKind):ZR (ay k) [.int k 0] 0:=fun _ _=>rfl
def jds:ZR cq [.bool false] false:=fun _ _=>rfl
def gk:ZR du [.string ⟨#[]⟩] []:=fun _ _=>rfl
def bN{e:RT α}:ZR (ag e) [.slice none 0 0] []:=fun _ _=>⟨none,0,rfl,Sp,by simp[maxLen],fun h=>absurd rfl h⟩
def aX{b:RT β}{c1 c2:List Value}{z1:α}{z2:β}(h1:ZR a c1 z1)(h2:ZR b c2 z2):ZR (bF a b) (c1++c2) (z1,z2):=fun w ok=>⟨c1,c2,rfl,h1 w ok,h2 w ok⟩
def zr_one{c:List Value}(h:ZR a c z):ZR (Py a) c z:=h
def eK{cs:List Value}(hi:(P.info? t).map (·.zero)=some (some (if rt.agg then .agg cs.toArray else cs.getD 0 undef)))(h:ZR rt cs z):TyZero P t rt z:=
 TyZero.mk_ hi fun w ok=>⟨cs,h w ok,rfl⟩
def fx[BEq α]{d':Nat}(h:te P t rt d)(hd:d≤d'):te P t rt d':=fun n w ok v1 v2 x y hn=>h n w ok v1 v2 x y (wb hd hn)
def Lens.comp{δ:Type}{o1:Nat}{rt1:RT γ}{g1:α→γ}{s1:α→γ→α}{o2:Nat}{rt2:RT δ}{g2:γ→δ}{s2:γ→δ→γ}(l1:Lens rt o1 rt1 g1 s1)(l2:Lens rt1 o2 rt2 g2 s2):
 Lens rt (o1+o2) rt2 (fun d=>g2 (g1 d)) (fun d x=>s1 d (s2 (g1 d) x)) where
 fits:=by have:=l1.fits;have:=l2.fits;omega
 get_:=by
  intro w ok cs d h
  have h1:=l2.get_ (l1.get_ h)
  have:=l2.fits
  rw[List.drop_take,Jd,LV,Mh So]at h1
  exact h1
 set_:=by
  intro w ok cs d cs' d' h h'
  have h1:=l1.set_ h (l2.set_ (l1.get_ h) h')
  have hl:=rt.len h
  have f1:=l1.fits
  have f2:=l2.fits
  have hl':=rt2.len h'
  rw[LV,Mh So,List.drop_take]at h1
  refine cast ?_ h1
  congr 1
  rw[Jd,qx,show o1+(o2+rt2.n)=o1+o2+rt2.n by omega]
  have e1:cs.drop (o1+o2+rt2.n)=(cs.drop (o1+o2+rt2.n)).take (rt1.n-(o2+rt2.n))++cs.drop (o1+rt1.n):=by
   rw[show o1+rt1.n=o1+o2+rt2.n+(rt1.n-(o2+rt2.n))by omega,←Jd (i:=rt1.n-(o2+rt2.n))]
   exact(N4 _ _).symm
  have e2:cs.take (o1+o2)=cs.take o1++(cs.drop o1).take o2:=by rw[List.take_add]
  rw[e2]
  simp only[F3]
  rw[←e1]
def rb{x y:Bool}(h:x=y):SV.raw (.bool x)=SV.raw (.bool y):=by rw[h]
def ri{k:IntKind}{x y:Int}(h:x=y):SV.raw (.int k x)=SV.raw (.int k y):=by rw[h]
end
def getD_some{l:List α}(h:i<l.length):l[i]?=some (l[i]?.getD z):=by rw[RY h];rfl
section
variable{st st':St}{a:Act}{o:Oper}
abbrev Ef:=Option (Nat×SV)×Option (Nat×HB)
def St.app(st:St)(e:Ef):St:=⟨e.1.toList++st.slots,e.2.toList++st.heap⟩
structure AgrH(ops:Array Oper)(o:Oper)(R:List Nat)(st st':St):Prop where
 at_:∀t∈o.looksAt ops,bg st'.slots t=bg st.slots t
 heap:∀nm∈R,aG st'.heap nm=aG st.heap nm
def GH(P:Program)(cx:Cx)(ops:Array Oper)(st:St)(o:Oper)(ef:Ef)(R N:List Nat):Prop:=
 ∀st',AgrH ops o R st st'→(∀nm∈N,fb nm st'.slots=true∧aG st'.heap nm=none)→∀a w,Inv cx st' a w→∀Q,
  if Region.wanted o (yielded ops a.tmps)then o.wp P a w (fun a' w'=>Inv cx (st'.app ef) a' w') Q else Inv cx (st'.app ef) (a.put o.dst undef) w
def SV.within(R:List Nat):SV→Bool
 | .own k _ _ _ | .optr k _ _ _ | .mref k | .epown k _ _ _=>R.contains k
 | .both s _=>s.within R
 | .lnk s _ t=>s.within R&&t.within R
 | .fam s base _ ds=>s.within R&&(List.range ds.length).all (fun x=>R.contains (x+base))
 | .gd _ s=>s.within R
 | .tup2 a b=>a.within R&&b.within R
 | .tup3 a b c=>a.within R&&b.within R&&c.within R
 | .tup4 a b c d=>a.within R&&b.within R&&c.within R&&d.within R
 | _=>true
def SV.within_mem{R:List Nat}{nm:Nat}:∀{s:SV},s.within R=true→s.free nm=false→nm∈R
 | .own k _ _ _,h,hf | .optr k _ _ _,h,hf | .mref k,h,hf | .epown k _ _ _,h,hf=>by
  simp only[SV.free,Bool.not_eq_false']at hf
  have:=OR hf
  subst this
  simpa[SV.within]using h
 | .both s _,h,hf=>SV.within_mem (s:=s) h hf
 | .lnk a _ b,h,hf=>by
  exact VM
 | .fam s base sz ds,h,hf=>by
  simp only[SV.within,YC]at h
  simp only[SV.free,afm]at hf
  rcases hf with hf|hf
  ·exact SV.within_mem h.1 hf
  rw[afn]at hf
  obtain⟨hf1,hf2⟩:=hf
  have hge:base≤nm:=by
   rcases Qa nm base with g|g
   ·rw[lt_blt g]at hf1;cases hf1
   exact g
  have hlt:nm-base<ds.length:=by
   rcases Qa (nm-base) ds.length with g|g
   ·exact g
   rw[jp g]at hf2;cases hf2
  have:=Qe.1 h.2 (nm-base) (Lb.2 hlt)
  rw[Nat.sub_add_cancel hge]at this
  simpa using this
 | .gd _ s,h,hf=>SV.within_mem (s:=s) h hf
 | .tup2 a b,h,hf=>by
  exact VM
 | .tup3 a b c,h,hf=>by
  simp only[SV.within,YC]at h
  simp only[SV.free,afm]at hf
  rcases hf with(hf|hf)|hf
  ·exact SV.within_mem h.1.1 hf
  ·exact SV.within_mem h.1.2 hf
  exact SV.within_mem h.2 hf
 | .tup4 a b c d,h,hf=>by
  simp only[SV.within,YC]at h
  simp only[SV.free,afm]at hf
  rcases hf with((hf|hf)|hf)|hf
  ·exact SV.within_mem h.1.1.1 hf
  ·exact SV.within_mem h.1.1.2 hf
  ·exact SV.within_mem h.1.2 hf
  exact SV.within_mem h.2 hf
def Ee(st:St)(o:Oper)(R:List Nat):Bool:=o.op.operands.all fun x=>match evS st x with|some s=>s.within R|none=>true
def jm(R:List Nat)(h:GA P cx ops st o d s)(hR:Ee st o R=true):GH P cx ops st o (some (d,s),none) R []:=by intro st' hag _ a w hi Q;refine h st' ⟨hag.at_,fun x hx s nm he hf=>hag.heap nm ?_⟩ a w hi Q;have:=Array.all_eq_true'.1 hR x hx;rw[he]at this;exact SV.within_mem this hf
def AgrH.evs(h:AgrH ops o R st st')(hx:x∈o.op.operands):evS st' x=evS st x:=by
 cases x with
 | tmp t=>exact h.at_ t (afk _ (List.mem_filterMap.2 ⟨.tmp t,ade,rfl⟩))
 | _=>rfl
def AgrH.ev(h:AgrH ops o R st st')(hx:x∈o.op.operands)(he:Ev st x s):Ev st' x s:=by exact he.tr (h.evs hx)
def adF[NM rt](z:α)(hz:TyZero P T rt z)(hd:Nat.blt d cx.n=true):
 GH P cx ops st ⟨some d,.alloc T,ty,pos,aft,none⟩ (some (d,.optr d rt.n 0 0),some (d,⟨rt,[z]⟩)) [d] [d]:=by intro st' hag hN a w hi Q;rw[Cg L0];exact fR z hz hd (hN d Sp).1 (hN d Sp).2 a w hi Q
def gh_box[NM rt](hx:Rd st x rt z)(hd:Nat.blt d cx.n=true):
 GH P cx ops st ⟨some d,.box T x,ty,pos,aft,none⟩ (some (d,.optr d rt.n 0 0),some (d,⟨rt,[z]⟩)) [d] [d]:=by intro st' hag hN a w hi Q;rw[Cg L0];exact F5 (hx.tr (hag.evs aT)) hd (hN d Sp).1 (hN d Sp).2 a w hi Q
def isJ[NM rt][NM rt']{y:α}{d:γ}(ht:Ty P t rt')(hx:Ev st x (.optr nm rt.n i f))(hn:aG st.heap nm=some ⟨rt,xs⟩)(hy:xs[i]?=some y)(hl:Lens rt f rt' get set)(hv:Rd st v rt' d):
 GH P cx ops st ⟨none,.store t x v,ty,pos,aft,none⟩ (none,some (nm,⟨rt,xs.set i (set y d)⟩)) [nm] []:=by intro st' hag _ a w hi Q;rw[Cg L0];exact bH ht (hag.ev aT hx) ((hag.heap nm Sp).trans hn) hy hl (hv.tr (hag.evs aT)) a w hi Q
def oI:St→List Ef→(Nat→Bool)→St
 | st,[],_=>st
 | st,c::r,L=>oI (bif L 0 then st.app c else st) r (fun i=>L (i+1))
def kK{V:Type 1}:List (Option (Nat×V))→(Nat→Bool)→Nat→Option V
 | [],_,_=>none
 | c::r,L,t=>match kK r (fun i=>L (i+1)) t with
  | some s=>some s
  | none=>match c with|some (q,v)=>if q=t∧L 0=true then some v else none|none=>none
def lB:∀(cs:List Ef) (st:St) (L:Nat→Bool) (t:Nat),bg (oI st cs L).slots t=(match kK (cs.map (·.1)) L t with|some s=>some s|none=>bg st.slots t)
 | [],_,_,_=>rfl
 | (c,e)::r,st,L,t=>by
  rw[oI,lB r];simp only[zr,kK];cases h:kK (r.map (·.1)) (fun i=>L (i+1)) t with
  | some s=>simp
  | none=>
   cases hL:L 0 with
   | false=>cases c<;>simp
   | true=>
    cases c with
    | none=>simp[St.app]
    | some c=>obtain⟨q,v⟩:=c;simp only[cond_true,St.app,Option.toList,C7,Km,bC,and_true];by_cases hq:q=t<;>simp[hq]
def me:∀(cs:List Ef) (st:St) (L:Nat→Bool) (t:Nat),aG (oI st cs L).heap t=(match kK (cs.map (·.2)) L t with|some s=>some s|none=>aG st.heap t)
 | [],_,_,_=>rfl
 | (e,c)::r,st,L,t=>by
  rw[oI,me r];simp only[zr,kK];cases h:kK (r.map (·.2)) (fun i=>L (i+1)) t with
  | some s=>simp
  | none=>
   cases hL:L 0 with
   | false=>cases c<;>simp
   | true=>
    cases c with
    | none=>simp[St.app]
    | some c=>obtain⟨q,v⟩:=c;simp only[cond_true,St.app,Option.toList,C7,Km,bA,and_true];by_cases hq:q=t<;>simp[hq]
def BA{nm:Nat}:∀{l r:List (Nat×SV)},fb nm (l++r)=(fb nm l&&fb nm r)
 | [],_=>by simp[fb]
 | (_,s)::l,r=>by simp[fb,BA (l:=l),Bool.and_assoc]
def DH{nm:Nat}:∀(cs:List Ef) (st:St) (L:Nat→Bool),fb nm st.slots=true→(∀j c q s,cs[j]?=some c→c.1=some (q,s)→L j=true→s.free nm=true)→fb nm (oI st cs L).slots=true
 | [],_,_,h,_=>h
 | (c,e)::r,st,L,h,hc=>by
  rw[oI];refine DH r _ _ ?_ (fun j c' q s hj he hl=>hc (j+1) c' q s JP he hl);cases hL:L 0 with
  | false=>exact h
  | true=>
   cases c with
   | none=>exact h
   | some c=>simp only[cond_true,St.app,Option.toList_some,BA,fb,Bool.and_true,YC];exact⟨hc 0 _ c.1 c.2 rfl rfl hL,h⟩
section
variable{V:Type 1}
def lI:∀{cs:List (Option (Nat×V))} {L:Nat→Bool} {t:Nat},(∀j q v,cs[j]?=some (some (q,v))→q=t→L j=false)→kK cs L t=none
 | [],_,_,_=>rfl
 | c::r,L,t,h=>by
  simp only[kK,lI (cs:=r) (L:=fun i=>L (i+1)) (t:=t) (fun j q v hj he=>h (j+1) q v JP he)];cases c with
  | none=>rfl
  | some c=>obtain⟨q,v⟩:=c;simp only[];rw[zE];rintro⟨e,hL⟩;rw[h 0 q v rfl e]at hL;cases hL
def tG:∀{cs:List (Option (Nat×V))} {L:Nat→Bool} {t i:Nat},(∀j q v,cs[j]?=some (some (q,v))→q=t→(L j=true↔j<i))→kK cs L t=kK (cs.take i) (fun _=>true) t
 | [],_,_,_,_=>by simp[kK]
 | c::r,L,t,0,h=>by
  rw[lI fun j q v hj he=>by
   have:=h j q v hj he
   cases hL:L j with
   | false=>rfl
   | true=>have:=this.1 hL;omega]
  rfl
 | c::r,L,t,i+1,h=>by
  simp only[List.take_succ_cons,kK,tG (cs:=r) (L:=fun i=>L (i+1)) (t:=t) (i:=i) (fun j q v hj he=>by have:=h (j+1) q v JP he;rw[this];omega)]
  cases h':kK (r.take i) (fun _=>true) t with
  | some s=>rfl
  | none=>
   cases c with
   | none=>rfl
   | some c=>
    obtain⟨q,v⟩:=c
    by_cases e:q=t
    ·have:=h 0 q v rfl e
     simp[this.2 So]
    simp[e]
def tH:∀{cs:List (Option (Nat×V))} {L:Nat→Bool} {i q:Nat} {v:V},cs[i]?=some (some (q,v))→L i=true→(∀j q' v',cs[j]?=some (some (q',v'))→q'=q→i<j→L j=false)→kK cs L q=some v
 | [],_,_,_,_,h,_,_=>by simp at h
 | c0::r,L,0,q,v,h,hL,hl=>by
  simp at h;subst h
  simp[kK,lI (cs:=r) (L:=fun i=>L (i+1)) (t:=q) (fun j q' v' hj he=>hl (j+1) q' v' JP he So),hL]
 | c0::r,L,i+1,q,v,h,hL,hl=>by
  simp only[kK,tH (cs:=r) (L:=fun i=>L (i+1)) (i:=i) (q:=q) (v:=v) PW hL (fun j q' v' hj he hij=>hl (j+1) q' v' JP he So)]
def mr:∀{cs:List (Option (Nat×V))} {L L':Nat→Bool} {t:Nat},(∀j q v,cs[j]?=some (some (q,v))→q=t→L j=L' j)→kK cs L t=kK cs L' t
 | [],_,_,_,_=>rfl
 | c::r,L,L',t,h=>by
  simp only[kK,mr (cs:=r) (L:=fun i=>L (i+1)) (L':=fun i=>L' (i+1)) (t:=t) (fun j q v hj he=>h (j+1) q v JP he)];cases c with
  | none=>rfl
  | some c=>obtain⟨q,v⟩:=c;by_cases e:q=t;rw[h 0 q v rfl e];simp[e]
end
inductive AE(P:Program)(cx:Cx)(ops:Array Oper):St→List Oper→List Ef→List (List Nat)→List (List Nat)→Prop
 | nil {st:St}:AE P cx ops st [] [] [] []
 | cons {st:St} {o:Oper} {l:List Oper} {cs:List Ef} {Rs Ns:List (List Nat)} (ef:Ef) (R N:List Nat) (hd:o.dst=ef.1.map (·.1)) (h:GH P cx ops st o ef R N) (hr:AE P cx ops (st.app ef) l cs Rs Ns):AE P cx ops st (o::l) (ef::cs) (R::Rs) (N::Ns)
def AE.at_:∀{st:St} {l:List Oper} {cs:List Ef} {Rs Ns:List (List Nat)},AE P cx ops st l cs Rs Ns→cs.length=l.length∧∀i o,l[i]?=some o→∃ef R N,cs[i]?=some ef∧Rs[i]?=some R∧Ns[i]?=some N∧o.dst=ef.1.map (·.1)∧GH P cx ops (oI st (cs.take i) (fun _=>true)) o ef R N
 | _,_,_,_,_,.nil=>⟨rfl,fun i o h=>ob⟩
 | _,_,_,_,_,.cons ef R N hd h hr=>⟨by simp[hr.at_.1],fun i o' hi=>by
  cases i with
  | zero=>simp at hi;subst hi;exact⟨ef,R,N,rfl,rfl,rfl,hd,h⟩
  | succ i=>obtain⟨ef',R',N',h1,h2,h3,h4,h5⟩:=hr.at_.2 i o' Dq;exact⟨ef',R',N',LF,J3,Av,h4,by simpa[oI]using h5⟩⟩
def Ef.keeps(nm:Nat)(e:Ef):Bool:=(match e.1 with|some s=>s.2.free nm|none=>true)&&(match e.2 with|some h=>!(Nat.beq h.1 nm)|none=>true)
def Hr(ops:Array Oper)(st:St)(cs:List Ef)(Rs Ns:List (List Nat)):Bool:=
 (List.range cs.length).all fun i=>
  (match cs[i]? with|some (_,some (nm,_))=>(Rs.getD i []).contains nm|_=>true)&&
  ((Ns.getD i []).all fun nm=>fb nm st.slots&&(match aG st.heap nm with|some _=>false|none=>true))&&
  (List.range cs.length).all fun j=>Nat.beq i j||
   ((match cs[j]? with|some (_,some (nm,_))=>!((Rs.getD i []).contains nm)||(if j<i then Region.waitsFor .any ops i j else Region.waitsFor .any ops j i)|_=>true)&&
   ((Ns.getD i []).all fun nm=>(match cs[j]? with|some ef=>Ef.keeps nm ef|none=>true)||Region.waitsFor .any ops j i))
structure OF(ops:Array Oper)(st:St)(cs:List Ef)(Rs Ns:List (List Nat)):Prop where
 own:∀(i:Nat) (s:Option (Nat×SV)) (nm:Nat) (hb:HB) (R:List Nat),cs[i]?=some (s,some (nm,hb))→Rs[i]?=some R→nm∈R
 new:∀(i:Nat) (N:List Nat) (nm:Nat),i<cs.length→Ns[i]?=some N→nm∈N→fb nm st.slots=true∧aG st.heap nm=none
 rows:∀(i j:Nat) (s:Option (Nat×SV)) (nm:Nat) (hb:HB) (R:List Nat),i<cs.length→i≠j→cs[j]?=some (s,some (nm,hb))→Rs[i]?=some R→nm∈R→(j<i→Region.waitsFor .any ops i j=true)∧(i<j→Region.waitsFor .any ops j i=true)
 news:∀(i j:Nat) (N:List Nat) (nm:Nat) (ef:Ef),i<cs.length→i≠j→Ns[i]?=some N→nm∈N→cs[j]?=some ef→Ef.keeps nm ef=true∨Region.waitsFor .any ops j i=true
def chI{cs:List Ef}(h:Hr ops st cs Rs Ns=true):OF ops st cs Rs Ns:=by
 unfold Hr at h;rw[Qe]at h;have h':∀i,i<cs.length→_:=fun i hi=>h i (Lb.2 hi);simp only[YC]at h';have getD_of:∀{l:List (List Nat)} {i:Nat} {x:List Nat},l[i]?=some x→l.getD i []=x:=by intro l i x hx;simp[hx]
 refine⟨fun i s nm hb R hc hR=>?_,fun i N nm hi hN hm=>?_,fun i j s nm hb R hi hij hc hR hm=>?_,fun i j N nm ef hi hij hN hm hc=>?_⟩;have hi:i<cs.length:=(Y0.1 hc).1;have:=(h' i hi).1.1;rw[hc,getD_of hR]at this;simpa using this;have:=(h' i hi).1.2;rw[getD_of hN,Qe]at this;have:=this nm hm;rw[YC]at this;refine⟨this.1,?_⟩;cases hl:aG st.heap nm with
 | none=>rfl
 | some _=>rw[hl]at this;exact absurd this.2 Sp
 have hj:j<cs.length:=(Y0.1 hc).1;have:=(h' i hi).2;rw[Qe]at this;have:=this j (Lb.2 hj);rw[JO,YC]at this;rcases this with h1|h1;exact absurd (OR h1) hij;have h1:=h1.1;rw[hc,getD_of hR]at h1;simp only[JO,afo]at h1;rcases h1 with h1|h1;exact absurd hm LF;refine⟨fun hlt=>by rw[Cg hlt]at h1;exact h1,fun hlt=>by rw[zE So]at h1;exact h1⟩;have hj:j<cs.length:=(Y0.1 hc).1;have:=(h' i hi).2;rw[Qe]at this;have:=this j (Lb.2 hj);rw[JO,YC]at this;rcases this with h1|h1;exact absurd (OR h1) hij;have h1:=h1.2;rw[getD_of hN,Qe]at h1;have:=h1 nm hm;rw[hc]at this;simpa using this
def xU(h:Region.waitsFor .any ops j i=true):∃oj,ops[j]?=some oj∧∃e∈oj.after,Region.binds .any e=true∧e.on=i:=by obtain⟨oj,hj,e,he,hb,hon⟩:=Region.waitsFor_spec h;exact⟨oj,hj,e,he,hb,hon⟩
def Ef.keeps_slot{q:Nat}{e:Option (Nat×HB)}(h:Ef.keeps nm (some (q,s),e)=true):s.free nm=true:=by simp only[Ef.keeps,YC]at h;exact h.1
def Ef.keeps_row{q:Nat}{e:Option (Nat×SV)}(h:Ef.keeps nm (e,some (q,hb))=true):q≠nm:=by simp only[Ef.keeps,YC,afo]at h;rintro rfl;rw[show Nat.beq q q=true from Nat.beq_refl q]at h;exact absurd h.2 Sp
def adG(dk:wq ops){Q:Exit→Act→World→Prop}{cs:List Ef}(hl:l.toArray=ops)(has:AE P cx ops st l cs Rs Ns)(rk:OF ops st cs Rs Ns)
 (hK:∀a w,Inv cx (oI st cs (fun _=>true)) a w→Q .normal a w):
 ∀(f:Nat) (listed:Array Bool),Lst ops 0 ops.size listed→Nf listed=f→∀a w,Inv cx (oI st cs (fun i=>listed.getD i false)) a w→wpAny P .any ops Q f listed a w:=by
 obtain⟨hcl,hga⟩:=has.at_
 have hsz:l.length=ops.size:=by rw[←hl];simp
 have hat:∀i:Nat,l[i]?=ops[i]?:=fun i=>by rw[←hl];simp
 have hidx:∀j c,cs[j]?=some c→∃oj,ops[j]?=some oj∧oj.dst=c.1.map (·.1)∧j<l.length:=by
  intro j c hj
  have hjl:j<l.length:=ZZ
  obtain⟨ef,_,_,h1,_,_,h2,_⟩:=hga j l[j] (RY hjl)
  rw[hj]at h1
  injection h1 with h1
  subst h1
  exact⟨l[j],by rw[←hat j];exact RY hjl,h2,hjl⟩
 have mapS:∀{j q:Nat} {s:SV},(cs.map (·.1))[j]?=some (some (q,s))→∃e,cs[j]?=some (some (q,s),e):=by
  intro j q s h
  rw[cr]at h
  cases hc:cs[j]? with
  | none=>rw[hc]at h;cases h
  | some c=>rw[hc]at h;injection h with h;exact⟨c.2,by rw[←h]⟩
 have mapH:∀{j q:Nat} {s:HB},(cs.map (·.2))[j]?=some (some (q,s))→∃e,cs[j]?=some (e,some (q,s)):=by
  intro j q s h
  rw[cr]at h
  cases hc:cs[j]? with
  | none=>rw[hc]at h;cases h
  | some c=>rw[hc]at h;injection h with h;exact⟨c.1,by rw[←h]⟩
 intro f
 induction f with
 | zero=>
  intro listed hL hu a w hi'
  have he:=xX hL rfl (Kl _) So
  subst he
  refine⟨?_,hK a w ?_⟩
  ·cases hr:Region.ready .any ops (Yw ops.size ops.size)with
   | nil=>rfl
   | cons i r=>
    exfalso
    have hmem:i∈Region.ready .any ops (Yw ops.size ops.size):=by rw[hr];simp
    obtain⟨hun,oi,hoi,_⟩:=mem_ready.1 hmem
    have:=(Gm.1 hoi).1
    rw[dR true this]at hun
    simp at hun
    omega
  have hall:∀j c,cs[j]?=some c→(Yw ops.size ops.size).getD j false=true:=by
   intro j c hj
   obtain⟨_,_,_,hjl⟩:=hidx j c hj
   rw[dR false So];simp;omega
  refine Sub.inv ⟨fun i s hs=>?_,fun i s hs=>?_⟩ hi'
  ·rw[lB]at hs⊢
   rw[←hs]
   congr 1
   exact mr fun j q v hj _=>by obtain⟨e,hc⟩:=mapS hj;exact hall j _ hc
  rw[me]at hs⊢
  rw[←hs]
  congr 1
  exact mr fun j q v hj _=>by obtain⟨e,hc⟩:=mapH hj;exact hall j _ hc
 | succ f ih=>
  intro listed hL hu a w hi'
  have hready:∀i∈Region.ready .any ops listed,i<ops.size:=by
   intro i hr
   obtain⟨_,oi,hoi,_⟩:=mem_ready.1 hr
   exact(Gm.1 hoi).1
  refine⟨fun hnil=>?_,fun i hr=>?_⟩
  ·exfalso
   have hex:∃i,i<ops.size∧listed.getD i false=false:=by
    rcases Classical.em (∃i,i<ops.size∧listed.getD i false=false)with h|h
    ·exact h
    exfalso
    have:listed=Yw ops.size ops.size:=oX hL.size fun i his=>by
     simp only[his,decide_true]
     cases hl':listed.getD i false with
     | true=>rfl
     | false=>exact absurd ⟨i,his,hl'⟩ h
    rw[this]at hu
    have hz:Nf (Yw ops.size ops.size)=0:=by
     unfold Nf Yw
     rw[Array.toList_map,Array.toList_range,List.countP_map,List.countP_eq_zero]
     intro x hx
     have:=Lb.1 hx
     simp[this]
    omega
   obtain⟨n0,⟨h1,h2⟩,hmin⟩:=exists_least hex
   have:n0∈Region.ready .any ops listed:=by
    have hs:n0<listed.size:=by rw[hL.size];exact h1
    refine mem_ready.2 ⟨by rw[fP hs];exact h2,ops[n0],PB h1,fun e he hb=>?_⟩
    have hlt:=dk.back n0 _ (PB h1) e he hb
    cases hl':listed.getD e.on false with
    | true=>rfl
    | false=>
     have:=hmin e.on ⟨So,hl'⟩
     omega
   rw[hnil]at this
   cases this
  have hih:=hready i hr
  obtain⟨hun,oi,hoi,hdeps⟩:=mem_ready.1 hr
  have his:i<listed.size:=by rw[hL.size];exact hih
  have hunf:listed.getD i false=false:=abc
  have hli:l[i]?=some oi:=by rw[hat i];exact hoi
  obtain⟨ef,R,N,hcs,hRs,hNs,hdst,hG⟩:=hga i oi hli
  have hicl:i<cs.length:=(Y0.1 hcs).1
  have hw1:∀j:Nat,Region.waitsFor .any ops j i=true→listed.getD j false=false:=by
   intro j hwj
   obtain⟨oj,hoj,e,he,hb,hon⟩:=xU hwj
   cases hlj:listed.getD j false with
   | false=>rfl
   | true=>
    have:=hL.closed j oj hoj hlj e he hb
    rw[hon,hunf]at this
    cases this
  have hw2:∀j:Nat,Region.waitsFor .any ops i j=true→listed.getD j false=true:=by
   intro j hwj
   obtain⟨oi',hoi',e,he,hb,hon⟩:=xU hwj
   rw[hoi]at hoi'
   injection hoi' with hoi'
   subst hoi'
   have:=hdeps e he hb
   rwa [hon]at this
  have hwr:∀(j q:Nat) (s:SV) (e:Option (Nat×HB)),cs[j]?=some (some (q,s),e)→j≠i→(q∈oi.looksAt ops∨oi.dst=some q)→(listed.getD j false=true↔j<i):=by
   intro j q s e0 hj hne hc
   obtain⟨oj,hoj,hdj,hjl⟩:=hidx j _ hj
   have hdj:oj.dst=some q:=hdj
   rcases Qa j i with h|h
   ·have hap:oj.apart ops oi=false:=by
     cases hb:oj.apart ops oi with
     | false=>rfl
     | true=>
      obtain⟨h1,h2,h3⟩:=Oper.apart_spec hb
      rcases hc with hc|hc
      ·exact absurd hc (h1 q hdj)
      exact absurd hc (h2 q hdj)
    obtain⟨e,he,hb,hon⟩:=dk.order j i oj oi h hoj hoi hap
    have:=hdeps e he hb
    rw[hon]at this
    simp[this,h]
   have hgt:i<j:=So
   have hap:oi.apart ops oj=false:=by
    cases hb:oi.apart ops oj with
    | false=>rfl
    | true=>
     obtain⟨h1,h2,h3⟩:=Oper.apart_spec hb
     rcases hc with hc|hc
     ·exact absurd hc (h3 q hdj)
     exact absurd hdj (h2 q hc)
   obtain⟨e,he,hb,hon⟩:=dk.order i j oi oj hgt hoi hoj hap
   cases hlj:listed.getD j false with
   | false=>simp;omega
   | true=>
    have:=hL.closed j oj hoj hlj e he hb
    rw[hon,hunf]at this
    cases this
  have hrow:∀(j:Nat) (s:Option (Nat×SV)) (nm:Nat) (hb:HB),cs[j]?=some (s,some (nm,hb))→j≠i→nm∈R→(listed.getD j false=true↔j<i):=by
   intro j s nm hb hj hne hm
   obtain⟨h1,h2⟩:=rk.rows i j s nm hb R hicl So hj hRs hm
   rcases Qa j i with h|h
   ·simp[hw2 j (h1 h),h]
   have:=hw1 j (h2 So);simp[this];omega
  have hagr:AgrH ops oi R (oI st (cs.take i) (fun _=>true)) (oI st cs (fun j=>listed.getD j false)):=by
   refine⟨fun t ht=>?_,fun nm hnm=>?_⟩
   ·rw[lB,lB,List.map_take]
    congr 1
    refine tG fun j q v hj he=>?_
    obtain⟨e,hc⟩:=mapS hj
    by_cases hne:j=i
    ·subst hne;rw[hunf];simp
    exact hwr j q v e hc hne (.inl (by rw[he];exact ht))
   rw[me,me,List.map_take]
   congr 1
   refine tG fun j q v hj he=>?_
   obtain⟨e,hc⟩:=mapH hj
   by_cases hne:j=i
   ·subst hne;rw[hunf];simp
   exact hrow j e q v hc hne (by rw[he];exact hnm)
  have hnew:∀nm∈N,fb nm (oI st cs (fun j=>listed.getD j false)).slots=true∧aG (oI st cs (fun j=>listed.getD j false)).heap nm=none:=by
   intro nm hnm
   obtain⟨h1,h2⟩:=rk.new i N nm hicl hNs hnm
   refine⟨DH _ _ _ h1 fun j c q s hj he hlj=>?_,?_⟩
   ·have hne:i≠j:=by rintro rfl;rw[hunf]at hlj;cases hlj
    rcases rk.news i j N nm c hicl hne hNs hnm hj with hk|hk
    ·obtain⟨c1,c2⟩:=c
     simp only at he
     subst he
     exact Ef.keeps_slot hk
    rw[hw1 j hk]at hlj;cases hlj
   rw[me,lI,h2]
   intro j q v hj he
   obtain⟨e,hc⟩:=mapH hj
   by_cases hne:i=j
   ·subst hne;exact hunf
   rcases rk.news i j N nm _ hicl hne hNs hnm hc with hk|hk
   ·exact absurd he (Ef.keeps_row hk)
   exact hw1 j hk
  have hstep:=hG _ hagr hnew a w hi' (Q:=Q)
  have hnext:∀a' w',Inv cx ((oI st cs (fun j=>listed.getD j false)).app ef) a' w'→wpAny P .any ops Q f (listed.setIfInBounds i true) a' w':=by
   intro a' w' hi''
   refine ih _ (hL.set hr hih) aa1 a' w' ?_
   have hset:∀j,(listed.setIfInBounds i true).getD j false=if j=i then true else listed.getD j false:=by
    intro j
    by_cases hne:j=i
    ·subst hne
     rw[Cg rfl]
     simp[his]
    rw[zE hne,getD_set_ne false So]
   refine Sub.inv ⟨fun t s' hs=>?_,fun t s' hs=>?_⟩ hi''
   ·rw[lB]at hs
    have hoth:(∀q v,ef.1=some (q,v)→q≠t)→bg (oI st cs (fun j=>listed.getD j false)).slots t=some s':=fun hn=>by
     rw[lB,←hs]
     congr 1
     refine mr fun j q v hj he=>?_
     simp only[hset]
     rw[zE]
     rintro rfl
     obtain⟨e,hc⟩:=mapS hj
     rw[hcs]at hc
     injection hc with hc
     exact hn q v (by rw[hc]) he
    rcases h1:ef.1 with _|⟨d,s⟩
    ·exact WM
    simp only[St.app,h1,Option.toList,C7,Km,bC]
    by_cases e:d=t
    ·subst e
     rw[Cg rfl]
     have:=tH (cs:=cs.map (·.1)) (L:=fun j=>(listed.setIfInBounds i true).getD j false) (i:=i) (q:=d) (v:=s) (by rw[cr,hcs];simp[h1]) abl (fun j q' v' hj he hij=>by
      obtain⟨e',hc⟩:=mapS hj
      simp only[hset]
      rw[zE So]
      have:=hwr j q' v' e' hc So (.inr (by rw[hdst,h1,he];rfl))
      cases hlj:listed.getD j false with
      | false=>rfl
      | true=>have:=this.1 hlj;omega)
     rw[this]at hs
     exact hs
    exact Wz
   rw[me]at hs
   have hoth:(∀q v,ef.2=some (q,v)→q≠t)→aG (oI st cs (fun j=>listed.getD j false)).heap t=some s':=fun hn=>by
    rw[me,←hs]
    congr 1
    refine mr fun j q v hj he=>?_
    simp only[hset]
    rw[zE]
    rintro rfl
    obtain⟨e,hc⟩:=mapH hj
    rw[hcs]at hc
    injection hc with hc
    exact hn q v (by rw[hc]) he
   rcases h1:ef.2 with _|⟨d,s⟩
   ·exact WM
   simp only[St.app,h1,Option.toList,C7,Km,bA]
   by_cases e:d=t
   ·subst e
    rw[Cg rfl]
    have hdR:d∈R:=rk.own i ef.1 d s R (by rw[hcs,←h1]) hRs
    have:=tH (cs:=cs.map (·.2)) (L:=fun j=>(listed.setIfInBounds i true).getD j false) (i:=i) (q:=d) (v:=s) (by rw[cr,hcs];simp[h1]) abl (fun j q' v' hj he hij=>by
     obtain⟨e',hc⟩:=mapH hj
     simp only[hset]
     rw[zE So]
     have:=hrow j e' q' v' hc So (by rw[he];exact hdR)
     cases hlj:listed.getD j false with
     | false=>rfl
     | true=>have:=this.1 hlj;omega)
    rw[this]at hs
    exact hs
   exact Wz
  exact VN
def adv{id:Nat}{cs:List Ef}(hm:P.follows .mixedOrders=true)(hB:vh l.toArray=true)(has:AE P cx l.toArray st l cs Rs Ns)(hrw:Hr l.toArray st cs Rs Ns=true)
 (hn:JN P cx (oI st cs (fun _=>true)) k):J P cx st (.region id l.toArray true) k:=by
 intro a w hi;refine wp_region_any hm ?_;obtain⟨β,hb⟩:=hi;have hi0:Inv cx st a w.drew:=⟨β,hb.later (Below.drew' w)⟩;have hst0:Inv cx (oI st cs (fun i=>(Array.replicate l.toArray.size false).getD i false)) a w.drew:=by refine Sub.inv ⟨fun i s hs=>?_,fun i s hs=>?_⟩ hi0;rw[lB,lI (fun j _ _ _ _=>getD_replicate_false _ _)]at hs;simpa using hs;rw[me,lI (fun j _ _ _ _=>getD_replicate_false _ _)]at hs;simpa using hs
 have hL:Lst l.toArray 0 l.toArray.size (Array.replicate l.toArray.size false):=
  ⟨Sp,fun i h=>So,fun i h1 h2=>So,fun j oj hj hl=>aaF⟩
 exact adG (Q:=k.post P) (pE hB) rfl has (chI hrw) (fun a w hi=>hn a w hi) l.toArray.size _ hL (t8 _) a w.drew hst0
end
variable{cs:List Ef}{st st':St}
/-! short forms of the steps -/
section
variable{a:Act}
def Ev.b(h:evS st x=some s):Ev st x s:=.base h
def Args.c{xs:List Operand}(h:evS st x=some s)(hr:Args st xs ss):Args st (x::xs) (s::ss):=.cons (.base h) hr
def zJ(h:aH P cx st ⟨some d,o,ty,pos,aft,none⟩ s)(hr:JG P cx ops (st.put d s) rest k)(hd:Nat.blt d cx.n=true:=by rfl):JG P cx ops st (⟨some d,o,ty,pos,aft,none⟩::rest) k:=bi s rfl d rfl hd h hr
def zO{st1:St}(h:OS P cx ⟨dst,o,ty,pos,aft,none⟩ st st1)(hr:JG P cx ops st1 rest k):JG P cx ops st (⟨dst,o,ty,pos,aft,none⟩::rest) k:=gV st1 rfl h hr
def zM(h:evS st x=some s)(hr:JG P cx ops (st.put d s) rest k)(hd:Nat.blt d cx.n=true:=by rfl):JG P cx ops st (⟨some d,.move x,ty,pos,aft,none⟩::rest) k:=zJ (ai (.base h)) hr hd
def zA(h:evS st x=some s)(hr:JG P cx ops (st.put d s) rest k)(hd:Nat.blt d cx.n=true:=by rfl):JG P cx ops st (⟨some d,.assign x,ty,pos,aft,none⟩::rest) k:=zJ (a8 (.base h)) hr hd
def zF{sz t q:Nat}(hf:aB P t q=some off)(h:evS st x=some (.optr nm sz i f))(hr:JG P cx ops (st.put d (.optr nm sz i (f+off))) rest k)(hd:Nat.blt d cx.n=true:=by rfl):JG P cx ops st (⟨some d,.fieldAddr t x q,ty,pos,aft,none⟩::rest) k:=zJ (aj hf (.base h)) hr hd
def evN{p q:Int}(h1:evS st x=some (.raw (.int kk p)))(h2:evS st y=some (.raw (.int kk q)))(hr:JG P cx ops (st.put d (.raw (.bool (p==q)))) rest k)(hd:Nat.blt d cx.n=true:=by rfl):JG P cx ops st (⟨some d,.binOp .eql t x y yt,ty,pos,aft,none⟩::rest) k:=zJ (cl (.base h1) (.base h2)) hr hd
def zt{p q:Int}(h1:evS st x=some (.raw (.int kk p)))(h2:evS st y=some (.raw (.int kk q)))(hr:JG P cx ops (st.put d (.raw (.bool (decide (p<q))))) rest k)(hd:Nat.blt d cx.n=true:=by rfl):JG P cx ops st (⟨some d,.binOp .lss t x y yt,ty,pos,aft,none⟩::rest) k:=zJ (dC (.base h1) (.base h2)) hr hd
def zU{p q r:Int}(h1:evS st x=some (.raw (.int kk p)))(h2:evS st y=some (.raw (.int kk q)))(hw:kk.wrap (p+q)=r)(hr:JG P cx ops (st.put d (.raw (.int kk r))) rest k)(hd:Nat.blt d cx.n=true:=by rfl):JG P cx ops st (⟨some d,.binOp .add t x y yt,ty,pos,aft,none⟩::rest) k:=zJ (Cp (.base h1) (.base h2) hw) hr hd
def zD(ht:Ty P t rt)(h:evS st x=some (.eptr rt z))(hr:JG P cx ops (st.put d (SV.of rt z)) rest k)(hd:Nat.blt d cx.n=true:=by rfl):JG P cx ops st (⟨some d,.load t x,ty,pos,aft,none⟩::rest) k:=zJ (aO ht (.base h)) hr hd
def zB{t q:Nat}(hf:aB P t q=some off)(hl:Lens rt off rt' get set)(h:evS st x=some (.eptr rt z))(hr:JG P cx ops (st.put d (.eptr rt' (get z))) rest k)(hd:Nat.blt d cx.n=true:=by rfl):JG P cx ops st (⟨some d,.fieldAddr t x q,ty,pos,aft,none⟩::rest) k:=zJ (be hf hl (.base h)) hr hd
def zN(ht:P.underlying t=some (.slice e))(h:evS st x=some (.tv (ag rt) xs))(hr:JG P cx ops (st.put d (.raw (.int .i64 (xs.length:Int)))) rest k)(hd:Nat.blt d cx.n=true:=by rfl):JG P cx ops st (⟨some d,.call {callee:=.builtin .len,args:=#[x],argTypes:=#[t]},ty,pos,aft,none⟩::rest) k:=zJ (dw ht (.base h)) hr hd
def zX{i:Int}(ht:P.underlying t=some (.slice e))(he:Ty P e rt)(h1:evS st x=some (.tv (ag rt) xs))(h2:evS st y=some (.raw (.int kk i)))(hij:i=(j:Int))(hz:xs[j]?=some z)(hr:JG P cx ops (st.put d (.eptr rt z)) rest k)(hd:Nat.blt d cx.n=true:=by rfl):JG P cx ops st (⟨some d,.indexAddr t x y,ty,pos,aft,none⟩::rest) k:=zJ (av ht he (.base h1) (.base h2) hij hz) hr hd
def zG{c:Bool}(hj:(ops[j]?).bind (·.dst)=some g)(hc:bg st.slots g=some (.raw (.bool c)))(h:(c==want)=true→aH P cx st ⟨some d,o,ty,pos,aft,some (j,want)⟩ s)(hr:JG P cx ops (st.put d (.gd (c==want) s)) rest k)(hd:Nat.blt d cx.n=true:=by rfl):
 JG P cx ops st (⟨some d,o,ty,pos,aft,some (j,want)⟩::rest) k:=RC s j want c g d rfl hj hc rfl hd h hr
def zK(ks hs:List Nat){r:List (Nat×SV)}(hj:JN P cx ⟨r,hp⟩ k)(h:Keep st.slots ks r:=by repeat(first|exact .nil|apply Keep.cons rfl))(hh:KeepH st.heap hs hp:=by repeat(first|exact .nil|apply KeepH.cons rfl)):JN P cx st k:=adB ks hs h hh hj
def zI(hi:Inv cx st a w)(h:Sub st st':=by exact⟨YV,YW⟩):Inv cx st' a w:=Sub.inv h hi
def zW(hi:Inv cx st a w)(h:Sub st st':=by exact⟨(by repeat(first|exact au|refine ap rfl (by first|rfl|(simp;done)|assumption|(refine congrArg (SV.own _ _ 0) ?_;first|(rw[hs];simp;done)|(rw[hs];done)|(rw[hs,Yl];done)|(rw[hs,Yl];rfl)|(simp[hs];done))) ?_)),(by repeat(first|exact aw|refine ao rfl (by first|rfl|(simp;done)|assumption|exact congrArg (HB.mk _) hs|exact congrArg (HB.mk _) hs.symm|(refine congrArg (HB.mk _) ?_;first|(rw[hs];(try simp only[Pv,FR]);first|done|rfl|(simp;done))|(rw[hs];done)|(rw[hs,Pv,FR];done)|(rw[hs,Pv,FR];rfl)|(rw[hs];simp;done))|(rw[N1];exact congrArg (HB.mk _) hs)|(rw[N1];exact congrArg (HB.mk _) hs.symm)|(rw[←hs];simp;done)) ?_))⟩):Inv cx st' a w:=Sub.inv h hi
def ady(R:List Nat)(h:aH P cx st ⟨some d,o,ty,pos,aft,none⟩ s)(hr:AE P cx ops (st.app (some (d,s),none)) l cs Rs Ns)(hd:Nat.blt d cx.n=true:=by rfl)(hR:Ee st ⟨some d,o,ty,pos,aft,none⟩ R=true:=by kernel_rfl):
 AE P cx ops st (⟨some d,o,ty,pos,aft,none⟩::l) ((some (d,s),none)::cs) (R::Rs) ([]::Ns):=.cons _ R [] rfl (jm R (CV rfl rfl hd h) hR) hr
def zS{cs:List (Nat×SV)}(h:aH P cx st ⟨some d,o,ty,pos,aft,none⟩ s)(hr:AS P cx ops (st.put d s) l cs)(hd:Nat.blt d cx.n=true:=by rfl):AS P cx ops st (⟨some d,o,ty,pos,aft,none⟩::l) ((d,s)::cs):=.cons d s rfl (CV rfl rfl hd h) hr
def zL[NM rt][NM rt']{q:α}(ht:Ty P t rt')(h:evS st x=some (.optr nm rt.n i f))(hn:aG st.heap nm=some ⟨rt,xs⟩)(hy:xs[i]?=some q)(hl:Lens rt f rt' get set)
 (hr:JG P cx ops (st.put d (SV.of rt' (get q))) rest k) (hd:Nat.blt d cx.n=true:=by rfl):JG P cx ops st (⟨some d,.load t x,ty,pos,aft,none⟩::rest) k:=zJ (ah ht (.base h) hn hy hl) hr hd
def zQ(ks hs:List Nat){r:List (Nat×SV)}(hj:JN P cx ⟨r,hp⟩ k)(h:Keep st.slots ks r:=by repeat(first|exact .nil|apply Keep.cons rfl))(hh:KeepH st.heap hs hp:=by repeat(first|exact .nil|apply KeepH.cons rfl)):JG P cx ops st [] k:=aS (zK ks hs hj h hh)
def zZ{c:Code}(h:J P cx st c k):JG P cx ops st [] (.seq c k):=aS (aa h)
def zR{id:Nat}{c:Code}(h:JG P cx l.toArray st l (.seq c k)):J P cx st (.seq (.region id l.toArray false) c) k:=ac (ab h)
def zY(h:evS st x=some s)(hr:JN P cx (st.put d s) k)(hd:Nat.blt d cx.n=true:=by rfl):JG P cx ops st [⟨some d,.assign x,ty,pos,aft,none⟩] k:=zA h (aS hr) hd
def zC[NM rt][NM rt']{q:α}{z:γ}(ht:Ty P t rt')(h:evS st x=some (.optr nm rt.n i f))(hn:aG st.heap nm=some ⟨rt,xs⟩)(hy:xs[i]?=some q)(hl:Lens rt f rt' get set)(hv:Rd st y rt' z)
 (hr:JG P cx ops ⟨st.slots,(nm,⟨rt,xs.set i (set q z)⟩)::st.heap⟩ rest k):JG P cx ops st (⟨none,.store t x y,ty,pos,aft,none⟩::rest) k:=zO (bH ht (.base h) hn hy hl hv) hr
def Y12[NM rt](hx:Rd st x rt z)(hr:JG P cx ops ⟨(d,.optr d rt.n 0 0)::st.slots,(d,⟨rt,[z]⟩)::st.heap⟩ rest k)(hd:Nat.blt d cx.n=true:=by rfl)(hf:fb d st.slots=true:=by rfl)(hn:aG st.heap d=none:=by rfl):
 JG P cx ops st (⟨some d,.box T x,ty,pos,aft,none⟩::rest) k:=zO (F5 hx hd hf hn) hr
def zl[NM rt](hz:TyZero P T rt z)(hr:JG P cx ops ⟨(d,.optr d rt.n 0 0)::st.slots,(d,⟨rt,[z]⟩)::st.heap⟩ rest k)(hd:Nat.blt d cx.n=true:=by rfl)(hf:fb d st.slots=true:=by rfl)(hn:aG st.heap d=none:=by rfl):
 JG P cx ops st (⟨some d,.alloc T,ty,pos,aft,none⟩::rest) k:=zO (fR z hz hd hf hn) hr
def zV[NM rt]{r:List (Nat×SV)}(ks:List Nat)(ht:P.underlying t=some (.slice e))(he:Ty P e rt)(hz:TyZero P e rt z)(hby:(P.info? e).map (·.bytes)=some by_)(hx:evS st x=some (.own nm rt.n off n))(hn:aG st.heap nm=some ⟨rt,xs⟩)(hy:Rd st y (ag rt) ys)
 (hr:JG P cx ops ⟨(d,.own nm rt.n 0 (n+ys.length))::r,(nm,⟨rt,(xs.drop off).take n++ys⟩)::st.heap⟩ rest k) (hn1:Nat.ble 1 rt.n=true:=by rfl) (hle:off+n≤xs.length:=by(try simp);try omega) (h63:n+ys.length≤maxLen:=by unfold maxLen;(try simp);try omega) (hb:(n+ys.length)*by_≤140737488355328:=by(try simp);try omega)
 (hd:Nat.blt d cx.n=true:=by rfl) (hk:Keep st.slots ks r:=by repeat(first|exact .nil|apply Keep.cons rfl)) (hf:fb nm r=true:=by rfl):JG P cx ops st (⟨some d,.call {callee:=.builtin .append,args:=#[x,y],argTypes:=#[t,t]},ty,pos,aft,none⟩::rest) k:=zO (bX ks ht he hz hn1 hby (.base hx) hn hle hy h63 hb hd hk hf) hr
def zEG{c:Bool}(R:List Nat)(hj:(ops[j]?).bind (·.dst)=some g)(hc:bg st.slots g=some (.raw (.bool c)))(h:(c==want)=true→aH P cx st ⟨some d,o,ty,pos,aft,some (j,want)⟩ s)(hr:AE P cx ops (st.app (some (d,.gd (c==want) s),none)) l cs Rs Ns)(hd:Nat.blt d cx.n=true:=by rfl)(hR:Ee st ⟨some d,o,ty,pos,aft,some (j,want)⟩ R=true:=by kernel_rfl):
 AE P cx ops st (⟨some d,o,ty,pos,aft,some (j,want)⟩::l) ((some (d,.gd (c==want) s),none)::cs) (R::Rs) ([]::Ns):=.cons _ R [] rfl (jm R (Ip j want c g rfl hj hc rfl hd h) hR) hr
def zSG{cs:List (Nat×SV)}{c:Bool}(hj:(ops[j]?).bind (·.dst)=some g)(hc:bg st.slots g=some (.raw (.bool c)))(h:(c==want)=true→aH P cx st ⟨some d,o,ty,pos,aft,some (j,want)⟩ s)(hr:AS P cx ops (st.put d (.gd (c==want) s)) l cs)(hd:Nat.blt d cx.n=true:=by rfl):
 AS P cx ops st (⟨some d,o,ty,pos,aft,some (j,want)⟩::l) ((d,.gd (c==want) s)::cs):=.cons d _ rfl (Ip j want c g rfl hj hc rfl hd h) hr
def z1{t:Nat}{r:SV}(hr:fn.results = #[.tmp t])(h:bg st.slots t=some s)(e:s=r)(hp:s.plain=true:=by rfl):JR P cx st (.fin fn (Di cx r)):=cQ hr (ar h) hp e
def z2{t u:Nat}{s' r:SV}(hr:fn.results = #[.tmp t,.tmp u])(h:bg st.slots t=some s)(h':bg st.slots u=some s')(e:SV.tup2 s s'=r)(hp:s.plain=true∧s'.plain=true:=by exact⟨rfl,rfl⟩):JR P cx st (.fin fn (Di cx r)):=aI hr (ar h) (ar h') hp e
end
def zg{l:List α}(h:i<l.length:=by first|omega|(simp;done)|(simp;omega)|(simp at hg;omega)):l[i]?=some l[i]:=RY h
def zh(h:p:=by first|omega|(simp;done)|(simp;omega)):p:=h
def zj(h:p:=by first|omega|(simp;omega)):p:=h
def zo(h:p:=by omega):p:=h
def zk(h:p:=by kernel_rfl):p:=h
def zw{n:Int}(h:-9223372036854775808≤n∧n≤9223372036854775807:=by omega):IntKind.i64.wrap n=n:=N2 h
def zp(h:p:=by intro h;first|(rw[h];rfl)|(rw[hg,h];rfl)|(rw[h,hg];rfl)|simp_all):p:=h
/-! drawn regions, step by step -/
def SV.rows:SV→List Nat
 | .own k _ _ _ | .optr k _ _ _ | .mref k | .epown k _ _ _=>[k]
 | .both s _=>s.rows
 | .lnk s _ t=>s.rows++t.rows
 | .fam s base _ ds=>s.rows++(List.range ds.length).map (· + base)
 | .gd _ s=>s.rows
 | .tup2 a b=>a.rows++b.rows
 | .tup3 a b c=>a.rows++(b.rows++c.rows)
 | .tup4 a b c d=>a.rows++(b.rows++(c.rows++d.rows))
 | _=>[]
def SV.rowsW{R:List Nat}:∀{s:SV},(∀n∈s.rows,n∈R)→s.within R=true
 | .own _ _ _ _,h | .optr _ _ _ _,h | .mref _,h | .epown _ _ _ _,h=>by simpa[SV.rows,SV.within]using h
 | .both s _,h | .gd _ s,h=>SV.rowsW (s:=s) h
 | .fam s b _ ds,h=>by
  simp only[SV.rows,Nx]at h
  simp only[SV.within,YC,Qe]
  exact⟨SV.rowsW fun n hn=>h n (.inl hn),fun x hx=>by simpa using h _ (.inr (Nr.2 ⟨x,hx,rfl⟩))⟩
 | .lnk a _ b,h | .tup2 a b,h=>by
  simp only[SV.rows,Nx]at h
  simp only[SV.within,YC]
  exact⟨SV.rowsW fun n hn=>h n (.inl hn),SV.rowsW fun n hn=>h n (.inr hn)⟩
 | .tup3 a b c,h=>by
  simp only[SV.rows,Nx]at h
  simp only[SV.within,YC]
  exact⟨⟨SV.rowsW fun n hn=>h n (.inl hn),SV.rowsW fun n hn=>h n (.inr (.inl hn))⟩,SV.rowsW fun n hn=>h n (.inr (.inr hn))⟩
 | .tup4 a b c d,h=>by
  simp only[SV.rows,Nx]at h
  simp only[SV.within,YC]
  exact⟨⟨⟨SV.rowsW fun n hn=>h n (.inl hn),SV.rowsW fun n hn=>h n (.inr (.inl hn))⟩,SV.rowsW fun n hn=>h n (.inr (.inr (.inl hn)))⟩,SV.rowsW fun n hn=>h n (.inr (.inr (.inr hn)))⟩
 | .raw _,_ | .tv _ _,_ | .eptr _ _,_=>rfl
def PG(st:St)(o:Oper):List Nat:=o.op.operands.toList.flatMap fun x=>match evS st x with|some s=>s.rows|none=>[]
def HH(st:St)(o:Oper):Ee st o (PG st o)=true:=by
 unfold Ee PG;refine Array.all_eq_true'.2 fun x hx=>?_;cases h:evS st x with
 | none=>rfl
 | some s=>exact SV.rowsW fun n hn=>List.mem_flatMap.2 ⟨x,ade,by rw[h];exact hn⟩
section
def JY(P:Program)(cx:Cx)(ops:Array Oper)(st:St)(l:List Oper)(k:Kn):Prop:=∃cs,AS P cx ops st l cs∧JN P cx (iy st cs fun _=>true) k
def jd{id:Nat}(hm:P.follows .mixedOrders=true)(hB:vh l.toArray=true)(h:JY P cx l.toArray st l k):J P cx st (.region id l.toArray true) k:=by obtain⟨_,a,b⟩:=h;exact Y11 hm hB a b
def jd0(h:JN P cx st k):JY P cx ops st [] k:=⟨[],.nil,h⟩
def jdc{o:Oper}(hd:o.dst=some d)(h:GA P cx ops st o d s)(hr:JY P cx ops (st.put d s) l k):JY P cx ops st (o::l) k:=by obtain⟨_,a,b⟩:=hr;exact⟨_,.cons d s hd h a,b⟩
def GP(h:aH P cx st ⟨some d,o,ty,pos,aft,none⟩ s)(hr:JY P cx ops (st.put d s) l k)(hd:Nat.blt d cx.n=true:=by rfl):JY P cx ops st (⟨some d,o,ty,pos,aft,none⟩::l) k:=jdc rfl (CV rfl rfl hd h) hr
def JJ{c:Bool}(hj:(ops[j]?).bind (·.dst)=some g)(hc:bg st.slots g=some (.raw (.bool c)))(h:(c==want)=true→aH P cx st ⟨some d,o,ty,pos,aft,some (j,want)⟩ s)(hr:JY P cx ops (st.put d (.gd (c==want) s)) l k)(hd:Nat.blt d cx.n=true:=by rfl):JY P cx ops st (⟨some d,o,ty,pos,aft,some (j,want)⟩::l) k:=jdc rfl (Ip j want c g rfl hj hc rfl hd h) hr
def jdw{c:Bool}(hj:(ops[j]?).bind (·.dst)=some g)(hc:bg st.slots g=some (.gd c0 (.raw (.bool c))))(h:(c0&&(c==want))=true→aH P cx st ⟨some d,o,ty,pos,aft,some (j,want)⟩ s)(hr:JY P cx ops (st.put d (.gd (c0&&(c==want)) s)) l k)(hd:Nat.blt d cx.n=true:=by rfl):JY P cx ops st (⟨some d,o,ty,pos,aft,some (j,want)⟩::l) k:=jdc rfl (eJ j want c c0 g rfl hj hc rfl hd h) hr
abbrev EG:=List Ef→List (List Nat)→List (List Nat)→Prop
def JF(P:Program)(cx:Cx)(ops:Array Oper)(st:St)(l:List Oper)(G:EG)(k:Kn):Prop:=∃cs Rs Ns,AE P cx ops st l cs Rs Ns∧G cs Rs Ns∧JN P cx (oI st cs fun _=>true) k
variable{G:EG}
def je{id:Nat}(h:JF P cx l.toArray st l (fun cs Rs Ns=>Hr l.toArray st cs Rs Ns=true) k)(hm:P.follows .mixedOrders=true:=by exact mo)(hB:vh l.toArray=true:=by kernel_rfl):J P cx st (.region id l.toArray true) k:=by obtain⟨_,_,_,a,b,c⟩:=h;exact adv hm hB a b c
def je0(h:JN P cx st k)(hG:G [] [] []:=by kernel_rfl):JF P cx ops st [] G k:=⟨[],[],[],.nil,hG,h⟩
def bL{o:Oper}{ef:Ef}{N:List Nat}(hd:o.dst=ef.1.map (·.1))(h:GH P cx ops st o ef R N)(hr:JF P cx ops (st.app ef) l (fun a b c=>G (ef::a) (R::b) (N::c)) k):JF P cx ops st (o::l) G k:=by obtain⟨_,_,_,a,b,c⟩:=hr;exact⟨_,_,_,.cons ef R N hd h a,b,c⟩
def ca(h:aH P cx st ⟨some d,o,ty,pos,aft,none⟩ s)(hr:JF P cx ops (st.put d s) l (fun a b c=>G ((some (d,s),none)::a) (PG st ⟨some d,o,ty,pos,aft,none⟩::b) ([]::c)) k)(hd:Nat.blt d cx.n=true:=by rfl):JF P cx ops st (⟨some d,o,ty,pos,aft,none⟩::l) G k:=bL rfl (jm _ (CV rfl rfl hd h) (HH _ _)) hr
def Nc{c:Bool}(hj:(ops[j]?).bind (·.dst)=some g)(hc:bg st.slots g=some (.raw (.bool c)))(h:(c==want)=true→aH P cx st ⟨some d,o,ty,pos,aft,some (j,want)⟩ s)(hr:JF P cx ops (st.put d (.gd (c==want) s)) l (fun a b c'=>G ((some (d,.gd (c==want) s),none)::a) (PG st ⟨some d,o,ty,pos,aft,some (j,want)⟩::b) ([]::c')) k)(hd:Nat.blt d cx.n=true:=by rfl):JF P cx ops st (⟨some d,o,ty,pos,aft,some (j,want)⟩::l) G k:=bL rfl (jm _ (Ip j want c g rfl hj hc rfl hd h) (HH _ _)) hr
def jea[NM rt](hz:TyZero P T rt z)(hr:JF P cx ops ⟨(d,.optr d rt.n 0 0)::st.slots,(d,⟨rt,[z]⟩)::st.heap⟩ l (fun a b c=>G ((some (d,.optr d rt.n 0 0),some (d,⟨rt,[z]⟩))::a) ([d]::b) ([d]::c)) k)(hd:Nat.blt d cx.n=true:=by rfl):JF P cx ops st (⟨some d,.alloc T,ty,pos,aft,none⟩::l) G k:=bL rfl (adF z hz hd) hr
def LJ[NM rt][NM rt']{y:α}{z:γ}(ht:Ty P t rt')(hx:evS st x=some (.optr nm rt.n i f))(hn:aG st.heap nm=some ⟨rt,xs⟩)(hy:xs[i]?=some y)(hl:Lens rt f rt' get set)(hv:Rd st v rt' z)(hr:JF P cx ops ⟨st.slots,(nm,⟨rt,xs.set i (set y z)⟩)::st.heap⟩ l (fun a b c=>G ((none,some (nm,⟨rt,xs.set i (set y z)⟩))::a) ([nm]::b) ([]::c)) k):JF P cx ops st (⟨none,.store t x v,ty,pos,aft,none⟩::l) G k:=bL rfl (isJ ht (.base hx) hn hy hl hv) hr
end
variable{G:EG}
def Ye(h:p:=by rfl):p:=h
def Yv(h:p:=by first|exact .b rfl|exact .gd rfl hg|exact .l1 rfl|exact .b1 rfl|exact .f1 rfl):p:=h
def YT(h:p:=by with_reducible first|exact Sj|exact aQ|exact aM|exact bE|exact Md|exact dj|exact dO|exact dJ|exact dh|exact gW|exact i7|exact js|exact iw|exact iF|exact kM|exact jN|exact hO|exact i8|exact eZ|exact jM|exact ku|exact kQ|exact iQ|exact kr|exact fe|exact jf|exact Gf|exact iR|exact uc|exact o9|exact o8|exact x6|exact Lim|exact ud|exact o7|exact ysI|exact ww|exact ty68|exact abz|exact La|exact ty82|exact ty205|exact Rf|exact K9|exact DA):p:=h
def YU(h:p:=by with_reducible first|exact bT|exact cU|exact dI|exact gp|exact ga|exact fy|exact eV|exact ju|exact mc|exact gG|exact qJ|exact dY|exact m1|exact xZ|exact pK|exact Ar|exact oy|exact Dv|exact Dw):p:=h
def YF(h:p:=by with_reducible first|exact aV|exact ad8|exact jec|exact cz|exact ad7|exact dx|exact dq|exact d8|exact acn|exact e9|exact iv|exact fC|exact eu|exact hiP|exact Yl2f|exact ad3|exact z46|exact cpt|exact iC|exact iE|exact rIx|exact iU|exact ad4|exact gR|exact TyV|exact iV|exact ko|exact ig|exact ngv|exact iD|exact aea|exact l8|exact l7|exact stE|exact adr|exact adu|exact guE|exact ad6|exact ad9|exact l6|exact Z13|exact ad5|exact Y17|exact aeg|exact oe|exact aec|exact aaE|exact rC|exact rvs|exact chS|exact Res|exact pz|exact loP|exact uX|exact aed|exact abI|exact aee|exact IKd|exact reT|exact sgn|exact abK|exact acl|exact uV|exact uU|exact so|exact xB|exact ab2|exact pv|exact Y19|exact rB|exact u4|exact evV|exact tvR|exact py|exact Y15|exact ocS|exact chR|exact ovS|exact inT|exact aeb|exact aa5|exact abX|exact abT|exact abQ|exact aef|exact acp|exact uY|exact u5|exact uZ|exact zx|exact zu):p:=h
def YL0(h:Lens rt 0 rt' get set):Lens rt 0 rt' get set:=h
def YL1(h:Lens rt 1 rt' get set):Lens rt 1 rt' get set:=h
def YL2(h:Lens rt 2 rt' get set):Lens rt 2 rt' get set:=h
def YL3(h:Lens rt 3 rt' get set):Lens rt 3 rt' get set:=h
def YL5(h:Lens rt 5 rt' get set):Lens rt 5 rt' get set:=h
def YL4(h:Lens rt 4 rt' get set):Lens rt 4 rt' get set:=h
def YL10(h:Lens rt 10 rt' get set):Lens rt 10 rt' get set:=h
def YL6(h:Lens rt 6 rt' get set):Lens rt 6 rt' get set:=h
def YL7(h:Lens rt 7 rt' get set):Lens rt 7 rt' get set:=h
def YL8(h:Lens rt 8 rt' get set):Lens rt 8 rt' get set:=h
def YL9(h:Lens rt 9 rt' get set):Lens rt 9 rt' get set:=h
def YL11(h:Lens rt 11 rt' get set):Lens rt 11 rt' get set:=h
def adH(h:p:=by first|((with_reducible apply YL0);first|exact bM|exact bU|exact cv|exact gZ|exact kE|exact ie|exact ip|exact gY|exact oT|exact gx|exact ql|exact mT|exact qk|exact r7|exact qo|exact vT|exact r8|exact xu|exact CF|exact xt|exact yU|exact CD|exact PY|exact HW|exact HX|exact P4|exact P1)|((with_reducible apply YL1);first|exact bc|exact gX|exact fZ|exact gO|exact gN|exact jk|exact lJ|exact km|exact qn|exact qj|exact nS|exact tI|exact qm|exact CE|exact uG|exact xr|exact yT|exact HT|exact HS|exact CC)|((with_reducible apply YL2);first|exact bj|exact eI|exact ic|exact kD|exact nV|exact gy|exact tJ|exact CB|exact Mx|exact xq|exact Mw|exact HR|exact P0)|((with_reducible apply YL3);first|exact eX|exact nU|exact l5|exact r9|exact CI|exact yV|exact Mv|exact Gc|exact PZ)|((with_reducible apply YL5);first|exact lZ|exact oD|exact CA|exact CH|exact Mt|exact HY|exact HU)|((with_reducible apply YL4);first|exact eN|exact iP|exact ne|exact vU|exact Mu|exact ln67_4)|((with_reducible apply YL10);first|exact HQ|exact P3)|((with_reducible apply YL6);first|exact iO)|((with_reducible apply YL7);first|exact iN)|((with_reducible apply YL8);first|exact uH)|((with_reducible apply YL9);first|exact CG)|((with_reducible apply YL11);first|exact P2)):p:=h
def YL(h:p:=by first|with_reducible exact Lens.id _|((with_reducible apply YL0);first|exact bM|exact bU|exact cv|exact gZ|exact kE|exact ie|exact ip|exact gY|exact oT|exact gx|exact ql|exact mT|exact qk|exact r7|exact qo|exact vT|exact r8|exact xu|exact CF|exact xt|exact yU|exact CD|exact PY|exact HW|exact HX|exact P4|exact P1)|((with_reducible apply YL1);first|exact bc|exact gX|exact fZ|exact gO|exact gN|exact jk|exact lJ|exact km|exact qn|exact qj|exact nS|exact tI|exact qm|exact CE|exact uG|exact xr|exact yT|exact HT|exact HS|exact CC)|((with_reducible apply YL2);first|exact bj|exact eI|exact ic|exact kD|exact nV|exact gy|exact tJ|exact CB|exact Mx|exact xq|exact Mw|exact HR|exact P0)|((with_reducible apply YL3);first|exact eX|exact nU|exact l5|exact r9|exact CI|exact yV|exact Mv|exact Gc|exact PZ)|((with_reducible apply YL5);first|exact lZ|exact oD|exact CA|exact CH|exact Mt|exact HY|exact HU)|((with_reducible apply YL4);first|exact eN|exact iP|exact ne|exact vU|exact Mu|exact ln67_4)|((with_reducible apply YL10);first|exact HQ|exact P3)|((with_reducible apply YL6);first|exact iO)|((with_reducible apply YL7);first|exact iN)|((with_reducible apply YL8);first|exact uH)|((with_reducible apply YL9);first|exact CG)|((with_reducible apply YL11);first|exact P2)|exact Lens.id _):p:=h
def YZ(h:p:=by with_reducible first|exact Qg|exact JI|exact ii|exact eP|exact kN|exact KB|exact Jn|exact Ol|exact Aq|exact PP|exact Qt|exact Kj|exact Aj|exact BW|exact Dn|exact z86|exact z211|exact KS|exact z67|exact z143):p:=h
def ack{q:α}(ht:Ty P t rt')(h:Ev st x (.optr nm rt.n i f))(hn:aG st.heap nm=some ⟨rt,xs⟩)(hy:xs[i]?=some q)(hl:Lens rt f rt' get set)(a:NM rt)(b:NM rt'):aH P cx st ⟨dst,.load t x,ty,pos,aft,gd⟩ (SV.of rt' (get q)):=ah ht h hn hy hl
def ruD{o:BinOp}(h:aH P cx st ⟨dst,.binOp o t x y yt,ty,pos,aft,gd⟩ s):aH P cx st ⟨dst,.binOp o t x y yt,ty,pos,aft,gd⟩ s:=h
def adI{c:Operand}(h:aH P cx st ⟨dst,.pick c x y,ty,pos,aft,gd⟩ s):aH P cx st ⟨dst,.pick c x y,ty,pos,aft,gd⟩ s:=h
def YI(h:p:=by first|((with_reducible apply ai);exact Yv)|((with_reducible apply aj);exact YF;exact Yv)|((with_reducible apply ack);exact YT;exact Yv;exact Ye;exact Ye;exact YL;exact inferInstance;exact inferInstance)|((with_reducible apply a8);exact Yv)|((with_reducible apply ruD);first|((with_reducible apply cl);exact Yv;exact Yv)|((with_reducible apply dC);exact Yv;exact Yv)|((with_reducible apply Cp);exact Yv;exact Yv;exact zw)|((with_reducible apply msc);exact Yv;exact Yv)|((with_reducible apply jes);exact Yv;exact Yv)|((with_reducible apply foT);exact Yv;exact Yv)|((with_reducible apply foR);exact Yv;exact Yv)|((with_reducible apply cH);exact Yv;exact Yv;exact zw)|((with_reducible apply iz);exact Yv;exact Yv;exact zw))|((with_reducible apply adI);first|((with_reducible apply adC);exact Yv;exact Yv;exact Ye;exact zp)|((with_reducible apply Adr);exact Yv;exact Yv;exact Ye;exact zp))|((with_reducible apply aO);exact YT;exact Yv)|((with_reducible apply dw);exact YU;exact Yv)|((with_reducible apply cb);exact YU;exact Yv)|((with_reducible apply av);exact YU;exact YT;exact Yv;exact Yv;exact Ye;exact zg)|((with_reducible apply co);exact Yv)|((with_reducible apply kOf);exact Yv)|((with_reducible apply ac6);exact Yv)|((with_reducible apply be);exact YF;(case hx=>exact Yv);exact adH)|exact bk YU YT Yv Yv Ye zh):p:=h
def YR(h:p:=by first|exact .tv Yv|exact .raw Yv Ye):p:=h
def adJ(h:aH P cx st ⟨some d,o,ty,pos,aft,none⟩ s)(hd:Nat.blt d cx.n=true:=by rfl):JG P cx ops (st.put d s) rest k→JG P cx ops st (⟨some d,o,ty,pos,aft,none⟩::rest) k:=fun hr=>zJ h hr hd
def hdr{c:Bool}(hj:(ops[j]?).bind (·.dst)=some g)(hc:bg st.slots g=some (.raw (.bool c)))(h:(c==want)=true→aH P cx st ⟨some d,o,ty,pos,aft,some (j,want)⟩ s)(hd:Nat.blt d cx.n=true:=by rfl):JG P cx ops (st.put d (.gd (c==want) s)) rest k→JG P cx ops st (⟨some d,o,ty,pos,aft,some (j,want)⟩::rest) k:=fun hr=>zG hj hc h hr hd
def ruG[NM rt](hx:Rd st x rt z)(hd:Nat.blt d cx.n=true:=by rfl)(hf:fb d st.slots=true:=by rfl)(hn:aG st.heap d=none:=by rfl):JG P cx ops ⟨(d,.optr d rt.n 0 0)::st.slots,(d,⟨rt,[z]⟩)::st.heap⟩ rest k→JG P cx ops st (⟨some d,.box T x,ty,pos,aft,none⟩::rest) k:=fun hr=>Y12 hx hr hd hf hn
def adK[NM rt](hx:TyZero P T rt z)(hd:Nat.blt d cx.n=true:=by rfl)(hf:fb d st.slots=true:=by rfl)(hn:aG st.heap d=none:=by rfl):JG P cx ops ⟨(d,.optr d rt.n 0 0)::st.slots,(d,⟨rt,[z]⟩)::st.heap⟩ rest k→JG P cx ops st (⟨some d,.alloc T,ty,pos,aft,none⟩::rest) k:=fun hr=>zl hx hr hd hf hn
def mkL{c:Bool}(hj:(ops[j]?).bind (·.dst)=some g)(hc:bg st.slots g=some (.gd c0 (.raw (.bool c))))(h:(c0&&(c==want))=true→aH P cx st ⟨some d,o,ty,pos,aft,some (j,want)⟩ s)(hd:Nat.blt d cx.n=true:=by rfl):JG P cx ops (st.put d (.gd (c0&&(c==want)) s)) rest k→JG P cx ops st (⟨some d,o,ty,pos,aft,some (j,want)⟩::rest) k:=fun hr=>cf _ _ _ _ _ _ _ rfl hj hc rfl hd h hr
def InK{c:Code}(h:r→J P cx st c k):r→J P cx st c k:=h
def Yda(h:aH P cx st ⟨some d,o,ty,pos,aft,none⟩ s)(hd:Nat.blt d cx.n=true:=by rfl):JY P cx ops (st.put d s) rest k→JY P cx ops st (⟨some d,o,ty,pos,aft,none⟩::rest) k:=fun hr=>GP h hr hd
def Ydb{c:Bool}(hj:(ops[j]?).bind (·.dst)=some g)(hc:bg st.slots g=some (.raw (.bool c)))(h:(c==want)=true→aH P cx st ⟨some d,o,ty,pos,aft,some (j,want)⟩ s)(hd:Nat.blt d cx.n=true:=by rfl):JY P cx ops (st.put d (.gd (c==want) s)) rest k→JY P cx ops st (⟨some d,o,ty,pos,aft,some (j,want)⟩::rest) k:=fun hr=>JJ hj hc h hr hd
def Ydc{c:Bool}(hj:(ops[j]?).bind (·.dst)=some g)(hc:bg st.slots g=some (.gd c0 (.raw (.bool c))))(h:(c0&&(c==want))=true→aH P cx st ⟨some d,o,ty,pos,aft,some (j,want)⟩ s)(hd:Nat.blt d cx.n=true:=by rfl):JY P cx ops (st.put d (.gd (c0&&(c==want)) s)) rest k→JY P cx ops st (⟨some d,o,ty,pos,aft,some (j,want)⟩::rest) k:=fun hr=>jdw hj hc h hr hd
def Yea(h:aH P cx st ⟨some d,o,ty,pos,aft,none⟩ s)(hd:Nat.blt d cx.n=true:=by rfl):JF P cx ops (st.put d s) rest (fun a b e=>G ((some (d,s),none)::a) (PG st ⟨some d,o,ty,pos,aft,none⟩::b) ([]::e)) k→JF P cx ops st (⟨some d,o,ty,pos,aft,none⟩::rest) G k:=fun hr=>ca h hr hd
def Yeb{c:Bool}(hj:(ops[j]?).bind (·.dst)=some g)(hc:bg st.slots g=some (.raw (.bool c)))(h:(c==want)=true→aH P cx st ⟨some d,o,ty,pos,aft,some (j,want)⟩ s)(hd:Nat.blt d cx.n=true:=by rfl):JF P cx ops (st.put d (.gd (c==want) s)) rest (fun a b e=>G ((some (d,.gd (c==want) s),none)::a) (PG st ⟨some d,o,ty,pos,aft,some (j,want)⟩::b) ([]::e)) k→JF P cx ops st (⟨some d,o,ty,pos,aft,some (j,want)⟩::rest) G k:=fun hr=>Nc hj hc h hr hd
def Ydd{id:Nat}(hm:P.follows .mixedOrders=true)(hB:vh l.toArray=true):JY P cx l.toArray st l k→J P cx st (.region id l.toArray true) k:=jd hm hB
def Yef(hG:G [] [] []):JN P cx st k→JF P cx ops st [] G k:=fun h=>je0 h hG
def Yeg[NM rt](hz:TyZero P T rt z)(hd:Nat.blt d cx.n=true:=by rfl):JF P cx ops ⟨(d,.optr d rt.n 0 0)::st.slots,(d,⟨rt,[z]⟩)::st.heap⟩ rest (fun a b c=>G ((some (d,.optr d rt.n 0 0),some (d,⟨rt,[z]⟩))::a) ([d]::b) ([d]::c)) k→JF P cx ops st (⟨some d,.alloc T,ty,pos,aft,none⟩::rest) G k:=fun hr=>jea hz hr hd
def Yeh[NM rt][NM rt']{y:α}{z:γ}(ht:Ty P t rt')(hx:evS st x=some (.optr nm rt.n i f))(hn:aG st.heap nm=some ⟨rt,xs⟩)(hy:xs[i]?=some y)(hl:Lens rt f rt' get set)(hv:Rd st v rt' z):JF P cx ops ⟨st.slots,(nm,⟨rt,xs.set i (set y z)⟩)::st.heap⟩ rest (fun a b c=>G ((none,some (nm,⟨rt,xs.set i (set y z)⟩))::a) ([nm]::b) ([]::c)) k→JF P cx ops st (⟨none,.store t x v,ty,pos,aft,none⟩::rest) G k:=fun hr=>LJ ht hx hn hy hl hv hr
def YX(f:r→p:=by first|((with_reducible apply adJ);exact YI;exact rfl)|with_reducible exact aa|with_reducible exact ac|with_reducible exact ab|with_reducible exact aS|((with_reducible apply hdr);exact rfl;exact rfl;intro hg;exact YI;exact rfl)|((with_reducible apply mkL);exact rfl;exact rfl;intro hg;exact YI;exact rfl)|with_reducible exact ak|with_reducible exact am|with_reducible exact al|with_reducible exact ax|with_reducible exact az|with_reducible exact aJ|with_reducible exact bp|with_reducible exact bv|with_reducible exact bq|with_reducible exact bd|exact zC YT Ye Ye Ye YL YR|exact zC YT Ye Ye zg YL YR|exact ruG (.tv Yv)|exact adK YZ|((with_reducible apply Yda);exact YI;exact rfl)|with_reducible exact jd0|((with_reducible apply Ydb);exact rfl;exact rfl;intro hg;exact YI;exact rfl)|((with_reducible apply Ydc);exact rfl;exact rfl;intro hg;exact YI;exact rfl)|((with_reducible apply Ydd);exact mo;kernel_rfl)|((with_reducible apply Yea);exact YI;exact rfl)|((with_reducible apply Yef);kernel_rfl)|((with_reducible apply Yeb);exact rfl;exact rfl;intro hg;exact YI;exact rfl)|exact Yeg YZ|exact Yeh YT Ye Ye Ye YL YR|((with_reducible apply InK);(first|exact ac|exact ab|exact ak|exact am|exact az|exact bq))):r→p:=f
def Yc(f:r→p)(g:q→r):q→p:=fun h=>f (g h)
def Yl0f(h:p:=by repeat(first|exact .nil|refine .cons Yv ?_)):p:=h
def YK{kk:Kn}{k:FuncId}{r:SV}{xs:List Operand}(h:Ct P k ss r)(hr:JG P cx ops (st.put d r) rest kk)(ha:Args st xs ss:=by exact Yl0f)(hp:(ss.all SV.plain)=true:=by rfl)(hq:r.plain=true:=by rfl)(hd:Nat.blt d cx.n=true:=by rfl):JG P cx ops st (⟨some d,.call {callee:=.value (.func k),args:=xs.toArray,argTypes:=ts},ty,pos,aft,none⟩::rest) kk:=zJ (an h ha hp hq) hr hd
def Yk{k:FuncId}{c:Code}{r:SV}{m:Nat}(hf:P.funcs[k]?=some fn)(hm:fn.ntmps=m)(h:∀(w0:World)(ok0:Ok),J P (Cx.of w0 ok0 m) ⟨nC 0 ss,[]⟩ c (.fin fn (Di (Cx.of w0 ok0 m) r)))(hb:fn.body=some c:=by rfl)(hn:(fn.name== "runtime.NumGoroutine")=false:=by rfl)(hl:Nat.ble ss.length m=true:=by rfl)(hp:(ss.all SV.plain)=true:=by rfl):Ct P k ss r:=fld hf hb hn hm hl hp h
def Yd{s a b:Prop}(f:s→p)(g:a→b→s):a→b→p:=fun x y=>f (g x y)
def Z0{t e:Code}{b:Bool}(ht:b=true→J P cx st t k)(he:b=false→J P cx st e k)(hx:evS st x=some (.raw (.bool b)):=by rfl):J P cx st (.cond x t e) k:=af hx ht he
def Z3{c:Bool}(h:c=true→q)(g:c=false→r)(w:(c=true→q)→(c=false→r)→p:=by apply Yd;(iterate 3 apply Yc;exact YX);exact id;exact af rfl):p:=w h g
def Z4{c:Bool}(h:c=true→q)(g:c=false→r)(w:(c=true→q)→(c=false→r)→p:=by apply Yd;(iterate 4 apply Yc;exact YX);exact id;exact af rfl):p:=w h g
def Z5{c:Bool}(h:c=true→q)(g:c=false→r)(w:(c=true→q)→(c=false→r)→p:=by apply Yd;(iterate 5 apply Yc;exact YX);exact id;exact af rfl):p:=w h g
def Z6{c:Bool}(h:c=true→q)(g:c=false→r)(w:(c=true→q)→(c=false→r)→p:=by apply Yd;(iterate 6 apply Yc;exact YX);exact id;exact af rfl):p:=w h g
def Z7{c:Bool}(h:c=true→q)(g:c=false→r)(w:(c=true→q)→(c=false→r)→p:=by apply Yd;(iterate 7 apply Yc;exact YX);exact id;exact af rfl):p:=w h g
def Z8{c:Bool}(h:c=true→q)(g:c=false→r)(w:(c=true→q)→(c=false→r)→p:=by apply Yd;(iterate 8 apply Yc;exact YX);exact id;exact af rfl):p:=w h g
def Z9{c:Bool}(h:c=true→q)(g:c=false→r)(w:(c=true→q)→(c=false→r)→p:=by apply Yd;(iterate 9 apply Yc;exact YX);exact id;exact af rfl):p:=w h g
def wz{c:Bool}(h:c=true→q)(g:c=false→r)(w:(c=true→q)→(c=false→r)→p:=by apply Yd;(iterate 10 apply Yc;exact YX);exact id;exact af rfl):p:=w h g
def Jf{c:Bool}(h:c=true→q)(g:c=false→r)(w:(c=true→q)→(c=false→r)→p:=by apply Yd;(iterate 11 apply Yc;exact YX);exact id;exact af rfl):p:=w h g
def Jk{c:Bool}(h:c=true→q)(g:c=false→r)(w:(c=true→q)→(c=false→r)→p:=by apply Yd;(iterate 12 apply Yc;exact YX);exact id;exact af rfl):p:=w h g
def sm{c:Bool}(h:c=true→q)(g:c=false→r)(w:(c=true→q)→(c=false→r)→p:=by apply Yd;(iterate 13 apply Yc;exact YX);exact id;exact af rfl):p:=w h g
def Po{c:Bool}(h:c=true→q)(g:c=false→r)(w:(c=true→q)→(c=false→r)→p:=by apply Yd;(iterate 14 apply Yc;exact YX);exact id;exact af rfl):p:=w h g
def Ks{c:Bool}(h:c=true→q)(g:c=false→r)(w:(c=true→q)→(c=false→r)→p:=by apply Yd;(iterate 15 apply Yc;exact YX);exact id;exact af rfl):p:=w h g
def PI{c:Bool}(h:c=true→q)(g:c=false→r)(w:(c=true→q)→(c=false→r)→p:=by apply Yd;(iterate 16 apply Yc;exact YX);exact id;exact af rfl):p:=w h g
def O0{c:Bool}(h:c=true→q)(g:c=false→r)(w:(c=true→q)→(c=false→r)→p:=by apply Yd;(iterate 17 apply Yc;exact YX);exact id;exact af rfl):p:=w h g
def Z18{c:Bool}(h:c=true→q)(g:c=false→r)(w:(c=true→q)→(c=false→r)→p:=by apply Yd;(iterate 18 apply Yc;exact YX);exact id;exact af rfl):p:=w h g
def Z19{c:Bool}(h:c=true→q)(g:c=false→r)(w:(c=true→q)→(c=false→r)→p:=by apply Yd;(iterate 19 apply Yc;exact YX);exact id;exact af rfl):p:=w h g
def GJ{c:Bool}(h:c=true→q)(g:c=false→r)(w:(c=true→q)→(c=false→r)→p:=by apply Yd;(iterate 20 apply Yc;exact YX);exact id;exact af rfl):p:=w h g
def rZ{c:Bool}(h:c=true→q)(g:c=false→r)(w:(c=true→q)→(c=false→r)→p:=by apply Yd;(iterate 21 apply Yc;exact YX);exact id;exact af rfl):p:=w h g
def Z22{c:Bool}(h:c=true→q)(g:c=false→r)(w:(c=true→q)→(c=false→r)→p:=by apply Yd;(iterate 22 apply Yc;exact YX);exact id;exact af rfl):p:=w h g
def Z23{c:Bool}(h:c=true→q)(g:c=false→r)(w:(c=true→q)→(c=false→r)→p:=by apply Yd;(iterate 23 apply Yc;exact YX);exact id;exact af rfl):p:=w h g
def Z24{c:Bool}(h:c=true→q)(g:c=false→r)(w:(c=true→q)→(c=false→r)→p:=by apply Yd;(iterate 24 apply Yc;exact YX);exact id;exact af rfl):p:=w h g
def Z25{c:Bool}(h:c=true→q)(g:c=false→r)(w:(c=true→q)→(c=false→r)→p:=by apply Yd;(iterate 25 apply Yc;exact YX);exact id;exact af rfl):p:=w h g
def Z27{c:Bool}(h:c=true→q)(g:c=false→r)(w:(c=true→q)→(c=false→r)→p:=by apply Yd;(iterate 27 apply Yc;exact YX);exact id;exact af rfl):p:=w h g
def Z28{c:Bool}(h:c=true→q)(g:c=false→r)(w:(c=true→q)→(c=false→r)→p:=by apply Yd;(iterate 28 apply Yc;exact YX);exact id;exact af rfl):p:=w h g
def Z31{c:Bool}(h:c=true→q)(g:c=false→r)(w:(c=true→q)→(c=false→r)→p:=by apply Yd;(iterate 31 apply Yc;exact YX);exact id;exact af rfl):p:=w h g
def Z32{c:Bool}(h:c=true→q)(g:c=false→r)(w:(c=true→q)→(c=false→r)→p:=by apply Yd;(iterate 32 apply Yc;exact YX);exact id;exact af rfl):p:=w h g
def Z33{c:Bool}(h:c=true→q)(g:c=false→r)(w:(c=true→q)→(c=false→r)→p:=by apply Yd;(iterate 33 apply Yc;exact YX);exact id;exact af rfl):p:=w h g
def Z35{c:Bool}(h:c=true→q)(g:c=false→r)(w:(c=true→q)→(c=false→r)→p:=by apply Yd;(iterate 35 apply Yc;exact YX);exact id;exact af rfl):p:=w h g
def Z42{c:Bool}(h:c=true→q)(g:c=false→r)(w:(c=true→q)→(c=false→r)→p:=by apply Yd;(iterate 42 apply Yc;exact YX);exact id;exact af rfl):p:=w h g
def Y1(h:q)(w:q→p:=by (iterate 1 apply Yc;exact YX);exact id):p:=w h
def Y2(h:q)(w:q→p:=by (iterate 2 apply Yc;exact YX);exact id):p:=w h
def Y3(h:q)(w:q→p:=by (iterate 3 apply Yc;exact YX);exact id):p:=w h
def Y4(h:q)(w:q→p:=by (iterate 4 apply Yc;exact YX);exact id):p:=w h
def Y5(h:q)(w:q→p:=by (iterate 5 apply Yc;exact YX);exact id):p:=w h
def Y6(h:q)(w:q→p:=by (iterate 6 apply Yc;exact YX);exact id):p:=w h
def Y7(h:q)(w:q→p:=by (iterate 7 apply Yc;exact YX);exact id):p:=w h
def Y8(h:q)(w:q→p:=by (iterate 8 apply Yc;exact YX);exact id):p:=w h
def Y9(h:q)(w:q→p:=by (iterate 9 apply Yc;exact YX);exact id):p:=w h
def Qh(h:q)(w:q→p:=by (iterate 10 apply Yc;exact YX);exact id):p:=w h
def dy(h:q)(w:q→p:=by (iterate 11 apply Yc;exact YX);exact id):p:=w h
def zb(h:q)(w:q→p:=by (iterate 12 apply Yc;exact YX);exact id):p:=w h
def MY(h:q)(w:q→p:=by (iterate 13 apply Yc;exact YX);exact id):p:=w h
def Lc(h:q)(w:q→p:=by (iterate 14 apply Yc;exact YX);exact id):p:=w h
def Qy(h:q)(w:q→p:=by (iterate 15 apply Yc;exact YX);exact id):p:=w h
def J4(h:q)(w:q→p:=by (iterate 16 apply Yc;exact YX);exact id):p:=w h
def pA(h:q)(w:q→p:=by (iterate 17 apply Yc;exact YX);exact id):p:=w h
def Ki(h:q)(w:q→p:=by (iterate 18 apply Yc;exact YX);exact id):p:=w h
def E0(h:q)(w:q→p:=by (iterate 19 apply Yc;exact YX);exact id):p:=w h
def Y20(h:q)(w:q→p:=by (iterate 20 apply Yc;exact YX);exact id):p:=w h
def KO(h:q)(w:q→p:=by (iterate 21 apply Yc;exact YX);exact id):p:=w h
def Y22(h:q)(w:q→p:=by (iterate 22 apply Yc;exact YX);exact id):p:=w h
def Y23(h:q)(w:q→p:=by (iterate 23 apply Yc;exact YX);exact id):p:=w h
def Y25(h:q)(w:q→p:=by (iterate 25 apply Yc;exact YX);exact id):p:=w h
def Y26(h:q)(w:q→p:=by (iterate 26 apply Yc;exact YX);exact id):p:=w h
def Y27(h:q)(w:q→p:=by (iterate 27 apply Yc;exact YX);exact id):p:=w h
def Y31(h:q)(w:q→p:=by (iterate 31 apply Yc;exact YX);exact id):p:=w h
def YA(h:p:=by exact Lens.fst (Lens.id _)):p:=h
def Kv(h:p:=by exact Lens.snd (Lens.id _) rfl):p:=h
def J5(h:p:=by exact Lens.snd (Lens.fst (Lens.id _)) rfl):p:=h
def ij(h:p:=by exact Lens.snd (Lens.snd (Lens.fst (Lens.id _)) rfl) rfl):p:=h
def I6(h:p:=by exact Lens.snd (Lens.snd (Lens.snd (Lens.id _) rfl) rfl) rfl):p:=h
def Jl(h:p:=by exact Lens.snd (Lens.snd (Lens.snd (Lens.fst (Lens.id _)) rfl) rfl) rfl):p:=h
def Yl4f(h:p:=by exact Lens.snd (Lens.snd (Lens.snd (Lens.snd (Lens.fst (Lens.id _)) rfl) rfl) rfl) rfl):p:=h
def Yl5f(h:p:=by exact Lens.snd (Lens.snd (Lens.snd (Lens.snd (Lens.snd (Lens.fst (Lens.id _)) rfl) rfl) rfl) rfl) rfl):p:=h
def Yl6f(h:p:=by exact Lens.snd (Lens.snd (Lens.snd (Lens.snd (Lens.snd (Lens.snd (Lens.fst (Lens.id _)) rfl) rfl) rfl) rfl) rfl) rfl):p:=h
def Yl7(h:p:=by exact Lens.snd (Lens.snd (Lens.snd (Lens.snd (Lens.snd (Lens.snd (Lens.snd (Lens.id _) rfl) rfl) rfl) rfl) rfl) rfl) rfl):p:=h
def Yl4(h:p:=by exact Lens.snd (Lens.snd (Lens.snd (Lens.snd (Lens.id _) rfl) rfl) rfl) rfl):p:=h
def FT(h:p:=by exact Lens.snd (Lens.snd (Lens.id _) rfl) rfl):p:=h
def Yl7f(h:p:=by exact Lens.snd (Lens.snd (Lens.snd (Lens.snd (Lens.snd (Lens.snd (Lens.snd (Lens.fst (Lens.id _)) rfl) rfl) rfl) rfl) rfl) rfl) rfl):p:=h
def Yl8f(h:p:=by exact Lens.snd (Lens.snd (Lens.snd (Lens.snd (Lens.snd (Lens.snd (Lens.snd (Lens.snd (Lens.fst (Lens.id _)) rfl) rfl) rfl) rfl) rfl) rfl) rfl) rfl):p:=h
def Yl9f(h:p:=by exact Lens.snd (Lens.snd (Lens.snd (Lens.snd (Lens.snd (Lens.snd (Lens.snd (Lens.snd (Lens.snd (Lens.fst (Lens.id _)) rfl) rfl) rfl) rfl) rfl) rfl) rfl) rfl) rfl):p:=h
def Yl10f(h:p:=by exact Lens.snd (Lens.snd (Lens.snd (Lens.snd (Lens.snd (Lens.snd (Lens.snd (Lens.snd (Lens.snd (Lens.snd (Lens.fst (Lens.id _)) rfl) rfl) rfl) rfl) rfl) rfl) rfl) rfl) rfl) rfl):p:=h
def Yl11(h:p:=by exact Lens.snd (Lens.snd (Lens.snd (Lens.snd (Lens.snd (Lens.snd (Lens.snd (Lens.snd (Lens.snd (Lens.snd (Lens.snd (Lens.id _) rfl) rfl) rfl) rfl) rfl) rfl) rfl) rfl) rfl) rfl) rfl):p:=h
def Yl5(h:p:=by exact Lens.snd (Lens.snd (Lens.snd (Lens.snd (Lens.snd (Lens.id _) rfl) rfl) rfl) rfl) rfl):p:=h
def Gh(h:p:=by apply eK;rotate_left;(repeat(first|exact cN _|exact gk|exact bN|exact jds|apply aX));exact zk):p:=h
@[simp] abbrev Sx(x:Int):SV:=.raw (.int .i64 x)
@[simp] abbrev Sy(k:Nat)(r:RT α):SV:=.optr k r.n 0 0
def Z.{u}{α:Sort u}{a:α}:a=a:=rfl
section
open Go.Sort (Holds putRow grow putCells mapBlock onCells)
structure GM(P:Program)(k:FuncId)(F:List Int→List Int)(m:List Int→Option Nat):Prop where
 ent:∀w args,(callFunc k args).run P w=.ok (.enter k args) w
 len:∀zs,(F zs).length=zs.length
 cut:∀zs n,m zs=some n→n≤zs.length
 some_:∀blk off cap zs w,Holds (Value.int .i64) w blk off zs.toArray→blk<w.heap.size→zs.length<4611686018427387904→zs.length≤cap→
  Calls P k #[.slice (some ⟨blk,off,none⟩) zs.length cap] w fun e w'=>e=.returned (match m zs with|none=>.tuple #[]|some n=>.slice (some ⟨blk,off,none⟩) n cap)∧
   ∃q os,w'=grow (putRow (Value.int .i64) (Sort.ahead w q) blk off (F zs).toArray) os
 none_:∀A cap w,Calls P k #[.slice A 0 cap] w fun e w'=>e=.returned (match m []with|none=>.tuple #[]|some _=>.slice A 0 cap)∧w'=w
section
variable{a:Act}{c:Code}
def adL{b o:Nat}{xs:List Int}(h:gT (ay .i64) w ok b o xs):Holds (Value.int .i64) w b o xs.toArray:=by
 obtain⟨cur,e,h1,h2,h3⟩:=h;intro j hj;have hj':j<xs.length:=JP;obtain⟨cs,h4,h5⟩:=h3 j xs[j] (RY hj');have h4:cs=[.int .i64 xs[j]]:=h4;subst h4;have h6:=h5 0 _ rfl;have h6:cur[o+j]?=some (.int .i64 xs[j]):=by simpa[ay]using h6
 have hsz:o+j<cur.size:=(Gm.1 h6).1;refine⟨?_,?_⟩;simp[World.cell?,h1,h6,hj'];simp[World.frozen?,h1]
def ac1(o:Nat)(d:List Int)(cur:Array Value)(k:Nat):(putCells (Value.int .i64) o d.toArray cur)[k]?=if o≤k∧k<o+d.length then(cur[k]?).map (fun _=>Value.int .i64 (d[k-o]?.getD 0))else cur[k]?:=by simp only[putCells,Array.getElem?_mapIdx];by_cases h:o≤k∧k<o+d.length;have:k-o<d.length:=So;cases cur[k]?<;>simp[h,this];cases cur[k]?<;>simp[h]
def Y14(hi:InvB cx st β a w){b o:Nat}{xs ys:List Int}{q:Nat}{os:Array Obj}(hn:aG st.heap nm=some ⟨ay .i64,xs⟩)(hb:β nm=some (b,o))(hlen:ys.length=xs.length):
 InvB cx ⟨st.slots,(nm,⟨ay .i64,ys⟩)::st.heap⟩ (fun k=>if k=nm then some (b,o)else β k) a (grow (putRow (Value.int .i64) (Sort.ahead w q) b o ys.toArray) os):=by
 obtain⟨cur,e,h1,h2,h3⟩:gT (ay .i64) w (bY cx st.heap β w) b o xs:=by have:=hi.rows nm _ hn;rw[hb]at this;exact this.1 NM.no
 have h2:o+xs.length*1≤cur.size:=h2;have hset:=InvB.setRow (rt':=ay .i64) (xs':=ys) (cur':=putCells (Value.int .i64) o ys.toArray cur) hi hn hb h1 (by simp[putCells]) (.inl rfl) (by simp[putCells,ay];omega) (fun i x hx=>?_);refine hset.later ⟨rfl,rfl,rfl,?_,fun k' hk=>?_,Nat.le_add_right _ _⟩;simp[grow,putRow,mapBlock,World.setRow];simp only[World.setRow,Array.size_modify]at hk;simp only[grow,putRow,mapBlock,Sort.heap_ahead];rw[Gn Og];by_cases hkb:k'=b;subst hkb;rw[setRow_heap _ _ _ _ _ _ h1,Array.getElem?_modify,Cg rfl,h1];rfl;rw[setRow_other _ _ _ _ hkb,Array.getElem?_modify,zE (Ne.symm hkb)];refine⟨[.int .i64 x],rfl,fun j v hj=>?_⟩;have hi':i<ys.length:=(Y0.1 hx).1;cases j with
 | succ j=>simp at hj
 | zero=>simp at hj;subst hj;show(putCells (Value.int .i64) o ys.toArray cur)[o+i*1+0]?=_;rw[show o+i*1+0=o+i by omega,ac1,Cg So,PB So,Nat.add_sub_cancel_left,hx];rfl
def InvB.setEmpty(hi:InvB cx st β a w)(hn:aG st.heap nm=some hb):InvB cx ⟨st.slots,(nm,hb)::st.heap⟩ β a w:=by
 have hh:∀k,aG ((nm,hb)::st.heap) k=aG st.heap k:=fun k=>by rw[bA];split;rename_i e;rw[←e,hn];rfl
 have hok:∀b,bY cx st.heap β w b→bY cx ((nm,hb)::st.heap) β w b∧w.heap[b]?=w.heap[b]?:=fun b h=>⟨⟨h.1,h.2.1,fun k x hk=>h.2.2 k x abk⟩,rfl⟩;refine⟨hi.below,hi.old,hi.defers,hi.size,fun k x hk=>hi.own k x abk,fun k k' x y hk hk'=>hi.sep k k' x y abk (by rw[hh]at hk';exact hk'),fun k x hk=>?_,fun i s hs=>?_⟩;exact HB.keep hok (fun _ _=>rfl) (hi.rows k x abk);obtain⟨v,h1,h2⟩:=hi.slots i s hs;exact⟨v,h1,SV.keep hok (fun nm _=>⟨rfl,fun b o _ cur e fr hc=>⟨cur,e,fr,hc,rfl⟩⟩) h2⟩
def DB(h:GM P kf F m){xs:List Int}(hx:Ev st x (.own nm (ay .i64).n 0 n))(hn:aG st.heap nm=some ⟨ay .i64,xs⟩)(hfull:n=xs.length)(hbig:xs.length<4611686018427387904)(hi:InvB cx st β a w):
 Calls P kf #[a.eval x] w fun e w'=>∃v β',e=.returned v∧InvB cx ⟨st.slots,(nm,⟨ay .i64,F xs⟩)::st.heap⟩ β' a w'∧(m xs=none→v=.tuple #[])∧∀j,m xs=some j→(SV.own nm (ay .i64).n 0 j).holds β' w' (bY cx ((nm,⟨ay .i64,F xs⟩)::st.heap) β' w') v:=by
 subst hfull;have hv:=hi.ev hx;have hrow:=hi.rows nm _ hn;simp only[SV.holds,Yq]at hv;have hnil:xs=[]→aG st.heap nm=some ⟨ay .i64,F xs⟩:=fun e=>by subst e;rw[hn];have:F []=[]:=jC.1 (h.len []);rw[this]
 cases hb:β nm with
 | none=>rw[hb]at hrow hv;have hxs:xs=[]:=hrow;subst hxs;obtain⟨hv,_⟩:=hv;rw[hv];refine(h.none_ none 0 w).mono ?_;rintro e w' ⟨rfl,rfl⟩;refine⟨_,β,rfl,hi.setEmpty (hnil rfl),fun hm=>by rw[hm],fun j hm=>?_⟩;have hj:=h.cut _ _ hm;have hj:j=0:=JP;subst hj;simp only[hm,SV.holds,Yq,hb];exact⟨trivial,trivial⟩
 | some bo=>
  obtain⟨b,o⟩:=bo;rw[hb]at hrow hv;obtain⟨A,cap,hv,hc1,hc2,hc3⟩:=hv;rw[hv];by_cases h0:xs=[];subst h0;refine(h.none_ A cap w).mono ?_;rintro e w' ⟨rfl,rfl⟩;refine⟨_,β,rfl,hi.setEmpty (hnil rfl),fun hm=>by rw[hm],fun j hm=>?_⟩;have hj:=h.cut _ _ hm;have hj:j=0:=JP;subst hj;simp only[hm,SV.holds,Yq,hb];refine⟨A,cap,rfl,P8 _,hc2,?_⟩;rcases hc3 with⟨_,e0⟩|hc3;exact .inl ⟨trivial,e0⟩;exact .inr hc3;have hpos:xs.length≠0:=fun e=>h0 (jC.1 e);rcases hc3 with⟨e0,_⟩|⟨hA,cur,e,fr,hcur,hfit⟩;exact absurd e0 hpos;have hA:A=some ⟨b,o,none⟩:=by rw[hA];simp
  subst hA;refine(h.some_ b o cap xs w (adL (hrow.1 NM.no)) (InvB.cell_lt hcur) hbig hc1).mono ?_;rintro e' w' ⟨rfl,q,os,rfl⟩;refine⟨_,_,rfl,Y14 hi hn hb (h.len xs),fun hm=>by rw[hm],fun j hm=>?_⟩;have hj:=h.cut _ _ hm;simp only[hm,SV.holds,Yq,Cg];refine⟨_,cap,rfl,wb hj hc1,hc2,.inr ⟨Sp,?_⟩⟩;refine⟨putCells (Value.int .i64) o (F xs).toArray cur,e,fr,?_,by simpa[putCells]using hfit⟩;simp only[grow,putRow,mapBlock,Sort.heap_ahead];rw[Gn (by simpa using InvB.cell_lt hcur),Array.getElem?_modify,Cg rfl,hcur];rfl
def z90(h:GM P kf F m){xs:List Int}(hx:Ev st x (.own nm (ay .i64).n 0 n))(hn:aG st.heap nm=some ⟨ay .i64,xs⟩)(hfull:n=xs.length)(hbig:xs.length<4611686018427387904)(hm:∀zs,m zs=none)(hd:Nat.blt d cx.n=true):
 OS P cx ⟨some d,.call {callee:=.value (.func kf),args:=#[x],argTypes:=ts},ty,pos,aft,gd⟩ st ⟨(d,.raw (.tuple #[]))::st.slots,(nm,⟨ay .i64,F xs⟩)::st.heap⟩:=by
 rintro a w ⟨β,hi⟩ Q;have hrun:(execOp a.eval ⟨some d,.call {callee:=.value (.func kf),args:=#[x],argTypes:=ts},ty,pos,aft,gd⟩).run P w=.ok (.enter kf #[a.eval x]) w:=by exact Xb
 unfold Oper.wp;rw[hrun,Oper.upon_enter];refine(DB h hx hn hfull hbig hi).mono ?_;rintro e w' ⟨v,β',rfl,hi',hv,_⟩;exact⟨β',hi'.put PX (hv (hm _))⟩
def uu{m:List Int→Nat}(h:GM P kf F (fun zs=>some (m zs))){xs:List Int}(hx:Ev st x (.own nm (ay .i64).n 0 n))(hn:aG st.heap nm=some ⟨ay .i64,xs⟩)(hfull:n=xs.length)(hbig:xs.length<4611686018427387904)(hd:Nat.blt d cx.n=true):
 OS P cx ⟨some d,.call {callee:=.value (.func kf),args:=#[x],argTypes:=ts},ty,pos,aft,gd⟩ st ⟨(d,.own nm (ay .i64).n 0 (m xs))::st.slots,(nm,⟨ay .i64,F xs⟩)::st.heap⟩:=by
 rintro a w ⟨β,hi⟩ Q;have hrun:(execOp a.eval ⟨some d,.call {callee:=.value (.func kf),args:=#[x],argTypes:=ts},ty,pos,aft,gd⟩).run P w=.ok (.enter kf #[a.eval x]) w:=by exact Xb
 unfold Oper.wp;rw[hrun,Oper.upon_enter];refine(DB h hx hn hfull hbig hi).mono ?_;rintro e w' ⟨v,β',rfl,hi',_,hv⟩;exact⟨β',hi'.put PX (hv _ rfl)⟩
end
end
end Go.Eng
