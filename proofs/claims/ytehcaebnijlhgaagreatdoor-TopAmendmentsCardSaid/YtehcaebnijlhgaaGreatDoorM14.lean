import Derived.Test.YtehcaebnijlhgaaGreatDoorM13
set_option linter.all false
set_option maxRecDepth 100000
set_option maxHeartbeats 9000000
namespace Go.Eng
open Go.Proofs Tryz
variable{D:Int→Prop}{args:List aN}{d date m z:Int}{e:List aF}{i k r:Nat}{l:bZ}{p:ba→Bool}{rs:List ba}{s t:aL}{sg:bG}{x y:cP}{α β:Type}
abbrev D5:=(bF rHd (bF rHd rHd))
def OQ:TyZero prog 26 D5 ((none,0,0),((none,0,0),(none,0,0))):=eK zk ((aX (Sh) ((aX (Sh) (Sh)))))
def yP:Lens D5 0 rHd (fun d=>d.1) (fun d x=>(x,d.2)):=(Lens.fst (Lens.id rHd))
abbrev D4:=(bF (ag dl) (bF rHd rHd))
def yO:Lens D4 1 rHd (fun d=>d.2.1) (fun d x=>(d.1,(x,d.2.2))):=(Lens.snd (Lens.fst (Lens.id rHd)) rfl)
abbrev D3:=(bF (ag dl) (bF (ag b9) rHd))
def yN:Lens D3 2 rHd (fun d=>d.2.2) (fun d x=>(d.1,(d.2.1,x))):=(Lens.snd (Lens.snd (Lens.id rHd) rfl) rfl)
def Rc:Ty prog 22 rHd:=by obtain⟨⟨de,hu,hd⟩,i0,hi0,hs⟩:=ku;exact⟨⟨de,hu,hd⟩,i0,hi0,hs⟩
def Sw:Ty prog 23 rHd:=Zr
def Sv:Ty prog 24 rHd:=Zt
def RB(d:Int)(l:bZ):bZ:=(l.1,l.2.1.map (qT d),l.2.2.map (qW d))
def OH(l:bZ):Prop:=(l.1.length≤1000∧∀e∈l.1,e.2.length≤1000)∧(l.2.1.length≤1000∧∀t∈l.2.1,t.2.2.2.length≤1000)∧l.2.2.length≤1000∧∀s∈l.2.2,SLim s
def vP(f:α→β){l:List α}(h:k<l.length):(l.take (k+1)).map f=(l.take k).map f++[f l[k]]:=by exact Xd
def yG(f:α→β)(l:List α)(k:Nat):((l.take k).map f).length≤l.length:=QE
def yH(f:α→β){l:List α}(h:l.length≤k):(l.take k).map f=l.map f:=by rw[fV h]
def MJ(l:bZ)(date:Int)(hL:OH l):Ct prog 148 [.tv bl l,Sx date] (.tv bl (RB date l)):=by
 refine Yk func148 ntmps148 fun w0 ok0=>?_;obtain⟨⟨hE1,hE2⟩,⟨hT1,hT2⟩,hS1,hS2⟩:=hL;refine Y4 ?_;refine zQ [1,2,4] [2,4] (aa (zR ?_));refine zl OQ (zQ [1,2,4,5] [2,4,5] (aa (ac (ac ?_))));refine iB 5 70 dl Z Z Z ?_;refine Y5 ?_;refine zQ [1,2,4,5,13,14,15] [2,4,5,70] (aa (az ?_));refine bf (ι:=Nat×Option Addr×Nat) (fun(k,A,cap)=>⟨[(13,.tv (ag dl) l.1),(14,Sx l.1.length),(15,Sx ((k:Nat))),(2,Sy 2 bl),(4,Sy 4 bl),(1,Sx date),(5,.lnk (Sy 5 bl) (.slice A ((l.1.take k).map id).length cap) (.own 70 dl.n 0 ((l.1.take k).map id).length))],[(2,⟨bl,[l]⟩),(4,⟨bl,[([],[],[])]⟩),(5,⟨D5,[((A,((l.1.take k).map id).length,cap),(none,0,0),(none,0,0))]⟩),(70,⟨dl,((l.1.take k).map id)⟩)]⟩) (fun(k,A,cap)=>k≤l.1.length) (fun(k,A,cap)=>l.1.length-k) (0,none,0) (P8 _) (fun a w hi=>(zI hi)) ?_;rintro⟨k,A,cap⟩ hk;have q4:=yG id l.1 k;refine zR (zt Z Z (zQ [1,2,4,5,13,14,15,16] [2,4,5,70] (aa (ac ?_))));refine Z0 ?_ ?_<;>intro h3;have h3:k<l.1.length:=Av;have hs:=vP id h3;have hsl:=congrArg List.length hs;rw[Yl]at hsl;have hge:=hE2 _ (aA h3);refine Qh ?_;refine zQ [1,2,4,5,7,13,14,15] [2,4,5,7,70] (aa (zR ?_));refine Y2 ?_;refine zJ (an (BO _ (wb hge cy)) (.cons (.b Z) .nil) Z Z) (Y2 ?_);refine zQ [1,2,4,5,7,13,14,15] [2,4,5,7,70] (aa (ab ?_));refine zJ (aj e9 (.l1 Z)) (zJ (ah (rt:=D5) Rc (.b Z) Z Z yP) ?_);refine jD 5 24 Z Z Z ?_;refine Y1 ?_;refine zJ (bP (rt:=dl) mc iR Dn Z (.cons (.tv (.b Z)) .nil) Z Z) (zV [1,2,4,5,13,14,15] mc iR Dn RV Z Z (.tv (.b Z)) ?_);refine ge 5 27 Z Z (fun A2 cap2=>?_);refine zJ (aj e9 (.l1 Z)) (zO (bH (rt:=D5) Rc (.b Z) Z Z yP (.raw (d:=(A2,_,cap2)) (.b Z) Z)) (zQ [1,2,4,5,13,14,15] [2,4,5,70] (aJ (aa (ab ?_)))));refine Y2 ?_;refine zQ [1,2,4,5,13,14,15] [2,4,5,70] ?_;first|(have _hA2:=A2;exact aE (fun a w hi=>⟨(k+1,A2,cap2),QB,Em,Sub.inv ⟨YG,XF⟩ hi⟩))|exact aE (fun a w hi=>⟨(k+1,A,cap),QB,Em,Sub.inv ⟨YG,XF⟩ hi⟩)
 have h3:l.1.length≤k:=Av;refine Y7 ?_;refine dv (rt:=dl) 70 5 (bQ 70 _) Z Z Sp (a6 70 _) (bm 70 _) ?_;rw[Pv,FR,yH id h3];rw[List.map_id];refine eg 5 5 D4 (l.1,(none,0,0),(none,0,0)) (eC _ dc) Z Z Z ?_;refine iB 5 71 b9 Z Z Z ?_;refine Y5 ?_;refine zQ [1,2,4,5,31,32,33] [2,4,5,71] (aa (az ?_));refine bf (ι:=Nat×Option Addr×Nat) (fun(k,A,cap)=>⟨[(31,.tv (ag b9) l.2.1),(32,Sx l.2.1.length),(33,Sx ((k:Nat))),(2,Sy 2 bl),(4,Sy 4 bl),(1,Sx date),(5,.lnk (Sy 5 bl) (.slice A ((l.2.1.take k).map (qT date)).length cap) (.own 71 b9.n 0 ((l.2.1.take k).map (qT date)).length))],[(2,⟨bl,[l]⟩),(4,⟨bl,[([],[],[])]⟩),(5,⟨D4,[(l.1,(A,((l.2.1.take k).map (qT date)).length,cap),(none,0,0))]⟩),(71,⟨b9,((l.2.1.take k).map (qT date))⟩)]⟩) (fun(k,A,cap)=>k≤l.2.1.length) (fun(k,A,cap)=>l.2.1.length-k) (0,none,0) (P8 _) (fun a w hi=>(zI hi)) ?_;rintro⟨k,A,cap⟩ hk;have q4:=yG (qT date) l.2.1 k;refine zR (zt Z Z (zQ [1,2,4,5,31,32,33,34] [2,4,5,71] (aa (ac ?_))));refine Z0 ?_ ?_<;>intro h9;have h9:k<l.2.1.length:=Qz;have hs:=vP (qT date) h9;have hsl:=congrArg List.length hs;rw[Yl]at hsl;have hgt:=hT2 _ (aA h9);refine Qh ?_;refine zQ [1,2,4,5,9,31,32,33] [2,4,5,9,71] (aa ?_);refine my 6 mo zk zk cy (zS (aj eu (.l1 Z)) (zS (ah (rt:=D4) Sw (.b Z) Z Z yO) (zS (ah eZ (.b Z) Z Z (Lens.id _)) (zS (ai (.b Z)) (zS (an (FL _ _ hgt) (.cons (.b Z) (.cons (.b Z) .nil)) Z Z) (zS (bP (rt:=b9) ju eZ Aq Z (.cons (.tv (.b Z)) .nil) Z Z) (AS.nil))))))) ?_;refine uI 5 38 Z Z Z ?_;refine oE _ Z Z zk (bX [1,2,4,5,31,32,33] ju eZ Aq Z RU (.b Z) Z PJ (.tv (.b rfl)) Fj PJ rfl (.cons rfl (.cons rfl (.cons rfl (.cons rfl (.cons rfl (.cons rfl (.cons rfl .nil))))))) rfl) ?_;refine mv 5 43 Z Z (fun A2 cap2=>?_);refine kF _ _ Z Z Z Z zk (aj eu (.l1 Z)) ?_;refine oE _ Z Z zk (bH (rt:=D4) Sw (.b Z) Z Z yO (.raw (d:=(A2,_,cap2)) (.b Z) Z)) ?_;refine oW Z ?_;refine zK [1,2,4,5,31,32,33] [2,4,5,71] (aJ (aa (ab ?_)));refine Y2 ?_;refine zQ [1,2,4,5,31,32,33] [2,4,5,71] ?_;first|(have _hA2:=A2;exact aE (fun a w hi=>⟨(k+1,A2,cap2),QB,Em,Sub.inv ⟨YG,XD⟩ hi⟩))|exact aE (fun a w hi=>⟨(k+1,A,cap),QB,Em,Sub.inv ⟨YG,XD⟩ hi⟩)
 have h9:l.2.1.length≤k:=Qz;refine Y7 ?_;refine dv (rt:=b9) 71 5 (bQ 71 _) Z Z Sp (a6 71 _) (bm 71 _) ?_;rw[Pv,FR,yH (qT date) h9];refine eg 5 5 D3 (l.1,l.2.1.map (qT date),(none,0,0)) (aY _ (eC _ dc)) Z Z Z ?_;refine iB 5 72 bw Z Z Z ?_;refine Y5 ?_;refine zQ [1,4,5,47,48,49] [4,5,72] (aa (az ?_));refine bf (ι:=Nat×Option Addr×Nat) (fun(k,A,cap)=>⟨[(47,.tv (ag bw) l.2.2),(48,Sx l.2.2.length),(49,Sx ((k:Nat))),(4,Sy 4 bl),(1,Sx date),(5,.lnk (Sy 5 bl) (.slice A ((l.2.2.take k).map (qW date)).length cap) (.own 72 bw.n 0 ((l.2.2.take k).map (qW date)).length))],[(4,⟨bl,[([],[],[])]⟩),(5,⟨D3,[(l.1,l.2.1.map (qT date),(A,((l.2.2.take k).map (qW date)).length,cap))]⟩),(72,⟨bw,((l.2.2.take k).map (qW date))⟩)]⟩) (fun(k,A,cap)=>k≤l.2.2.length) (fun(k,A,cap)=>l.2.2.length-k) (0,none,0) (P8 _) (fun a w hi=>(zI hi)) ?_;rintro⟨k,A,cap⟩ hk;have q4:=yG (qW date) l.2.2 k;refine zR (zt Z Z (zQ [1,4,5,47,48,49,50] [4,5,72] (aa (ac ?_))));refine Z0 ?_ ?_<;>intro h14;have h14:k<l.2.2.length:=HK;have hs:=vP (qW date) h14;have hsl:=congrArg List.length hs;rw[Yl]at hsl;have hgs:=hS2 _ (aA h14);refine Qh ?_;refine zQ [1,4,5,11,47,48,49] [4,5,11,72] (aa ?_);refine my 6 mo zk zk cy (zS (aj dx (.l1 Z)) (zS (ah (rt:=D3) Sv (.b Z) Z Z yN) (zS (ah dO (.b Z) Z Z (Lens.id _)) (zS (ai (.b Z)) (zS (an (FO _ _ hgs) (.cons (.b Z) (.cons (.b Z) .nil)) Z Z) (zS (bP (rt:=bw) ga dO KB Z (.cons (.tv (.b Z)) .nil) Z Z) (AS.nil))))))) ?_;refine uI 5 54 Z Z Z ?_;refine oE _ Z Z zk (bX [1,4,5,47,48,49] ga dO KB Z by81 (.b Z) Z PJ (.tv (.b rfl)) Fj PJ rfl (.cons rfl (.cons rfl (.cons rfl (.cons rfl (.cons rfl (.cons rfl .nil)))))) rfl) ?_;refine mv 5 59 Z Z (fun A2 cap2=>?_);refine kF _ _ Z Z Z Z zk (aj dx (.l1 Z)) ?_;refine oE _ Z Z zk (bH (rt:=D3) Sv (.b Z) Z Z yN (.raw (d:=(A2,_,cap2)) (.b Z) Z)) ?_;refine oW Z ?_;refine zK [1,4,5,47,48,49] [4,5,72] (aJ (aa (ab ?_)));refine Y2 ?_;refine zQ [1,4,5,47,48,49] [4,5,72] ?_;first|(have _hA2:=A2;exact aE (fun a w hi=>⟨(k+1,A2,cap2),QB,Em,Sub.inv ⟨YG,XE⟩ hi⟩))|exact aE (fun a w hi=>⟨(k+1,A,cap),QB,Em,Sub.inv ⟨YG,XE⟩ hi⟩)
 have h14:l.2.2.length≤k:=HK;refine Y6 ?_;refine dv (rt:=bw) 72 5 (bQ 72 _) Z Z Sp (a6 72 _) (bm 72 _) ?_;rw[Pv,FR,yH (qW date) h14];refine eg 5 5 bl (RB date l) (aY _ (aY _ dc)) Z Z Z ?_;refine Y3 ?_;refine zQ [4] [4] (aa (am ?_));exact cQ results148 (aq dj Z Z Z (Lens.id bl)) Z Z
abbrev mN:=(bF (ag (ay .i64)) (bF (ag ct) (bF rHd rHd)))
def KQ:TyZero prog 143 mN ([],([],((none,0,0),(none,0,0)))):=eK zk ((aX (bN) ((aX (bN) ((aX (lw) (lw)))))))
def Ex:Lens mN 0 (ag (ay .i64)) (fun d=>d.1) (fun d x=>(x,d.2)):=(Lens.fst (Lens.id (ag (ay .i64))))
def wJ:Lens mN 1 (ag ct) (fun d=>d.2.1) (fun d x=>(d.1,(x,d.2.2))):=(Lens.snd (Lens.fst (Lens.id (ag ct))) rfl)
def wI:Lens mN 2 rHd (fun d=>d.2.2.1) (fun d x=>(d.1,(d.2.1,(x,d.2.2.2)))):=(Lens.snd (Lens.snd (Lens.fst (Lens.id rHd)) rfl) rfl)
def wH:Lens mN 3 rHd (fun d=>d.2.2.2) (fun d x=>(d.1,(d.2.1,(d.2.2.1,x)))):=(Lens.snd (Lens.snd (Lens.snd (Lens.id rHd) rfl) rfl) rfl)
abbrev rProgM:=(bF (ag (ay .i64)) (bF (ag ct) (bF rHd (ag (ag aZ)))))
def G4:Ty prog 82 rHd:=by obtain⟨⟨de,hu,hd⟩,i0,hi0,hs⟩:=ty82;exact⟨⟨de,hu,hd⟩,i0,hi0,hs⟩
def fl26_2:Qw prog 26 2=some (24,2):=f8
def CxOK(e:List aF):Prop:=(e.length=0∨(bK e).2.2=0)∧fl e
def Pn(s:aL):Prop:=∀r∈s.2.2.2.2,CxOK r.2.2.2.2.2.1∧CxOK r.2.2.2.2.2.2.1
def Fn(s:aL)(d:Int):vw:=((cT (scN s) (R5 s)).1,gB (fA d) s.2.2.2.2,(gB (fA d) s.2.2.2.2).map (fun r=>OV r.2.2.2.2.2.1),(gB (fA d) s.2.2.2.2).map (fun r=>OV r.2.2.2.2.2.2.1))
def AY(p:ba→Bool)(l:List ba):(gB p l).length=(cI p l l.length).length:=by unfold gB;rw[QJ]
def Lx{l:List ba}(h:k<(gB p l).length):∃h1:k<(cI p l l.length).length,∃h2:(cI p l l.length)[k]<l.length,(gB p l)[k].2.2.2.2.2=(l[(cI p l l.length)[k]]).2.2.2.2.2:=by
 have h1:k<(cI p l l.length).length:=by rw[←AY];exact h
 refine⟨h1,jH h1,?_⟩;have e:(gB p l)[k]=qX p l (cI p l l.length)[k]:=by
  have:(gB p l)[k]?=some (qX p l (cI p l l.length)[k]):=by show((cI p l l.length).map (qX p l))[k]?=_;rw[cr,RY h1];rfl
  rw[RY h]at this;injection this
 rw[e];unfold qX;rw[RY (jH h1)]
def Rv(f:α→β){l:List α}(h:k<l.length):(l.take (k+1)).map f=(l.take k).map f++[f l[k]]:=by exact Xd
def Mk(f:α→β){l:List α}(h:k≤l.length):((l.take k).map f).length=k:=QE
def Ml(f:α→β)(l:List α):(l.take l.length).map f=l.map f:=by rw[FR]
def Gw(l:bZ)(i:Nat)(d:Int)(hi0:i<l.2.2.length)(hLL:OH l)(hLim:tf l.2.2[i])(hC:Pn l.2.2[i])(hrl:(gB (fA d) l.2.2[i].2.2.2.2).length≤1000):Ct prog 106 [.tv bl l,Sx (i:Nat),Sx d] (.tv fz (Fn l.2.2[i] d)):=by refine Yk func106 ntmps106 fun w0 ok0=>?_;refine Y8 ?_;refine zl KQ (Y8 ?_);refine zD dO Z (YK (vf l.2.2[i] hLim) ?_);refine Y4 ?_;refine zO (bH (rt:=mN) kr (.b Z) Z Z Ex (.tv (.b Z))) (Y6 ?_);refine YK (MJ l d hLL) ?_;refine zJ (nl Z fl26_2 js eI (.b Z)) (zM Z ?_);refine bi _ Z _ Z Z (av ga dO (.b Z) (.b Z) Z (show(l.2.2.map (qW d))[i]?=some (qW d l.2.2[i])by rw[cr,RY hi0];rfl)) ?_;refine Y3 ?_;refine zC i7 Z Z Z wJ (.tv (.b Z)) (zZ (ac (ac ?_)));refine iB 7 70 (ag aZ) Z Z Z ?_;refine iB 6 71 (ag aZ) Z Z Z ?_;refine Y2 ?_;refine zL i7 Z Z Z wJ (Y5 ?_);refine bf (ι:=Nat×Option Addr×Nat×Option Addr×Nat) (fun(k,A,cA,B,cB)=>⟨[(6,.lnk (Sy 6 fz) (.slice B k cB) (.own 71 (ag aZ).n 0 k)),(7,.lnk (Sy 7 mN) (.slice A k cA) (.own 70 (ag aZ).n 0 k)),(30,.tv (ag ct) (gB (fA d) l.2.2[i].2.2.2.2)),(31,Sx ((gB (fA d) l.2.2[i].2.2.2.2).length)),(32,Sx ((k:Nat)))],[(6,⟨fz,[([],[],[],[])]⟩),(7,⟨mN,[((cT (scN l.2.2[i]) (R5 l.2.2[i])).1,(gB (fA d) l.2.2[i].2.2.2.2),(A,k,cA),(B,k,cB))]⟩),(70,⟨(ag aZ),(((gB (fA d) l.2.2[i].2.2.2.2).take k).map (fun r:ba=>OV r.2.2.2.2.2.1))⟩),(71,⟨(ag aZ),(((gB (fA d) l.2.2[i].2.2.2.2).take k).map (fun r:ba=>OV r.2.2.2.2.2.2.1))⟩)]⟩) (fun(k,A,cA,B,cB)=>k≤(gB (fA d) l.2.2[i].2.2.2.2).length) (fun(k,A,cA,B,cB)=>(gB (fA d) l.2.2[i].2.2.2.2).length-k) (0,none,0,none,0) (P8 _) (fun a w hi=>(zI hi)) ?_;rintro⟨k,A,cA,B,cB⟩ hk;have hgl:=Mk (fun r:ba=>OV r.2.2.2.2.2.1) hk;have hvl:=Mk (fun r:ba=>OV r.2.2.2.2.2.2.1) hk;refine Z6 ?_ ?_<;>intro h5;have h5:k<(gB (fA d) l.2.2[i].2.2.2.2).length:=E3;obtain⟨q1,q2,q3⟩:=Lx h5;have hcx:=hC _ (aA q2);rw[←q3]at hcx;have hs1:=Rv (fun r:ba=>OV r.2.2.2.2.2.1) h5;have hs2:=Rv (fun r:ba=>OV r.2.2.2.2.2.2.1) h5;have htg:=fV (Kf hgl);have htv:=fV (Kf hvl);refine MY ?_;refine my 6 mo zk zk cy (zS (aj zx (.l1 Z)) (zS (ah (rt:=mN) G4 (.b Z) Z Z wI) (zS (aj iE (.b Z)) (zS (ah iw (.b Z) Z Z iO) (zS (an (RP _ hcx.1.1 hcx.1.2) (.cons (.b Z) .nil) Z Z) (zS (bP (rt:=(ag aZ)) Dv iw z61 Z (.cons (.tv (.b Z)) .nil) Z Z) (AS.nil))))))) ?_;refine uI 7 37 Z Z Z ?_;refine oE _ Z Z zk (bX [6,7,9,30,31,32] Dv iw z61 Z by61 (.b Z) Z PJ (.tv (.b rfl)) Fj PJ rfl (.cons rfl (.cons rfl (.cons rfl (.cons rfl (.cons rfl (.cons rfl .nil)))))) rfl) ?_;refine mv 7 42 Z Z (fun A7 cA7=>?_);refine kF _ _ Z Z Z Z zk (aj zx (.l1 Z)) ?_;refine oE _ Z Z zk (bH (rt:=mN) G4 (.b Z) Z Z wI (.raw (d:=(A7,_,cA7)) (.b Z) Z)) ?_;refine oW Z ?_;refine aa ?_;refine my 6 mo zk zk cy (zS (aj zu (.l1 Z)) (zS (ah (rt:=mN) G4 (.b Z) Z Z wH) (zS (aj iU (.b Z)) (zS (ah iw (.b Z) Z Z iN) (zS (an (RP _ hcx.2.1 hcx.2.2) (.cons (.b Z) .nil) Z Z) (zS (bP (rt:=(ag aZ)) Dv iw z61 Z (.cons (.tv (.b Z)) .nil) Z Z) (AS.nil))))))) ?_;refine uI 6 45 Z Z Z ?_;refine oE _ Z Z zk (bX [6,7,30,31,32] Dv iw z61 Z by61 (.b Z) Z PJ (.tv (.b rfl)) Fj PJ rfl (.cons rfl (.cons rfl (.cons rfl (.cons rfl (.cons rfl .nil))))) rfl) ?_;refine mv 6 50 Z Z (fun A8 cA8=>?_);refine kF _ _ Z Z Z Z zk (aj zu (.l1 Z)) ?_;refine oE _ Z Z zk (bH (rt:=mN) G4 (.b Z) Z Z wH (.raw (d:=(A8,_,cA8)) (.b Z) Z)) ?_;refine oW Z ?_;refine Y6 ?_;exact aE (fun a w hi=>⟨(k+1,A7,cA7,A8,cA8),QB,Em,Sub.inv ⟨Zj,(by repeat(first|exact aw|refine ao rfl (by first|rfl|(refine congrArg (HB.mk (ag aZ)) ?_;first|rfl|(exact(congrArg (fun z=>z++_) htg).trans hs1.symm;done)|(exact(congrArg (fun z=>z++_) htv).trans hs2.symm;done))|(simp;done)) ?_))⟩ hi⟩);have h5:k=(gB (fA d) l.2.2[i].2.2.2.2).length:=Ob;refine Y6 ?_;refine dv (rt:=(ag aZ)) 71 6 (bQ 71 _) Z Z KH (a6 71 _) (bm 71 _) ?_;rw[Pv,fV (Kf hvl),h5,Ml];refine eg 6 7 rProgM ((cT (scN l.2.2[i]) (R5 l.2.2[i])).1,(gB (fA d) l.2.2[i].2.2.2.2),(A,(gB (fA d) l.2.2[i].2.2.2.2).length,cA),(gB (fA d) l.2.2[i].2.2.2.2).map (fun r:ba=>OV r.2.2.2.2.2.2.1)) (aY _ (aY _ (aY _ dc))) Z Z Z ?_;rw[h5]at hgl;refine dv (rt:=(ag aZ)) 70 7 (bQ 70 _) Z Z (by rw[hgl];omega) (a6 70 _) (bm 70 _) ?_;rw[Pv,fV (Kf hgl),Ml];refine eg 7 7 fz ((cT (scN l.2.2[i]) (R5 l.2.2[i])).1,(gB (fA d) l.2.2[i].2.2.2.2),(gB (fA d) l.2.2[i].2.2.2.2).map (fun r:ba=>OV r.2.2.2.2.2.1),(gB (fA d) l.2.2[i].2.2.2.2).map (fun r:ba=>OV r.2.2.2.2.2.2.1)) (aY _ (aY _ (eC _ dc))) Z Z Z ?_;refine ab (zJ (ah (rt:=fz) K9 (.b Z) Z Z (Lens.id _)) (Y4 ?_));exact cQ results106 (aq K9 Z Z Z (Lens.id fz)) Z Z
abbrev nJ:=(bF bw (bF fz rHd))
def KR:TyZero prog 145 nJ (([],(0,([],([],[])))),(([],([],([],[]))),(none,0,0))):=eK zk ((aX ((aX (gk) ((aX (cN .i64) ((aX (bN) ((aX (bN) (bN))))))))) ((aX ((aX (bN) ((aX (bN) ((aX (bN) (bN))))))) (lw)))))
def rp:Lens nJ 0 bw (fun d=>d.1) (fun d x=>(x,d.2)):=(Lens.fst (Lens.id bw))
def Ey:Lens nJ 5 fz (fun d=>d.2.1) (fun d x=>(d.1,(x,d.2.2))):=(Lens.snd (Lens.fst (Lens.id fz)) rfl)
def ro:Lens nJ 9 rHd (fun d=>d.2.2) (fun d x=>(d.1,(d.2.1,x))):=(Lens.snd (Lens.snd (Lens.id rHd) rfl) rfl)
def Iu(s:aL)(d:Int)(k:Nat):List Int:=(List.range k).flatMap fun j:Nat=>iG (fD (j:Int) d) s.2.2.2.2 s.2.2.2.2.length
def OL(s:aL)(d:Int)(k:Nat):Iu s d (k+1)=Iu s d k++iG (fD (k:Int) d) s.2.2.2.2 s.2.2.2.2.length:=by unfold Iu;rw[Jp,List.flatMap_append];simp
def I5(s:aL)(d:Int):∀k,(Iu s d k).length≤k*s.2.2.2.2.length
 | 0=>by simp[Iu]
 | k+1=>by have:=I5 s d k;have h2:=mA (fD (k:Int) d) s.2.2.2.2 s.2.2.2.2.length;have h3:=li (fD (k:Int) d) s.2.2.2.2 s.2.2.2.2.length;rw[OL,Yl,Qd];omega
def io(s:aL)(d:Int):List Int:=iG (fA d) s.2.2.2.2 s.2.2.2.2.length
def uA{l:List ba}:z∈iG p l k↔∃i,i<k∧fa p l i=true∧z=(i:Int):=by unfold iG;rw[Nr];exact⟨fun⟨i,h,e⟩=>⟨i,(n6.1 h).1,(n6.1 h).2,e.symm⟩,fun⟨i,h1,h2,e⟩=>⟨i,n6.2 ⟨h1,h2⟩,e.symm⟩⟩
def ry(p:ba→Bool)(l:List ba)(k:Nat):(iG p l k).Pairwise (· < ·):=by unfold iG cI;rw[List.pairwise_map];exact(List.pairwise_lt_range.filter _).imp fun h=>So
def xw{l:List ba}{j:Int}:fa (fD j d) l i=true↔∃h:i<l.length,l[i].2.1=j∧fA d l[i]=true:=by unfold fa;by_cases h:i<l.length;rw[RY h];simp[fD,fA,h];rw[jp zo];simp[h]
def CK{l:List ba}:fa (fA d) l i=true↔∃h:i<l.length,fA d l[i]=true:=by unfold fa;by_cases h:i<l.length;rw[RY h];simp[h];rw[jp zo];simp[h]
def I4:z∈Iu s d k↔∃i,∃h:i<s.2.2.2.2.length,z=(i:Int)∧fA d s.2.2.2.2[i]=true∧0≤s.2.2.2.2[i].2.1∧s.2.2.2.2[i].2.1<(k:Int):=by unfold Iu;rw[List.mem_flatMap];constructor;rintro⟨j,hj,hz⟩;obtain⟨i,h1,h2,e⟩:=uA.1 hz;obtain⟨h3,h4,h5⟩:=xw.1 h2;have:=Lb.1 hj;exact⟨i,h3,e,h5,So,So⟩;rintro⟨i,h,e,h1,h2,h3⟩;exact⟨s.2.2.2.2[i].2.1.toNat,Lb.2 zo,uA.2 ⟨i,h,xw.2 ⟨h,So,h1⟩,e⟩⟩
def BV(s:aL)(d:Int):∀k,(Iu s d k).Nodup
 | 0=>by simp[Iu]
 | k+1=>by rw[OL,List.nodup_append];refine⟨BV s d k,(ry _ _ _).imp fun h=>So,fun x hx y hy e=>?_⟩;subst e;obtain⟨i,h,e1,_,_,h2⟩:=I4.1 hx;obtain⟨j,h3,h4,e2⟩:=uA.1 hy;obtain⟨h5,h6,_⟩:=xw.1 h4;have:i=j:=So;subst this;omega
def OJ(hr:∀r∈s.2.2.2.2,0≤r.2.1∧r.2.1<(s.2.2.2.1.length:Int)):(Iu s d s.2.2.2.1.length).mergeSort (fun x y=>decide (x≤y))=io s d:=by
 have hp:=List.mergeSort_perm (Iu s d s.2.2.2.1.length) (fun x y=>decide (x≤y));refine vG ?_ (ry _ _ _) fun x=>?_;have h1:=AT (Iu s d s.2.2.2.1.length);have h2:((Iu s d s.2.2.2.1.length).mergeSort (fun x y=>decide (x≤y))).Nodup:=hp.nodup_iff.2 (BV s d _);exact(List.pairwise_and_iff.2 ⟨h1,h2⟩).imp fun⟨a,b⟩=>by have:_≠_:=b;omega
 rw[hp.mem_iff,I4];unfold io;rw[uA];constructor;rintro⟨i,h,e,h1,_⟩;exact⟨i,h,CK.2 ⟨h,h1⟩,e⟩;rintro⟨i,h,h1,e⟩;obtain⟨h2,h3⟩:=CK.1 h1;exact⟨i,h2,e,h3,hr _ (aA h2)⟩
def tF(l:bZ)(i:Nat)(d:Int)(hi0:i<l.2.2.length)(hLL:OH l)(hLim:tf l.2.2[i])(hC:Pn l.2.2[i])(hr0:l.2.2[i].2.2.2.2.length≤1000)(hrr:∀r∈l.2.2[i].2.2.2.2,0≤r.2.1∧r.2.1<(l.2.2[i].2.2.2.1.length:Int)):Ct prog 59 [.tv bl l,Sx (i:Nat),Sx d] (.eptr hU (l.2.2[i],Fn l.2.2[i] d,io l.2.2[i] d)):=by
 refine Yk func59 ntmps59 fun w0 ok0=>?_;have hdf:l.2.2[i].2.2.2.1.length≤14:=hLim.1;have hrl:(gB (fA d) l.2.2[i].2.2.2.2).length≤1000:=by rw[AY];have:=li (fA d) l.2.2[i].2.2.2.2 l.2.2[i].2.2.2.2.length;omega
 refine Y7 ?_;refine je (Y8 ?_);refine ca (an (Gw l i d hi0 hLL hLim hC hrl) (.cons (.b Z) (.cons (.b Z) (.cons (.b Z) .nil))) Z Z) (ca (aC KR Z pl145 (.cons (rt':=bw) Z rp (.tv (.b Z)) (.cons (rt':=fz) Z Ey (.tv (.b Z)) .nil))) (bL Z (gh_box (.tv (.b Z)) Z) (Y5 ?_)));refine iB 7 70 (ay .i64) Z Z Z ?_;refine ab (zJ (ai (.l1 Z)) (zJ (di (.b Z)) (zF pz Z (zF d8 Z (zJ (ah gW (.b Z) Z Z (Lens.comp rp eX)) (Y5 ?_))))));refine bf (ι:=Nat×Option Addr×Nat) (fun(k,A,cA)=>⟨[(2,Sx d),(7,.lnk (Sy 19 nJ) (.slice A (Iu l.2.2[i] d k).length cA) (.own 70 (ay .i64).n 0 (Iu l.2.2[i] d k).length)),(25,Sx ((l.2.2[i].2.2.2.1.length:Nat))),(26,Sx ((k:Nat)))],[(19,⟨nJ,[(l.2.2[i],Fn l.2.2[i] d,(A,(Iu l.2.2[i] d k).length,cA))]⟩),(70,⟨(ay .i64),(Iu l.2.2[i] d k)⟩)]⟩) (fun(k,A,cA)=>k≤l.2.2[i].2.2.2.1.length) (fun(k,A,cA)=>l.2.2[i].2.2.2.1.length-k) (0,none,0) (P8 _) (fun a w hi=>(zI hi)) ?_;rintro⟨k,A,cA⟩ hk;have hkl:=I5 l.2.2[i] d k;have hkb:k*l.2.2[i].2.2.2.2.length≤14*1000:=Nat.mul_le_mul zo hr0;refine Z6 ?_ ?_<;>intro h3;have h3:k<l.2.2[i].2.2.2.1.length:=Av;have hs:=OL l.2.2[i] d k;have hsl:=congrArg List.length hs;rw[Yl]at hsl;have hil:=mA (fD (k:Int) d) l.2.2[i].2.2.2.2 l.2.2[i].2.2.2.2.length;have hil2:=li (fD (k:Int) d) l.2.2[i].2.2.2.2 l.2.2[i].2.2.2.2.length;refine Qh ?_;refine lh (stB:=⟨[(41,.own 70 (ay .i64).n 0 ((Iu l.2.2[i] d k).length+(iG (fD (k:Int) d) l.2.2[i].2.2.2.2 l.2.2[i].2.2.2.2.length).length)),(2,Sx d),(7,Sy 19 nJ),(25,Sx (l.2.2[i].2.2.2.1.length:Nat)),(26,Sx (k:Nat))],[(70,⟨ay .i64,((Iu l.2.2[i] d k).drop 0).take (Iu l.2.2[i] d k).length++(iG (fD (k:Int) d) l.2.2[i].2.2.2.2 l.2.2[i].2.2.2.2.length)⟩),(19,⟨nJ,[(l.2.2[i],Fn l.2.2[i] d,(A,(Iu l.2.2[i] d k).length,cA))]⟩)]⟩) 1 12 mo zk zk cy cy Z Z (zS (ai (.l1 Z)) (zS (ai (.l1 Z)) (zS (di (.b Z)) (zS (aj py (.b Z)) (zS (ah (rt:=nJ) gH (.b Z) Z Z ro) (zS (ai (.l1 Z)) (zS (di (.b Z)) (zS (aj pz (.b Z)) (zS (ah dO (.b Z) Z Z rp) (zS (ai (.b Z)) (zS (ai (.b Z)) (zS (an (aex l.2.2[i] _ _ zo) (.cons (.b Z) (.cons (.b Z) (.cons (.b Z) .nil))) Z Z) (AS.nil))))))))))))) ?_ (zS (ai (.b Z)) (AS.nil)) ?_;intro bs hbs a w hi Q;rcases bs with _|⟨b0,_|⟨b1,br⟩⟩;simp at hbs;cases b0;exact cK (fun a w hi=>si (c0:=7) (j:=33) rfl rfl rfl hi) (bX [2,7,25,26] bT Sj z3 rfl J7 (.b rfl) rfl zo (.tv (.b rfl)) Kw zo rfl (.cons rfl (.cons rfl (.cons rfl (.cons rfl .nil)))) rfl) ⟨YV,YW⟩ a w hi Q;exact cK (fun a w hi=>si (c0:=7) (j:=33) rfl rfl rfl hi) (bX [2,7,25,26,29] bT Sj z3 rfl J7 (.b rfl) rfl zo (.tv (.b rfl)) Kw zo rfl (.cons rfl (.cons rfl (.cons rfl (.cons rfl (.cons rfl .nil))))) rfl) ⟨YV,YW⟩ a w hi Q;simp at hbs;refine kF _ _ Z Z Z Z zk (di (.b Z)) ?_;refine kF _ _ Z Z Z Z zk (aj py (.b Z)) ?_;refine mv 7 41 Z Z (fun A2 c2=>?_);refine oE _ Z Z zk (bH (rt:=nJ) gH (.b Z) Z Z ro (.raw (d:=(A2,_,c2)) (.b Z) Z)) ?_;refine oW Z ?_;refine Y6 ?_;exact aE (fun a w hi=>⟨(k+1,A2,c2),QB,Em,Sub.inv ⟨(by repeat(first|exact au|refine ap rfl (by first|rfl|(rw[hsl];done)|(rw[hsl];rfl)) ?_)),(by repeat(first|exact aw|refine ao rfl (by first|rfl|(refine congrArg (HB.mk (ay .i64)) ?_;first|rfl|(rw[hs,FR];done)|(exact(congrArg (fun z=>z++_) (FR)).trans hs.symm;done))|(rw[hsl];done)|(rw[hsl];rfl)) ?_))⟩ hi⟩);have h3:k=l.2.2[i].2.2.2.1.length:=E4;subst h3;refine Y7 ?_;refine zJ (ai (.l1 Z)) (zJ (di (.b Z)) (zF py Z (zJ (ah (rt:=nJ) gH (.b Z) Z Z ro) ?_)));refine pn 7 48 Z Z ?_;refine zO (z90 pc (.b Z) Z (by rfl) zo (fun _=>Z) Z) (zZ (ac ?_));refine dv (rt:=(ay .i64)) 70 7 (bQ 70 _) Z Z Sp (a6 70 _) (bm 70 _) ?_;rw[Pv,fV Sp,OJ hrr];refine eg 7 19 hU (l.2.2[i],Fn l.2.2[i] d,io l.2.2[i] d) (aY _ (aY _ dc)) Z Z Z ?_;refine uK (rt:=hU) 19 7 (bQ 19 _) Z Z (a6 19 _) (bm 19 _) ?_;refine Y6 ?_;exact z1 results59 Z Z
def yI(s:aL)(d:Int):(io s d).length=(cI (fA d) s.2.2.2.2 s.2.2.2.2.length).length:=mA _ _ _
def wC(s:aL)(d z:Int)(p:Nat)(hp:p<(io s d).length)(hz:z=(io s d)[p])(hr0:s.2.2.2.2.length≤1000):Ct prog 150 [.eptr hU (s,Fn s d,io s d),Sx z] (Sx (p:Nat)):=by refine Yk func150 ntmps150 fun w0 ok0=>?_;have hml:=yI s d;have hml2:=li (fA d) s.2.2.2.2 s.2.2.2.2.length;subst hz;have hbs:=aaX (io s d) p zo (ry _ _ _) hp;refine Y8 ?_;refine zJ (cS (.b Z)) (Y3 ?_);refine YK (hbs) ?_;refine Lc ?_;exact z1 results150 Z Z
def vL(s:aL)(d:Int)(r:Nat):Nat:=(cI (fA d) s.2.2.2.2 s.2.2.2.2.length).idxOf r
def Cl(h:r∈cI (fA d) s.2.2.2.2 s.2.2.2.2.length):vL s d r<(cI (fA d) s.2.2.2.2 s.2.2.2.2.length).length∧(cI (fA d) s.2.2.2.2 s.2.2.2.2.length)[vL s d r]?=some r:=by have h1:=List.idxOf_lt_length_iff.2 h;refine⟨h1,?_⟩;unfold vL;rw[RY h1,List.getElem_idxOf h1]
def NP{j:Int}(h:r∈cI (fD j d) s.2.2.2.2 s.2.2.2.2.length):r∈cI (fA d) s.2.2.2.2 s.2.2.2.2.length:=by obtain⟨h1,h2⟩:=n6.1 h;obtain⟨h3,_,h4⟩:=xw.1 h2;exact n6.2 ⟨h1,CK.2 ⟨h3,h4⟩⟩
def xi(h:r∈cI (fA d) s.2.2.2.2 s.2.2.2.2.length):(io s d)[vL s d r]?=some (r:Int):=by unfold io iG;rw[cr,(Cl h).2];rfl
def HF(h:r∈cI (fA d) s.2.2.2.2 s.2.2.2.2.length):vL s d r<(io s d).length:=by rw[yI];exact(Cl h).1
def D8(h:r∈cI (fA d) s.2.2.2.2 s.2.2.2.2.length):((gB (fA d) s.2.2.2.2).map (fun r=>OV r.2.2.2.2.2.1))[vL s d r]?=some (OV (Yb s r))∧((gB (fA d) s.2.2.2.2).map (fun r=>OV r.2.2.2.2.2.2.1))[vL s d r]?=some (OV (DW s r)):=by have h1:=(Cl h).2;have h2:=jG h;unfold gB;rw[List.map_map,List.map_map,cr,cr,h1];simp only[Lf,Function.comp,qX,RY h2,pP h2,pO h2];exact⟨trivial,trivial⟩
def LH(e:List aF)(env:cP):(vJ e env).2=(dM e env).2:=by unfold vJ;split<;>rename_i h;exact h.symm;rfl
def LI{env:cP}(h:(dM e env).2=0):(vJ e env).1=(dM e env).1:=by unfold vJ;rw[Cg h]
def cx_0(h:e.length=0):OV e=[]:=by unfold OV;rw[Cg h]
def cx_1(hC:CxOK e)(h:¬e.length=0):ON (OV e)∧0<(OV e).length:=by have h1:=(IN (hC.1.resolve_left h) hC.2).2;exact⟨h1,Gk h1.gd⟩
def sC(s:aL)(m:Int)(env:cP)(d:Int):Int×fk:=
 if(ew s m env d).2.1≠0 then(0,(ew s m env d).2)else if(ew s m env d).1 = -1 then(0,(10,m,d,-1))else if(ew s m env d).1 = -2 then(0,(11,m,d,-1))else((vL s env.1 (ew s m env d).1.toNat:Nat),(0,0,0,0))
def DK(s:aL)(d m:Int)(env:cP)(hr0:s.2.2.2.2.length≤1000)(hC:Pn s)(hT:Ou env)(hev:∀i∈(cI (fD d env.1) s.2.2.2.2 s.2.2.2.2.length),¬(Yb s i).length=0→f7 (OV (Yb s i)) env (vJ (Yb s i) env) 0 []):Ct prog 107 [.eptr hU (s,Fn s env.1,io s env.1),.tv gD env,Sx m,Sx d] (.tup2 (.raw (.int .i64 (sC s m env d).1)) (.tv bh (sC s m env d).2)):=by
 refine Yk func107 ntmps107 fun w0 ok0=>?_;have hil:=mA (fD d env.1) s.2.2.2.2 s.2.2.2.2.length;have hil2:=li (fD d env.1) s.2.2.2.2 s.2.2.2.2.length;refine Qh ?_;refine GP (cS (.b Z)) (Y5 ?_);refine GP (an (AQ s d env.1 zo) (.cons (.b Z) (.cons (.b Z) (.cons (.b Z) .nil))) Z Z) (GP (ai (.b Z)) (GP (eS (.b Z)) (GP (eR (.b Z)) (GP (eQ (.b Z)) (Y9 ?_)))));refine zO (fM gG Gf z4 Z Cz (.b Z) (.b Z) zo Kw rfl rfl rfl) (zb ?_);refine bf (ι:=Nat) (fun k=>⟨[(0,.eptr hU (s,Fn s env.1,io s env.1)),(2,Sx m),(3,Sx d),(5,Sy 5 gD),(9,Sy 9 bh),(10,.tv (ag (ay .i64)) (iG (fD d env.1) s.2.2.2.2 s.2.2.2.2.length)),(11,.tv (ag (ay .i64)) (mO (fD d env.1) s.2.2.2.2 s.2.2.2.2.length)),(12,.tv (ag (ay .i64)) (Ax (fD d env.1) s.2.2.2.2 s.2.2.2.2.length)),(13,.own 35 cq.n 0 (iG (fD d env.1) s.2.2.2.2 s.2.2.2.2.length).length),(36,.tv (ag (ay .i64)) (iG (fD d env.1) s.2.2.2.2 s.2.2.2.2.length)),(37,Sx ((iG (fD d env.1) s.2.2.2.2 s.2.2.2.2.length).length)),(38,Sx ((k:Nat)))],[(5,⟨gD,[env]⟩),(9,⟨bh,[(0,0,0,0)]⟩),(35,⟨cq,rJ s env (cI (fD d env.1) s.2.2.2.2 s.2.2.2.2.length) k⟩)]⟩) (fun k=>k≤(cI (fD d env.1) s.2.2.2.2 s.2.2.2.2.length).length∧qw s env ((cI (fD d env.1) s.2.2.2.2 s.2.2.2.2.length).take k)=none) (fun k=>(cI (fD d env.1) s.2.2.2.2 s.2.2.2.2.length).length-k) 0 (⟨P8 _,rfl⟩) (fun a w hi=>(Sub.inv ⟨ZH,X9⟩ hi)) ?_;rintro k ⟨hk,hgu⟩;have hal:=BT (s:=s) (env:=env) hk;refine Z6 ?_ ?_<;>intro h4;have h4:k<(cI (fD d env.1) s.2.2.2.2 s.2.2.2.2.length).length:=by have h4:=MW h4;omega
 have hmem:=aA h4;have hmA:=NP hmem;have hat:=sj h4 (h':=So);have hir:=jH h4;have hcx:=(hC _ (aA hir)).1;rw[←pP hir]at hcx;have hpl:=HF hmA;have hpz:((cI (fD d env.1) s.2.2.2.2 s.2.2.2.2.length)[k]:Int)=(io s env.1)[(vL s env.1 (cI (fD d env.1) s.2.2.2.2 s.2.2.2.2.length)[k])]:=Ys;refine zb ?_;rw[hat];refine aa (ac ?_);refine Y2 ?_;refine GP (cS (.b Z)) (Y5 ?_);refine GP (an (wC s env.1 _ (vL s env.1 (cI (fD d env.1) s.2.2.2.2 s.2.2.2.2.length)[k]) hpl hpz hr0) (.cons (.b Z) (.cons (.b Z) .nil)) Z Z) (GP (av Dv iw (.b Z) (.b Z) Z (D8 hmA).1) (Y3 ?_));refine Z9 ?_ ?_<;>intro h7;have hz:(Yb s (cI (fD d env.1) s.2.2.2.2 s.2.2.2.2.length)[k]).length=0:=by have h7:(OV (Yb s (cI (fD d env.1) s.2.2.2.2 s.2.2.2.2.length)[k])).length=0:=fQ;by_cases q:(Yb s (cI (fD d env.1) s.2.2.2.2 s.2.2.2.2.length)[k]).length=0;exact q;have:=(cx_1 hcx q).2;omega
 have hgd:=RG (env:=env) hz;exact Tb;have hz:¬(Yb s (cI (fD d env.1) s.2.2.2.2 s.2.2.2.2.length)[k]).length=0:=fun q=>by rw[cx_0 q]at h7;simp at h7
 have hgd:=RF (env:=env) hz;have hok:=(cx_1 hcx hz).1;have hvm:=Dp (OV (Yb s (cI (fD d env.1) s.2.2.2.2 s.2.2.2.2.length)[k])) env (vJ (Yb s (cI (fD d env.1) s.2.2.2.2 s.2.2.2.2.length)[k]) env) hok.gd hok.len (hev _ hmem hz) hok.num hT;refine Y6 ?_;refine YK hvm ?_;refine zM Z (zJ (eS (.b Z)) (zJ (eR (.b Z)) (zJ (eQ (.b Z)) (Y8 ?_))));rw[LH];refine Z5 ?_ ?_<;>intro h10;have h10:(dM (Yb s (cI (fD d env.1) s.2.2.2.2 s.2.2.2.2.length)[k]) env).2≠0:=Qk;have hx:=RE h4 hgu (by rw[hgd];exact h10);have hsel:ew s m env d=(0,((dM (Yb s (cI (fD d env.1) s.2.2.2.2 s.2.2.2.2.length)[k]) env).2,m,d,(((cI (fD d env.1) s.2.2.2.2 s.2.2.2.2.length)[k]:Nat):Int))):=by unfold ew;rw[hx,hgd]
 refine Y6 ?_;refine zJ (aC ii Z nN (.cons (rt':=(ay .i64)) Z gx (.raw (.b Z) Z) (.cons (rt':=(ay .i64)) Z lf (.raw (.b Z) Z) (.cons (rt':=(ay .i64)) Z ld (.raw (.b Z) Z) (.cons (rt':=(ay .i64)) Z lc (.raw (.b Z) Z) .nil))))) (Y8 ?_);refine b8 (ax (al ?_));exact aI results107 (ar Z) (aq dJ Z Z Z (Lens.id bh)) ⟨Z,Z⟩ (by unfold sC;rw[hsel,Cg (show _≠(0:Int)from h10)];rfl);have h10:(dM (Yb s (cI (fD d env.1) s.2.2.2.2 s.2.2.2.2.length)[k]) env).2=0:=Qk;have hcode:(Qm (Yb s (cI (fD d env.1) s.2.2.2.2 s.2.2.2.2.length)[k]) env).2=0:=by rw[hgd];exact h10
 have hb:((Qm (Yb s (cI (fD d env.1) s.2.2.2.2 s.2.2.2.2.length)[k]) env).1.2.2==1)=((vJ (Yb s (cI (fD d env.1) s.2.2.2.2 s.2.2.2.2.length)[k]) env).1.2.2==1):=by rw[hgd,LI h10]
 exact TL;have h4:k=(cI (fD d env.1) s.2.2.2.2 s.2.2.2.2.length).length:=by have h4:=J8 h4;omega
 have hsel:ew s m env d=(if jP s env d<0 then jP s env d else(((cI (fD d env.1) s.2.2.2.2 s.2.2.2.2.length)[(jP s env d).toNat]?.getD 0:Nat):Int),(0,0,0,0)):=Yg;refine Y6 ?_;refine nZ (rt:=cq) 35 13 (bQ 35 _) Z Z (by rw[hal,hil];omega) (a6 35 _) (bm 35 _) ?_;rw[Pv,fV (by rw[hal,hil];exact Kl _),h4,I0];refine Y4 ?_;refine YK (Hc _ _ _) ?_;refine zA Z (zQ [0,2,3,9,10,20] [9] (aa (ac (zR ?_))));refine wz ?_ ?_<;>intro h16;have h16:jP s env d = -1:=by have h:=h16;simp at h;exact h
 have hs1:(ew s m env d).1 = -1:=by rw[hsel,Cg zo];exact h16
 refine zR (zM Z (zM Z (zJ (aC ii Z nN (.cons (rt':=(ay .i64)) Z gx (.raw (.b Z) Z) (.cons (rt':=(ay .i64)) Z lf (.raw (.b Z) Z) (.cons (rt':=(ay .i64)) Z ld (.raw (.b Z) Z) (.cons (rt':=(ay .i64)) Z lc (.raw (.b Z) Z) .nil))))) (Y7 ?_))));exact aI results107 (ar Z) (aq dJ Z Z Z (Lens.id bh)) ⟨Z,Z⟩ (by unfold sC;rw[zE aaY,Cg hs1];rfl);have h16:¬jP s env d = -1:=by have h:=h16;simp at h;exact h
 refine Z6 ?_ ?_<;>intro h18;have h18:jP s env d = -2:=by have h:=h18;simp at h;exact h
 have hs1:(ew s m env d).1 = -2:=by rw[hsel,Cg zo];exact h18
 refine zR (zM Z (zM Z (zJ (aC ii Z nN (.cons (rt':=(ay .i64)) Z gx (.raw (.b Z) Z) (.cons (rt':=(ay .i64)) Z lf (.raw (.b Z) Z) (.cons (rt':=(ay .i64)) Z ld (.raw (.b Z) Z) (.cons (rt':=(ay .i64)) Z lc (.raw (.b Z) Z) .nil))))) (Y7 ?_))));exact aI results107 (ar Z) (aq dJ Z Z Z (Lens.id bh)) ⟨Z,Z⟩ (by unfold sC;rw[zE aaY,zE (by rw[hs1];decide),Cg hs1];rfl);have h18:¬jP s env d = -2:=by have h:=h18;simp at h;exact h
 have hbd:=Hf s env d;have hn0:¬jP s env d<0:=So;rw[zE hn0]at hsel;have hlt:(jP s env d).toNat<(cI (fD d env.1) s.2.2.2.2 s.2.2.2.2.length).length:=B8 zo;have hat:=sj hlt (h':=So);rw[RY hlt,YM]at hsel;have hmA:=NP (aA hlt);have hpl:=HF hmA;have hpz:((cI (fD d env.1) s.2.2.2.2 s.2.2.2.2.length)[(jP s env d).toNat]:Int)=(io s env.1)[vL s env.1 (cI (fD d env.1) s.2.2.2.2 s.2.2.2.2.length)[(jP s env d).toNat]]:=Ys;refine Y8 ?_;refine bi _ Z _ Z Z (av bT Sj (.b Z) (.b Z) (show jP s env d=(((jP s env d).toNat:Nat):Int)by omega) zg) ?_;refine zD Sj Z (zJ (an (wC s env.1 _ (vL s env.1 (cI (fD d env.1) s.2.2.2.2 s.2.2.2.2.length)[(jP s env d).toNat]) hpl (by rw[←hpz,hat]) hr0) (.cons (.b Z) (.cons (.b Z) .nil)) Z Z) (zJ (aC ii Z nN .nil) (Y5 ?_)));exact aI results107 (ar Z) (aq dJ Z Z Z (Lens.id bh)) ⟨Z,Z⟩ (by unfold sC;rw[zE aaY,zE (by rw[hsel];simp only;omega),zE (by rw[hsel];simp only;omega),hsel];rfl)
instance:NM LP:=⟨rfl⟩
def NI:wo LP:=fun h=>h
def DL{s:aL}{m:Int}{x:cP}:∀{l:List Int} {d:Int} {a vs:List aN} {b rs:List Int},d9 s m x l a b=((0,0,0,0),vs,rs)→(d5 s m (x.1,x.2.1,vs,x.2.2.2) d).1.1=0→d9 s m x (l++[d]) a b=((0,0,0,0),vs.set d.toNat (d5 s m (x.1,x.2.1,vs,x.2.2.2) d).2.2,rs.set d.toNat (d5 s m (x.1,x.2.1,vs,x.2.2.2) d).2.1)
 | [],d,a,vs,b,rs,h,h1=>by
  rw[d9]at h
  injection h with _ h;injection h with ha hb;subst ha hb
  rw[Km,d9,zE (fun q=>q h1),d9]
 | z::l,d,a,vs,b,rs,h,h1=>by
  rw[d9]at h
  rw[C7,d9]
  split at h
  ·exact Xc
  rename_i c
  rw[zE c]
  exact DL h h1
def EvD(s:aL)(x:cP)(d:Int)(vs:List aN):Prop:=∀i∈cI (fD d x.1) s.2.2.2.2 s.2.2.2.2.length,
 (¬(Yb s i).length=0→f7 (OV (Yb s i)) (x.1,x.2.1,vs,x.2.2.2) (vJ (Yb s i) (x.1,x.2.1,vs,x.2.2.2)) 0 [])∧¬(DW s i).length=0∧f7 (OV (DW s i)) (x.1,x.2.1,vs,x.2.2.2) (vJ (DW s i) (x.1,x.2.1,vs,x.2.2.2)) 0 []
def Qr(s:aL)(m:Int)(x:cP):Prop:=∀k (h:k<(cT (scN s) (R5 s)).1.length) vs rs,vs.length=s.2.2.2.1.length→d9 s m x ((cT (scN s) (R5 s)).1.take k) (List.replicate s.2.2.2.1.length JZ) (List.replicate s.2.2.2.1.length 0)=((0,0,0,0),vs,rs)→EvD s x (cT (scN s) (R5 s)).1[k] vs
def Ga(s:aL)(x:cP)(m:Int)(hLim:tf s)(hr0:s.2.2.2.2.length≤1000)(hC:Pn s)(hT:∀vs:List aN,Ou (x.1,x.2.1,vs,x.2.2.2))(hEv:Qr s m x):
 CtV prog 60 (.eptr hU (s,Fn s x.1,io s x.1)) gD x (x.1,x.2.1,(lv s m x).2.1,x.2.2.2) [Sx m] (.tup2 (.tv (ag (ay .i64)) (if(lv s m x).1.1≠0 then[]else(lv s m x).2.2)) (.tv bh (lv s m x).1)):=by
 refine BJ func60 Z Z ntmps60 Z Z ?_;intro w0 ok0 pb po cur e0 h0 hnb hrow;have hfit:po+2+1≤cur.size:=by exact V8
 have hds:s.2.2.2.1.length≤1000000:=wb (show s.2.2.2.1.length≤14 from hLim.1) cy;have hor:∀q∈(cT (scN s) (R5 s)).1,0≤q∧q<(s.2.2.2.1.length:Int):=fun q hq=>by unfold cT at hq;split at hq;cases hq;exact(lX _ _ _).rng q hq
 have hol:(cT (scN s) (R5 s)).1.length≤s.2.2.2.1.length:=by unfold cT;split;simp;exact(lX _ _ _).len
 refine Qh ?_;refine zJ (cS (.b Z)) (Y4 ?_);refine zO (fM eV aM Qg Z Fv (.b Z) (.b Z) ac7 aaT rfl rfl rfl) ?_;refine H8 23 Z (fun A cap=>?_);refine zJ (uv (.b Z)) (zJ (Bi gR (.b Z)) ?_);refine y7 (f:=2) G8 (.b Z) Z h0 hnb hfit ?_;refine zZ (ac ?_);have hrowH:=Rq (rtH:=HC) (xH:=(x.1,x.2.1,(A,s.2.2.2.1.length,cap),x.2.2.2)) hrow h0 hnb hfit (A:=A) (n:=s.2.2.2.1.length) (cap:=cap) (F:=fun h=>(x.1,x.2.1,h,x.2.2.2)) (gM _ (gM _ (Bf _ ut))) qg rfl (fun y=>rfl);refine Ib (s:=.tv cq true) 23 1 Z Z ?_;refine ab (zM Z (zJ (cS (.b Z)) (Y4 ?_)));refine zO (fM bT Sj z3 Z J7 (.b Z) (.b Z) ac7 aaT rfl rfl rfl) (zY rfl (aa (ac (zR (zM rfl (zJ (cS (.b rfl)) (Y8 ?_)))))));refine bf (ι:=Nat×List aN×List Int) (fun(k,vs,rs)=>⟨[(0,.eptr hU (s,Fn s x.1,io s x.1)),(1,.lnk (.raw (dE pb po)) (.slice A s.2.2.2.1.length cap) (.own 23 aK.n 0 s.2.2.2.1.length)),(2,Sx m),(7,Sy 7 bh),(8,.own 32 (ay .i64).n 0 s.2.2.2.1.length),(23,.both (.own 23 aK.n 0 s.2.2.2.1.length) (.slice A s.2.2.2.1.length cap)),(37,.tv (ag (ay .i64)) (cT (scN s) (R5 s)).1),(38,Sx (((cT (scN s) (R5 s)).1.length:Int))),(39,Sx ((k:Nat)))],[(7,⟨bh,[(0,0,0,0)]⟩),(32,⟨ay .i64,rs⟩),(23,⟨aK,vs⟩)]⟩) (fun(k,vs,rs)=>k≤(cT (scN s) (R5 s)).1.length∧vs.length=s.2.2.2.1.length∧rs.length=s.2.2.2.1.length∧d9 s m x ((cT (scN s) (R5 s)).1.drop k) vs rs=(lv s m x)∧d9 s m x ((cT (scN s) (R5 s)).1.take k) (List.replicate s.2.2.2.1.length JZ) (List.replicate s.2.2.2.1.length 0)=((0,0,0,0),vs,rs)) (fun(k,vs,rs)=>(cT (scN s) (R5 s)).1.length-k) (0,List.replicate s.2.2.2.1.length JZ,List.replicate s.2.2.2.1.length 0) (⟨P8 _,Sp,Sp,rfl,rfl⟩) (fun a w hi=>(zI hi)) ?_;rintro⟨k,vs,rs⟩⟨hk,hvl,hrl,hR,hP⟩;refine Z6 ?_ ?_<;>intro h4;have h4:k<(cT (scN s) (R5 s)).1.length:=Yo;have hr:=hor _ (aA h4);have hx:=hR;rw[DM h4]at hx;have hevd:=hEv k h4 vs rs hvl hP;refine Qy ?_;refine zJ (jT Z) (zJ (rX ua Z hrowH) (zM Z (zM Z (zJ (ux (xl:=.tmp 47) (DK s (cT (scN s) (R5 s)).1[k] m (x.1,x.2.1,vs,x.2.2.2) hr0 hC (hT vs) (fun i hi hz=>(hevd i hi).1 hz)) (pB fh (qy (gE (fj _) (gE (fj _) (gE (fj _) (fj _)))))) Z Sp Z hvl.symm (.cons (.b Z) Z (.cast Z (aY _ (aY _ (eC _ dc))) (.cons (.b Z) Z (.cons (.b Z) Z .nil))))) (PI ?_ ?_)))))<;>intro h7;have hne:(sC s m (x.1,x.2.1,vs,x.2.2.2) (cT (scN s) (R5 s)).1[k]).2.1≠0:=fQ;have hst:(d5 s m (x.1,x.2.1,vs,x.2.2.2) (cT (scN s) (R5 s)).1[k])=((sC s m (x.1,x.2.1,vs,x.2.2.2) (cT (scN s) (R5 s)).1[k]).2,0,JZ):=by unfold d5 sC;by_cases e1:(ew s m (x.1,x.2.1,vs,x.2.2.2) (cT (scN s) (R5 s)).1[k]).2.1≠0;rw[Cg e1,Cg e1];rw[zE e1,zE e1];by_cases e2:(ew s m (x.1,x.2.1,vs,x.2.2.2) (cT (scN s) (R5 s)).1[k]).1 = -1;rw[Cg e2,Cg e2];rw[zE e2,zE e2];by_cases e3:(ew s m (x.1,x.2.1,vs,x.2.2.2) (cT (scN s) (R5 s)).1[k]).1 = -2;rw[Cg e3,Cg e3];exfalso;unfold sC at hne;rw[zE e1,zE e2,zE e3]at hne;exact hne rfl
 rw[hst]at hx;rw[Cg hne]at hx;have hx:=hx.symm;refine ac ?_;refine je (Y9 ?_);refine b8 (ax (al ?_));refine mw (rt:=aK) 23 23 (bQ 23 _) Z Z KH (a6 23 _) (bm 23 _) ?_;rw[Pv,fV DO];exact mx (i:=23) results60 (R8 (rt:=ay .i64) Z) (aq dJ Z Z Z (Lens.id bh)) ⟨Z,Z⟩ abb h0 hnb hrow gy rfl rfl GE;have h7:(sC s m (x.1,x.2.1,vs,x.2.2.2) (cT (scN s) (R5 s)).1[k]).2.1=0:=fQ;have h9:(ew s m (x.1,x.2.1,vs,x.2.2.2) (cT (scN s) (R5 s)).1[k]).2.1=0:=by by_cases e1:(ew s m (x.1,x.2.1,vs,x.2.2.2) (cT (scN s) (R5 s)).1[k]).2.1=0;exact e1;exfalso;unfold sC at h7;rw[Cg e1]at h7;exact e1 h7
 have h12:¬(ew s m (x.1,x.2.1,vs,x.2.2.2) (cT (scN s) (R5 s)).1[k]).1 = -1:=fun e=>by unfold sC at h7;rw[zE (fun q=>q h9),Cg e]at h7;exact absurd h7 (show ¬(10:Int)=0 by decide)
 have h14:¬(ew s m (x.1,x.2.1,vs,x.2.2.2) (cT (scN s) (R5 s)).1[k]).1 = -2:=fun e=>by unfold sC at h7;rw[zE (fun q=>q h9),zE h12,Cg e]at h7;exact absurd h7 (show ¬(11:Int)=0 by decide)
 have⟨hs0,hsm⟩:=xc h9 h12 h14;have hmA:=NP hsm;have hri:(((ew s m (x.1,x.2.1,vs,x.2.2.2) (cT (scN s) (R5 s)).1[k]).1.toNat:Nat):Int)=(ew s m (x.1,x.2.1,vs,x.2.2.2) (cT (scN s) (R5 s)).1[k]).1:=So;have hsc:(sC s m (x.1,x.2.1,vs,x.2.2.2) (cT (scN s) (R5 s)).1[k])=((((vL s x.1 (ew s m (x.1,x.2.1,vs,x.2.2.2) (cT (scN s) (R5 s)).1[k]).1.toNat):Nat):Int),(0,0,0,0)):=by unfold sC;rw[zE (fun q=>q h9),zE h12,zE h14]
 rw[hsc];have hev2:=(hevd _ hsm).2;have hcx:=(hC _ (aA (jG hsm))).2;rw[←pO (jG hsm)]at hcx;have hok:=(cx_1 hcx hev2.1).1;refine Y3 ?_;refine je (ca (ai (.b Z)) (ca (cS (.b Z)) (Y4 ?_)));refine ca (av Dv iw (.b Z) (.b Z) Z (D8 hmA).2) (Y2 ?_);refine ca (jT Z) (ca (rX ua Z hrowH) (ca (ux (xl:=.tmp 68) (Dp (OV (DW s (ew s m (x.1,x.2.1,vs,x.2.2.2) (cT (scN s) (R5 s)).1[k]).1.toNat)) (x.1,x.2.1,vs,x.2.2.2) (vJ (DW s (ew s m (x.1,x.2.1,vs,x.2.2.2) (cT (scN s) (R5 s)).1[k]).1.toNat) (x.1,x.2.1,vs,x.2.2.2)) hok.gd hok.len hev2.2 hok.num (hT vs)) (adE (qy (gE (fj _) (gE (fj _) (fj _)))) (qy NI) fh) Z Sp Z hvl.symm (.cons (.b Z) Z (.cast Z (aY _ (aY _ (eC _ dc))) .nil))) (ca (ai (.b Z)) (ca (eS (.b Z)) (ca (eR (.b Z)) (ca (eQ (.b Z)) (Y8 ?_)))))));rw[LH];refine Z5 ?_ ?_<;>intro h10;have hne:(dM (DW s (ew s m (x.1,x.2.1,vs,x.2.2.2) (cT (scN s) (R5 s)).1[k]).1.toNat) (x.1,x.2.1,vs,x.2.2.2)).2≠0:=Qk;have hst:(d5 s m (x.1,x.2.1,vs,x.2.2.2) (cT (scN s) (R5 s)).1[k])=(((dM (DW s (ew s m (x.1,x.2.1,vs,x.2.2.2) (cT (scN s) (R5 s)).1[k]).1.toNat) (x.1,x.2.1,vs,x.2.2.2)).2,m,(cT (scN s) (R5 s)).1[k],(ew s m (x.1,x.2.1,vs,x.2.2.2) (cT (scN s) (R5 s)).1[k]).1),0,JZ):=Zh;rw[hst]at hx;rw[Cg hne]at hx;have hx:=hx.symm;refine ac ?_;refine je (Y4 ?_);refine ca (cS (.b Z)) (Y3 ?_);refine ca (av bT Sj (.b Z) (.b Z) Z (xi hmA)) (ca (aO Sj (.b Z)) (ca (aC ii Z nN (.cons (rt':=(ay .i64)) Z gx (.raw (.b Z) Z) (.cons (rt':=(ay .i64)) Z lf (.raw (.b Z) Z) (.cons (rt':=(ay .i64)) Z ld (.raw (.b Z) Z) (.cons (rt':=(ay .i64)) Z lc (.raw (.b Z) Z) .nil))))) (Y8 ?_)));refine b8 (ax (al ?_));refine mw (rt:=aK) 23 23 (bQ 23 _) Z Z KH (a6 23 _) (bm 23 _) ?_;rw[Pv,fV DO];exact mx (i:=23) results60 (R8 (rt:=ay .i64) rfl) (aq dJ rfl rfl rfl (Lens.id bh)) ⟨rfl,rfl⟩ (by rw[hx,Cg hne];first|rfl|(rw[hri];rfl)|(rw[←hri];rfl)) h0 hnb hrow gy rfl rfl GE;have h10:(dM (DW s (ew s m (x.1,x.2.1,vs,x.2.2.2) (cT (scN s) (R5 s)).1[k]).1.toNat) (x.1,x.2.1,vs,x.2.2.2)).2=0:=Qk;have hst:(d5 s m (x.1,x.2.1,vs,x.2.2.2) (cT (scN s) (R5 s)).1[k])=((0,0,0,0),(ew s m (x.1,x.2.1,vs,x.2.2.2) (cT (scN s) (R5 s)).1[k]).1,(dM (DW s (ew s m (x.1,x.2.1,vs,x.2.2.2) (cT (scN s) (R5 s)).1[k]).1.toNat) (x.1,x.2.1,vs,x.2.2.2)).1):=by unfold d5;rw[zE (fun q=>q h9),zE h12,zE h14,zE (fun q=>q h10)]
 have hP2:=DL (d:=(cT (scN s) (R5 s)).1[k]) hP (by rw[hst]);rw[show(cT (scN s) (R5 s)).1.take k++[(cT (scN s) (R5 s)).1[k]]=(cT (scN s) (R5 s)).1.take (k+1)from(px h4).symm]at hP2;have hx2:=hx;rw[hst]at hx2;rw[zE (fun q=>q rfl)]at hx2;have hx:d9 s m x ((cT (scN s) (R5 s)).1.drop (k+1)) (vs.set (cT (scN s) (R5 s)).1[k].toNat (d5 s m (x.1,x.2.1,vs,x.2.2.2) (cT (scN s) (R5 s)).1[k]).2.2) (rs.set (cT (scN s) (R5 s)).1[k].toNat (d5 s m (x.1,x.2.1,vs,x.2.2.2) (cT (scN s) (R5 s)).1[k]).2.1)=(lv s m x):=by rw[hst];exact hx2
 refine Y3 ?_;refine je (ca (ai (.b Z)) (ca (jT Z) (ca (Bj gR Z) (ca (Bh G8 Z hrowH qg Z) (Y2 ?_)))));refine ca (yr (rt:=aK) eV aM Z (.b Z) (show(cT (scN s) (R5 s)).1[k]=(((cT (scN s) (R5 s)).1[k].toNat:Nat):Int)by omega) zo) (LJ aM rfl rfl (RY zo) (Lens.id _) (.tv (.b rfl)) (je0 ?_));refine Y5 ?_;refine zJ (cS (.b Z)) (zB py CG Z (zD kr Z (zM Z (zX bT Sj Z Z Z (xi hmA) (zD Sj Z (zJ (bk bT Sj (.b Z) (.b Z) (show(cT (scN s) (R5 s)).1[k]=(((cT (scN s) (R5 s)).1[k].toNat:Nat):Int)by omega) zh) ?_))))));refine gV _ Z (bH Sj (.b Z) Z (RY zo) (Lens.id _) (.raw (.b Z) Z)) ?_;refine Y7 ?_;exact aE (fun a w hi=>⟨(k+1,vs.set (cT (scN s) (R5 s)).1[k].toNat (d5 s m (x.1,x.2.1,vs,x.2.2.2) (cT (scN s) (R5 s)).1[k]).2.2,rs.set (cT (scN s) (R5 s)).1[k].toNat (d5 s m (x.1,x.2.1,vs,x.2.2.2) (cT (scN s) (R5 s)).1[k]).2.1),QB,⟨Em,by rw[QC];exact hvl,by rw[QC];exact hrl,hx,hP2⟩,Sub.inv ⟨ZH,(by repeat(first|exact aw|refine ao rfl (by first|rfl|(refine congrArg (HB.mk aK) ?_;first|rfl|(rw[hst,N1,LI h10];done))|(refine congrArg (HB.mk (ay .i64)) ?_;first|rfl|(rw[hst,N1];exact congrArg _ hri;done)|(rw[hst,N1,hri];done))) ?_))⟩ hi⟩);have h4:k=(cT (scN s) (R5 s)).1.length:=Kb;have hx:(lv s m x)=((0,0,0,0),vs,rs):=by rw[←hR,h4,List.drop_length];rfl
 refine Y6 ?_;refine nZ (rt:=ay .i64) 32 8 (bQ 32 _) Z Z (by rw[hrl];omega) (a6 32 _) (bm 32 _) ?_;rw[Pv,fV (by rw[hrl];exact Kl _)];refine ab (zM Z (zJ (aC ii Z nN .nil) (Y5 ?_)));refine mw (rt:=aK) 23 23 (bQ 23 _) Z Z KH (a6 23 _) (bm 23 _) ?_;rw[Pv,fV DO];exact mx (i:=23) results60 (ar Z) (aq dJ Z Z Z (Lens.id bh)) ⟨Z,Z⟩ (by rw[hx,zE (fun q=>q rfl)];rfl) h0 hnb hrow gy rfl rfl GE
def rm(s:aL)(x:cP)(m:Int)(hLim:tf s)(hr0:s.2.2.2.2.length≤1000)(hC:Pn s)(hT:∀vs:List aN,Ou (x.1,x.2.1,vs,x.2.2.2))(hEv:Qr s m x):
 CtV prog 60 (.eptr hU (s,Fn s x.1,io s x.1)) gD x (x.1,x.2.1,(lv s m x).2.1,x.2.2.2) [Sx m] (.tup2 (.tv (ag (ay .i64)) (if(lv s m x).1.1≠0 then[]else(lv s m x).2.2)) (.tv bh (lv s m x).1)):=Ga s x m hLim hr0 hC hT hEv
def Pl(l:bZ)(scope:Int)(c:fo)(hL:FX l)(hN:vy l)(hLL:OH l)(hLim:∀s∈l.2.2,tf s)(hcl:c.2.2.length≤1000000)(hTb:∀t∈l.2.1,t.2.2.2.length≤100∧∀x∈t.2.2.2,-9223372036854775808≤x.2.2.2∧x.2.2.2≤9223372036854775807)(hV:(eU l).1=0→(∀s∈l.2.2,Pn s)∧∀s∈l.2.2,∀r∈s.2.2.2.2,0≤r.2.1∧r.2.1<(s.2.2.2.1.length:Int))(hEv:∀i,(hi:i<l.2.2.length)→scope=(i:Nat)→(eU l).1=0→(j5 l l.2.2[i] c).2.2=0→(∀k,k<c.2.2.length→Qr (bW l l.2.2[i]) (k:Nat) (yF c l.2.1 k))∧(nP (bW l l.2.2[i]) c l.2.1 c.2.2.length=none→Qr l.2.2[i] (-1) (wX (bW l l.2.2[i]) c l.2.1))):Ct prog 17 [.tv bl l,Sx scope,.tv gL c] (.tup2 (.tv cZ (lC l scope c).1) (.tv bh (lC l scope c).2)):=by
 refine Yk func17 ntmps17 fun w0 ok0=>?_;refine zb ?_;refine YK (ox l hL hN) ?_;refine Jf ?_ ?_<;>intro h2;have hrun:lC l scope c=(Kt,(1,-1,-1,-1)):=by
  have e:ckA l scope c false 0=(1,-1,-1,-1):=by unfold ckA;rw[Cg h2]
  unfold lC;rw[e,Cg cy]
 exact T4;skip;refine PI ?_ ?_<;>intro h4;have h4:scope<0∨(l.2.2.length:Int)≤scope∨(false=true∧((0:Int)<0∨((sc l scope).2.2.2.1.length:Int)≤0)):=by by_cases q0:scope<0;exact .inl q0;refine .inr (.inl ?_);simp[q0]at h4;exact h4
 have hrun:lC l scope c=(Kt,(6,-1,-1,-1)):=by have e:ckA l scope c false 0=(6,-1,-1,-1):=ZX;unfold lC;rw[e,Cg cy]
 exact T4;have h4:¬(scope<0∨(l.2.2.length:Int)≤scope∨(false=true∧((0:Int)<0∨((sc l scope).2.2.2.1.length:Int)≤0))):=by rintro(q|q|⟨q,_⟩);simp[q]at h4;simp[q]at h4;cases q
 obtain⟨i,rfl⟩:∃i:Nat,scope=i:=⟨scope.toNat,So⟩;have hi0:i<l.2.2.length:=So;have hsc:=wx hi0;refine Y8 ?_;refine YK (GZ l i c hi0 hcl) ?_;refine zM Z (zJ (eS (.b Z)) (zJ (eR (.b Z)) (zJ (eQ (.b Z)) (Jf ?_ ?_))))<;>intro h7;have hrun:lC l (i:Nat) c=(Kt,((j5 l l.2.2[i] c).2.2,(j5 l l.2.2[i] c).1,-1,-1)):=by
  have e:ckA l (i:Nat) c false 0=((j5 l l.2.2[i] c).2.2,(j5 l l.2.2[i] c).1,-1,-1):=by unfold ckA;rw[zE Ji,zE h4,hsc,Cg h7]
  unfold lC;rw[e,Cg h7]
 refine zR (zJ (aC PP Z Cm .nil) (zM Z (zM Z (zJ (aC ii Z nN (.cons (rt':=(ay .i64)) Z gx (.raw (.b Z) Z) (.cons (rt':=(ay .i64)) Z lf (.raw (.b Z) Z) (.cons (rt':=(ay .i64)) Z ld (.raw (.b Z) Z) (.cons (rt':=(ay .i64)) Z lc (.raw (.b Z) Z) .nil))))) (Y6 ?_)))));exact aI results17 (aq iQ Z Z Z (Lens.id cZ)) (aq dJ Z Z Z (Lens.id bh)) ⟨Z,Z⟩ (by rw[hrun];rfl);have hck:((ckA l (i:Nat) c false 0).1 != 0)=false:=by
  have e:ckA l (i:Nat) c false 0=(0,0,0,0):=by unfold ckA;rw[zE Ji,zE h4,hsc,zE (by rw[h7];decide)]
  rw[e];rfl
 have hrun:lC l (i:Nat) c=((DV l.2.2[i] (bW l l.2.2[i]) c l.2.1).1,(DV l.2.2[i] (bW l l.2.2[i]) c l.2.1).2.2):=by unfold lC;rw[hck,zE cy,hsc]
 have hvl:(eU l).1=0:=J3;have hvc:(j5 l l.2.2[i] c).2.2=0:=fQ;obtain⟨hCx,hRr⟩:=hV hvl;obtain⟨hEvM,hEvH⟩:=hEv i hi0 rfl hvl hvc;have hms:l.2.2[i].2.1<(l.2.2.length:Int):=by have:=w7 hvl i hi0;omega
 have hLs:=hLim _ (aA hi0);have hMm:(bW l l.2.2[i])=Qc∨∃j,∃hj:j<l.2.2.length,(bW l l.2.2[i])=l.2.2[j]:=by exact We
 have hLm:tf (bW l l.2.2[i]):=by exact WW
 have hdm:(bW l l.2.2[i]).2.2.2.1.length≤14:=hLm.1;have hlm:(bW l l.2.2[i]).2.2.2.2.length≤1000:=by exact WE
 have hCm:Pn (bW l l.2.2[i]):=by rcases hMm with e|⟨j,hj,e⟩;rw[e];intro r hr;cases hr;rw[e];exact hCx _ (aA hj)
 have hls:=(hL.2.2.2 _ (aA hi0)).1.2.2.2;have hCs:=hCx _ (aA hi0);refine ak (aa (zR (zl GQ (Qh ?_))));refine zJ (aC w6 Z ym (.cons (rt':=ay .i64) Z yS (.raw (.b Z) Z) (.cons (rt':=ag aK) Z yR (.tv (.b Z)) (.cons (rt':=ag b9) Z yQ (.tv (.b Z)) .nil)))) (zl w6 (zC Dz Z Z Z (Lens.id _) (.tv (.b Z)) (Y9 ?_)));refine Jf ?_ ?_<;>intro h12;have h12:0≤l.2.2[i].2.1:=P9;have hml:l.2.2[i].2.1.toNat<l.2.2.length:=So;have hme:=wG h12 hml;have hnm:=tF l l.2.2[i].2.1.toNat c.1 hml hLL (hLim _ (aA hml)) (hCx _ (aA hml)) (by rw[←hme];exact hlm) (hRr _ (aA hml));rw[show((l.2.2[i].2.1.toNat:Nat):Int)=l.2.2[i].2.1 by omega,←hme]at hnm;refine Y6 ?_;refine YK hnm ?_;refine Y5 ?_;refine iB 13 70 bt Z Z Z ?_;refine ab (zM Z (zJ (cS (.b Z)) (Y8 ?_)));refine bf (ι:=Nat×Option Addr×Nat) (fun(k,A,cap)=>⟨[(1,Sx ((i:Nat))),(3,Sy 3 bl),(5,Sy 5 gL),(6,Sy 6 cZ),(7,Sy 7 bh),(12,Sy 12 nI),(13,.lnk (Sy 13 nK) (.slice A (((bW l l.2.2[i]).2.2.2.1.take k).map (fun f=>f.2)).length cap) (.own 70 bt.n 0 (((bW l l.2.2[i]).2.2.2.1.take k).map (fun f=>f.2)).length)),(15,(.eptr hU ((bW l l.2.2[i]),Fn (bW l l.2.2[i]) c.1,io (bW l l.2.2[i]) c.1))),(81,.tv (ag dm) (bW l l.2.2[i]).2.2.2.1),(82,Sx ((bW l l.2.2[i]).2.2.2.1.length)),(83,Sx ((k:Nat)))],[(3,⟨bl,[l]⟩),(5,⟨gL,[c]⟩),(6,⟨cZ,[([],[],[])]⟩),(7,⟨bh,[(0,0,0,0)]⟩),(12,⟨nI,[([],[],(none,0,0))]⟩),(13,⟨nK,[(c.1,c.2.1,[],(none,0,0),(A,(((bW l l.2.2[i]).2.2.2.1.take k).map (fun f=>f.2)).length,cap),l.2.1)]⟩),(70,⟨bt,(((bW l l.2.2[i]).2.2.2.1.take k).map (fun f=>f.2))⟩)]⟩) (fun(k,A,cap)=>k≤(bW l l.2.2[i]).2.2.2.1.length) (fun(k,A,cap)=>(bW l l.2.2[i]).2.2.2.1.length-k) (0,none,0) (P8 _) (fun a w hi=>(zI hi)) ?_;rintro⟨k,A,cap⟩ hk;have q4:=mk_l (fun f:dG=>f.2) (bW l l.2.2[i]).2.2.2.1 k;refine zR (zt Z Z (zQ [1,3,5,6,7,12,13,15,81,82,83,84] [3,5,6,7,12,13,70] (aa (ac ?_))));refine Z0 ?_ ?_<;>intro h15;have h15:k<(bW l l.2.2[i]).2.2.2.1.length:=LQ;have hs:=mk_s (fun f:dG=>f.2) h15;have hsl:=congrArg List.length hs;rw[Yl]at hsl;refine Lc ?_;refine zJ (ah (rt:=nK) G3 (.b Z) Z Z qi) ?_;refine jD 13 88 Z Z Z ?_;refine Y2 ?_;refine zJ (bP (rt:=bt) dI aQ JI Z (.cons (.tv (.b Z)) .nil) Z Z) (zV [1,3,5,6,7,12,13,15,81,82,83] dI aQ JI QW Z Z (.tv (.b Z)) ?_);refine ge 13 92 Z Z (fun A9 cap9=>?_);refine zJ (aj iD (.l1 Z)) (zO (bH (rt:=nK) G3 (.b Z) Z Z qi (.raw (d:=(A9,_,cap9)) (.b Z) Z)) (Y7 ?_));exact TA;have h15:(bW l l.2.2[i]).2.2.2.1.length≤k:=LQ;have hmn:=mk_n (fun f:dG=>f.2) h15;refine Y6 ?_;rw[hmn];refine dv (rt:=bt) 70 13 (bQ 70 _) Z Z Sp (a6 70 _) (bm 70 _) ?_;rw[Pv,fV Sp];refine eg 13 13 pe (c.1,c.2.1,[],(none,0,0),((bW l l.2.2[i]).2.2.2.1.map (fun f=>f.2)),l.2.1) (aY _ (aY _ (aY _ (aY _ (eC _ dc))))) Z Z Z ?_;refine iB 13 71 (ag aK) Z Z Z ?_;refine iB 12 72 cu Z Z Z ?_;refine Y8 ?_;refine bf (ι:=Nat×Option Addr×Nat×Option Addr×Nat) (fun(k,A,cap,A2,cap2)=>⟨[(1,Sx ((i:Nat))),(3,Sy 3 bl),(5,Sy 5 gL),(6,Sy 6 cZ),(7,Sy 7 bh),(12,.lnk (Sy 12 nI) (.slice A2 k cap2) (.own 72 cu.n 0 k)),(13,.lnk (Sy 13 pe) (.slice A k cap) (.own 71 (ag aK).n 0 k)),(15,(.eptr hU ((bW l l.2.2[i]),Fn (bW l l.2.2[i]) c.1,io (bW l l.2.2[i]) c.1))),(96,.tv (ag (ag aK)) c.2.2),(97,Sx c.2.2.length),(98,Sx ((k:Nat)))],[(3,⟨bl,[l]⟩),(5,⟨gL,[c]⟩),(6,⟨cZ,[([],[],[])]⟩),(7,⟨bh,[(0,0,0,0)]⟩),(12,⟨nI,[([],[],(A2,k,cap2))]⟩),(13,⟨pe,[(c.1,c.2.1,[],(A,k,cap),((bW l l.2.2[i]).2.2.2.1.map (fun f=>f.2)),l.2.1)]⟩),(71,⟨(ag aK),(p6 (bW l l.2.2[i]) c l.2.1 k)⟩),(72,⟨cu,(qL (bW l l.2.2[i]) c l.2.1 k)⟩)]⟩) (fun(k,A,cap,A2,cap2)=>k≤c.2.2.length∧nP (bW l l.2.2[i]) c l.2.1 k=none) (fun(k,A,cap,A2,cap2)=>c.2.2.length-k) (0,none,0,none,0) (⟨P8 _,Z⟩) (fun a w hi=>(zI hi)) ?_;rintro⟨k,A,cap,A2,cap2⟩⟨hk,hF⟩;have hla:=rj (bW l l.2.2[i]) c l.2.1 k;have hlb:=Ep (bW l l.2.2[i]) c l.2.1 k;have hta:=fV (Kf hla);have htb:=fV (Kf hlb);refine Z6 ?_ ?_<;>intro h20;have h20:k<c.2.2.length:=LE;have hs1:=Mp (bW l l.2.2[i]) c l.2.1 k;have hs2:=Mo (bW l l.2.2[i]) c l.2.1 k;have hck2:yF c l.2.1 k=(c.1,c.2.2[k],[],[],[],l.2.1):=by unfold yF;rw[RY h20];rfl
 have hmk:lv (bW l l.2.2[i]) k (c.1,c.2.2[k],[],[],[],l.2.1)=(mq (bW l l.2.2[i]) c l.2.1 k):=by rw[←hck2];rfl
 have hevk:Qr (bW l l.2.2[i]) (k:Nat) (c.1,c.2.2[k],[],[],[],l.2.1):=by rw[←hck2];exact hEvM k h20
 refine Y20 ?_;refine zJ (aC BW Z ym (.cons (rt':=(ay .i64)) Z qo (.raw (.b Z) Z) (.cons (rt':=(ag aK)) Z uG (.tv (.b Z)) (.cons (rt':=(ag b9)) Z oD (.tv (.b Z)) .nil)))) (Y8 ?_);refine zO (yx (rm (bW l l.2.2[i]) (c.1,c.2.2[k],[],[],[],l.2.1) _ hLm hlm hCm (fun vs=>⟨Sp,hTb⟩) hevk) (.b rfl) rfl (.cons (.b rfl) (.cons (.b rfl) .nil)) rfl rfl rfl) (Qh ?_);rw[hmk];refine Z6 ?_ ?_<;>intro h24;have h24:(mq (bW l l.2.2[i]) c l.2.1 k).1.1≠0:=by have h:=h24;simp at h;exact h
 have hev:DV l.2.2[i] (bW l l.2.2[i]) c l.2.1=(Kt,Kx,(mq (bW l l.2.2[i]) c l.2.1 k).1):=by unfold DV;rw[Cu (Mm hF h24) zo]
 refine ac ?_;refine je (ca (aC PP Z Cm .nil) (Y4 ?_));refine aa (am (al (ax (al (b8 (ax (al ?_)))))));exact WB;have h24:(mq (bW l l.2.2[i]) c l.2.1 k).1.1=0:=by have h:=h24;simp at h;exact h
 rw[zE (fun q=>q h24)];refine Y5 ?_;refine zJ (ah (rt:=pe) G7 (.b Z) Z Z qh) ?_;refine jD 13 121 Z Z Z ?_;refine Y2 ?_;refine zJ (bP (rt:=(ag aK)) qJ iF z27 Z (.cons (.tv (.b Z)) .nil) Z Z) (zV [1,3,5,6,7,12,13,15,20,21,96,97,98] qJ iF z27 by27 Z Z (.tv (.b Z)) ?_);refine ge 13 125 Z Z (fun A8 cap8=>?_);refine zJ (aj oe (.l1 Z)) (zO (bH (rt:=pe) G7 (.b Z) Z Z qh (.raw (d:=(A8,_,cap8)) (.b Z) Z)) (zZ (ab (zJ (aj so (.l1 Z)) (zJ (ah (rt:=nI) G6 (.b Z) Z Z qc) ?_)))));refine jD 12 128 Z Z Z ?_;refine Y3 ?_;refine zJ (aC I8 Z Ru (.cons (rt':=(ag aK)) Z xt (.tv (.b Z)) (.cons (rt':=(ag (ay .i64))) Z xr (.tv (.b Z)) .nil))) (zJ (bP (rt:=cu) Ar ww I8 Z (.cons (.tv (.b Z)) .nil) Z Z) (zV [1,3,5,6,7,12,13,15,96,97,98] Ar ww I8 RW Z Z (.tv (.b Z)) ?_));refine ge 12 134 Z Z (fun A9 cap9=>?_);refine zJ (aj so (.l1 Z)) (zO (bH (rt:=nI) G6 (.b Z) Z Z qc (.raw (d:=(A9,_,cap9)) (.b Z) Z)) (Y7 ?_));exact aE (fun a w hi=>⟨(k+1,A8,cap8,A9,cap9),QB,⟨Em,Mn hF h24⟩,Sub.inv ⟨Zj,(by repeat(first|exact aw|refine ao rfl (by first|rfl|(refine congrArg (HB.mk (ag aK)) ?_;first|rfl|(exact(congrArg (fun z=>z++_) hta).trans hs1.symm;done))|(refine congrArg (HB.mk cu) ?_;first|rfl|(rw[hs2,htb];rfl;done)|(rw[hs2,htb];done)|(exact(congrArg (fun z=>z++_) htb).trans hs2.symm;done))|(simp;done)) ?_))⟩ hi⟩);have h20:k=c.2.2.length:=abD;subst h20;refine dv (rt:=(ag aK)) 71 13 (bQ 71 _) Z Z (by rw[hla];omega) (a6 71 _) (bm 71 _) ?_;rw[Pv,fV (by rw[hla];exact Kl _)];refine eg 13 13 gD (wX (bW l l.2.2[i]) c l.2.1) (aY _ (aY _ (aY _ (eC _ dc)))) Z Z Z ?_;refine dv (rt:=cu) 72 12 (bQ 72 _) Z Z (by rw[hlb];omega) (a6 72 _) (bm 72 _) ?_;rw[Pv,fV (by rw[hlb];exact Kl _)];refine eg 12 12 cZ ([],[],(qL (bW l l.2.2[i]) c l.2.1 c.2.2.length)) (aY _ (aY _ dc)) Z Z Z ?_;refine dy ?_;refine zJ (an (tF l i c.1 hi0 hLL hLs hCs zo (hRr _ (aA hi0))) (.cons (.b Z) (.cons (.b Z) (.cons (.b Z) .nil))) Z Z) (zO (yx (rm l.2.2[i] (wX (bW l l.2.2[i]) c l.2.1) (-1) hLs zo hCs (fun vs=>⟨aav,hTb⟩) (hEvH hF)) (.b rfl) rfl (.cons (.b rfl) (.cons (.b rfl) .nil)) rfl rfl rfl) (PI ?_ ?_))<;>intro h30;have h30:(lM l.2.2[i] (bW l l.2.2[i]) c l.2.1).1.1≠0:=aaU;have hev:DV l.2.2[i] (bW l l.2.2[i]) c l.2.1=(Kt,Kx,(lM l.2.2[i] (bW l l.2.2[i]) c l.2.1).1):=aay;refine ac ?_;refine je (ca (aC PP Z Cm .nil) (Y4 ?_));refine zK [6,7] [6,7] (aa (am (al ?_)));exact WB;exact SU;have h12:¬0≤l.2.2[i].2.1:=P9;have hme:=yE (l:=l) h12;have hc0:=Ds hvc zo;have hF:nP (bW l l.2.2[i]) c l.2.1 c.2.2.length=none:=by rw[hc0];rfl
 have hmt:((bW l l.2.2[i]).2.2.2.1.map (fun f=>f.2))=[]:=by rw[hme];rfl
 have hma:p6 (bW l l.2.2[i]) c l.2.1 c.2.2.length=[]:=by rw[hc0];rfl
 have hmb:qL (bW l l.2.2[i]) c l.2.1 c.2.2.length=[]:=by rw[hc0];rfl
 refine iB 13 70 bt Z Z Z ?_;refine dv (rt:=bt) 70 13 (bQ 70 _) Z Z Sp (a6 70 _) (bm 70 _) ?_;rw[Pv,fV Sp];refine eg 13 13 (r1:=nK) (d1:=(c.1,c.2.1,[],(none,0,0),(none,0,0),l.2.1)) pe (c.1,c.2.1,[],(none,0,0),((bW l l.2.2[i]).2.2.2.1.map (fun f=>f.2)),l.2.1) ?_ Z Z Z ?_;rw[hmt];exact(aY _ (aY _ (aY _ (aY _ (eC _ dc)))));refine iB 13 71 (ag aK) Z Z Z ?_;refine iB 12 72 cu Z Z Z ?_;refine dv (rt:=(ag aK)) 71 13 (bQ 71 _) Z Z Sp (a6 71 _) (bm 71 _) ?_;rw[Pv,fV Sp];refine eg 13 13 (r1:=pe) (d1:=(c.1,c.2.1,[],(none,0,0),((bW l l.2.2[i]).2.2.2.1.map (fun f=>f.2)),l.2.1)) gD (wX (bW l l.2.2[i]) c l.2.1) ?_ Z Z Z ?_;unfold wX;rw[hma];exact(aY _ (aY _ (aY _ (eC _ dc))));refine dv (rt:=cu) 72 12 (bQ 72 _) Z Z Sp (a6 72 _) (bm 72 _) ?_;rw[Pv,fV Sp];refine eg 12 12 (r1:=nI) (d1:=([],[],(none,0,0))) cZ ([],[],(qL (bW l l.2.2[i]) c l.2.1 c.2.2.length)) ?_ Z Z Z ?_;rw[hmb];exact(aY _ (aY _ dc));refine Y8 ?_;refine zJ (an (tF l i c.1 hi0 hLL hLs hCs zo (hRr _ (aA hi0))) (.cons (.b Z) (.cons (.b Z) (.cons (.b Z) .nil))) Z Z) (zO (yx (rm l.2.2[i] (wX (bW l l.2.2[i]) c l.2.1) (-1) hLs zo hCs (fun vs=>⟨aav,hTb⟩) (hEvH hF)) (.b rfl) rfl (.cons (.b rfl) (.cons (.b rfl) .nil)) rfl rfl rfl) (PI ?_ ?_))<;>intro h30;have h30:(lM l.2.2[i] (bW l l.2.2[i]) c l.2.1).1.1≠0:=aaU;have hev:DV l.2.2[i] (bW l l.2.2[i]) c l.2.1=(Kt,Kx,(lM l.2.2[i] (bW l l.2.2[i]) c l.2.1).1):=aay;refine ac ?_;refine je (ca (aC PP Z Cm .nil) (Y7 ?_));exact WB;exact SU
def Jj(l:bZ)(c:fo)(hw:WL l):Ct prog 5 [.tv bl l,.tv gL c] (.raw (.bool (dB (SmL l)&&dB (SmC c)))):=by refine Yk func5 ntmps5 fun w0 ok0=>?_;refine Qh ?_;refine YK (Yl3f l hw) ?_;refine Y2 ?_;refine zG Z Z (fun hg=>an (smC_ok c) (.cons (.gd Z hg) .nil) Z Z) (Y5 ?_);exact z1 results5 Z Z
def Kd(date:Int)(rs:List dA):List (Int×Int×Int):=(rs.filter (fun x=>fm x.1 date)).map (fun x=>x.2)
def TbA(date:Int)(t u:bS):Prop:=t.2.1=u.2.1∧t.2.2.1=u.2.2.1∧Kd date t.2.2.2=Kd date u.2.2.2
def TbA.symm{t u:bS}(h:TbA date t u):TbA date u t:=⟨h.1.symm,h.2.1.symm,h.2.2.symm⟩
def P7(key:Int)(y:Int×Int×Int):Bool:=decide (y.1≤key)&&decide (key<y.2.1)
def AV{x:dA}{l:List dA}(h:fm x.1 date=true):Kd date (x::l)=x.2::Kd date l:=by unfold Kd;rw[List.filter_cons_of_pos (p:=fun x:dA=>fm x.1 date) h];rfl
def AW{x:dA}{l:List dA}(h:¬fm x.1 date=true):Kd date (x::l)=Kd date l:=by unfold Kd;rw[List.filter_cons_of_neg (p:=fun x:dA=>fm x.1 date) h]
def sq{f:dA→Bool}:∀(l:List dA) (k:Nat),(dF f l k).2=true→∃j:Nat,(dF f l k).1=((k+j:Nat):Int)∧(dF f l 0).1=(j:Int)
 | [],k,h=>by simp[dF]at h
 | x::l,k,h=>by
  rw[dF]at h⊢;split at h;rename_i c;rw[Cg c,dF,Cg c];exact⟨0,rfl,rfl⟩;rename_i c;rw[zE c,dF,zE c];obtain⟨j,h1,h2⟩:=sq l (k+1) h;have h3:∀(l:List dA) (a b:Nat),(dF f l a).2=(dF f l b).2:=fun l=>by
   induction l with
   | nil=>intro a b;rfl
   | cons x l ih=>
    intro a b;rw[dF,dF];split;· rfl
    exact ih _ _
  obtain⟨j',h4,h5⟩:=sq l (0+1) ((h3 l _ _).trans h);refine⟨j+1,by rw[h1];congr 1;omega,?_⟩;rw[h4];rw[h2]at h5;omega
def zH{f:dA→Bool}:∀(l:List dA) (a b:Nat),(dF f l a).2=(dF f l b).2
 | [],a,b=>rfl
 | x::l,a,b=>by
  rw[dF,dF];split;· rfl
  exact zH l _ _
def keyV(key:Int):List (Int×Int×Int)→Option Int
 | []=>none
 | y::l=>if P7 key y=true then some y.2.2 else keyV key l
def Cv{date key:Int}:∀(l:List dA),keyV key (Kd date l)=if(dF (gw date key) l 0).2=true then some (l[(dF (gw date key) l 0).1.toNat]?.getD rwZ).2.2.2 else none
 | []=>rfl
 | x::l=>by
  have ih:=Cv (date:=date) (key:=key) l;rw[dF];by_cases c:fm x.1 date=true;rw[AV c,keyV];have e:gw date key x=P7 key x.2:=by unfold gw P7;rw[c];simp
  rw[e];by_cases m:P7 key x.2=true;rw[Cg m,Cg m];rfl;rw[zE m,zE m,ih];exact Va;rw[AW c];have e:gw date key x=false:=by unfold gw;rw[Bool.not_eq_true]at c;rw[c];rfl
  rw[e,ih];simp only[PN,if_false];exact Va
def Ow(c:Int):Int→Int→List (Int×Int×Int)→Option (Int×Int)
 | a,b,[]=>some (a,b)
 | a,b,x::l=>if zz ((0,0),x)≥jo ((0,0),x) c then Ow c a b l else if(ik (jo ((0,0),x) c-zz ((0,0),x)) x.2.2).2.2=false then none else Ow c (a+(ik (jo ((0,0),x) c-zz ((0,0),x)) x.2.2).1) (b+(ik (jo ((0,0),x) c-zz ((0,0),x)) x.2.2).2.1) l
def Ai{date c:Int}:∀(l:List dA) (a b:Int),wZ date c a b l=Ow c a b (Kd date l)
 | [],a,b=>rfl
 | x::l,a,b=>by rw[wZ];by_cases q:fm x.1 date=true;rw[AV q,Ow,q];show(if(!true||decide (zz x≥jo x c))=true then _ else _)=(if zz x≥jo x c then _ else if(ik (jo x c-zz x) x.2.2.2).2.2=false then _ else Ow c (a+(ik (jo x c-zz x) x.2.2.2).1) (b+(ik (jo x c-zz x) x.2.2.2).2.1) _);by_cases m:zz x≥jo x c;rw[Cg m,Cg (by simp[m]),Ai l];rw[zE m,zE QE];split;rfl;exact Ai l _ _;rw[Bool.not_eq_true]at q;rw[AW (by rw[q];decide),Cg (by rw[q];rfl),Ai l]
def KF{c mode:Int}{t u:bS}(h:TbA date t u):lR t date c mode=lR u date c mode:=by unfold lR;rw[h.1,h.2.1,Ai,Ai,h.2.2]
structure EnvA(x y:cP):Prop where
 date:x.1=y.1
 ins:x.2.1=y.2.1
 len:x.2.2.1.length=y.2.2.1.length
 mem:x.2.2.2.1=y.2.2.2.1
 mts:x.2.2.2.2.1=y.2.2.2.2.1
 tbl:x.2.2.2.2.2.length=y.2.2.2.2.2.length
 tab:∀k:Nat,TbA x.1 (x.2.2.2.2.2[k]?.getD Fm) (y.2.2.2.2.2[k]?.getD Fm)
def EnvA.symm(h:EnvA x y):EnvA y x:=⟨h.date.symm,h.ins.symm,h.len.symm,h.mem.symm,h.mts.symm,h.tbl.symm,fun k=>h.date▸(h.tab k).symm⟩
def AH(d:aF)(x y:cP):Prop:=d.1=8→x.2.2.1[d.2.toNat]?.getD GD=y.2.2.1[d.2.toNat]?.getD GD
def Ko{d:aF}(h:EnvA x y)(hd:AH d x y):dH d x=dH d y:=by unfold dH;rw[h.ins,h.len,h.mts,h.tbl];by_cases c:d.1=8;rw[hd c];rw[zE c,zE c]
def OC{d:aF}(h:EnvA x y)(hd:AH d x y):fJ d args x=fJ d args y:=by have h1:=h.tab d.2.toNat;have h2:=h.tab (d.2/8).toNat;unfold fJ F4 DU;rw[h.ins,h.mts,h1.1,h1.2.1,h2.1,h2.2.1];by_cases c:d.1=8;rw[hd c];rw[zE c,zE c]
def PF{d:aF}(h:EnvA x y):ur d x=ur d y:=by unfold ur DU;rw[h.mem,h.mts]
def QP{d:aF}(h:EnvA x y)(hd:AH d x y):eL d args x=eL d args y:=by
 have h1:=h.tab d.2.toNat;have h2:=h.tab (d.2/8).toNat;have hl:=Cv (date:=x.1) (key:=(args[0]?.getD GD).2.2) (x.2.2.2.2.2[d.2.toNat]?.getD Fm).2.2.2;rw[h1.2.2,Cv]at hl;have hb:lR (F4 (d.2/8) x) x.1 (args[0]?.getD GD).2.2 (d.2%8)=lR (F4 (d.2/8) y) y.1 (args[0]?.getD GD).2.2 (d.2%8):=by rw[←h.date];exact KF h2
 unfold eL;rw[h.ins,h.mem,PF h,hb];by_cases c8:d.1=8;rw[hd c8,h.date,Cg c8,Cg c8];rw[zE c8,zE c8];by_cases c:d.1=33;rw[Cg c,Cg c];unfold F4;rw[←h.date,h1.2.1];by_cases q:(dF (gw x.1 (args[0]?.getD GD).2.2) (x.2.2.2.2.2[d.2.toNat]?.getD Fm).2.2.2 0).2=true;rw[Cg q]at hl;split at hl;rename_i q2;injection hl with hl;rw[q,q2,hl];cases hl;rw[zE q]at hl;split at hl;cases hl;rename_i q2;rw[Bool.not_eq_true]at q q2;rw[q,q2,Cg rfl,Cg rfl];rw[zE c,zE c,h.date]
def OA{d:aF}(h:EnvA x y)(hd:AH d x y):cO d args x=cO d args y:=by unfold cO;rw[Ko h hd,OC h hd,QP h hd]
def NT{e:List aF}{x y:cP}(h:EnvA x y)(hd:∀d∈e,AH d x y):∀(n:Nat) (i:Int),ze e x n i=ze e y n i
 | 0,i=>rfl
 | n+1,i=>by
  have ih:ze e x n=ze e y n:=funext (NT h hd n);have hg:AH (e[i.toNat]?.getD (0,0)) x y:=by
   cases q:e[i.toNat]? with
   | none=>intro c;cases c
   | some z=>exact hd z (nL q)
  rw[ze,ze,ih,OA h hg]
def IA(h:EnvA x y)(hd:∀d∈e,AH d x y):dM e x=dM e y:=by unfold dM;rw[NT h hd]
def gdV_al(h:EnvA x y)(hd:∀d∈e,AH d x y):Qm e x=Qm e y:=by unfold Qm;rw[IA h hd]
abbrev ixD(s:aL)(date d:Int):List Nat:=cI (fD d date) s.2.2.2.2 s.2.2.2.2.length
structure ScA(date:Int)(s t:aL):Prop where
 defs:s.2.2.2.1=t.2.2.2.1
 idx:∀d,ixD s date d=ixD t date d
 par:∀d,mO (fD d date) s.2.2.2.2 s.2.2.2.2.length=mO (fD d date) t.2.2.2.2 t.2.2.2.2.length
 pri:∀d,Ax (fD d date) s.2.2.2.2 s.2.2.2.2.length=Ax (fD d date) t.2.2.2.2 t.2.2.2.2.length
 gd:∀d,∀i∈ixD s date d,Yb s i=Yb t i∧DW s i=DW t i
def ScA.symm(h:ScA date s t):ScA date t s:=
 ⟨h.defs.symm,fun d=>(h.idx d).symm,fun d=>(h.par d).symm,fun d=>(h.pri d).symm,fun d i hi=>by have:=h.gd d i (by rw[h.idx];exact hi);exact⟨this.1.symm,this.2.symm⟩⟩
def Ra(s:aL)(d:Int)(x y:cP):Prop:=∀i∈ixD s x.1 d,(∀n∈Yb s i,AH n x y)∧∀n∈DW s i,AH n x y
def Nu{s t:aL}{x y:cP}:∀{l:List Nat},(∀i∈l,Qm (Yb s i) x=Qm (Yb t i) y)→qw s x l=qw t y l
 | [],_=>rfl
 | i::l,h=>by rw[qw,qw,h i Sp,Nu (fun j hj=>h j acQ)]
def apS_al{l:List Nat}(h:∀i∈l,Qm (Yb s i) x=Qm (Yb t i) y):AA s x l=AA t y l:=by unfold AA;exact Kp fun i hi=>by rw[h i hi]
def Pf(hs:ScA x.1 s t)(h:EnvA x y)(hd:Ra s d x y):jP s x d=jP t y d∧qw s x (ixD s x.1 d)=qw t y (ixD t y.1 d):=by
 have hg:∀i∈ixD s x.1 d,Qm (Yb s i) x=Qm (Yb t i) y:=fun i hi=>by rw[←(hs.gd d i hi).1];exact gdV_al h (hd i hi).1
 refine⟨?_,?_⟩;unfold jP;rw[←h.date,←hs.par d,←hs.pri d];rw[show AA s x (cI (fD d x.1) s.2.2.2.2 s.2.2.2.2.length)=AA t y (cI (fD d x.1) t.2.2.2.2 t.2.2.2.2.length)from(apS_al hg).trans (by rw[show ixD s x.1 d=ixD t x.1 d from hs.idx d])];rw[←h.date,←hs.idx d];exact Nu hg
def Pg(hs:ScA x.1 s t)(h:EnvA x y)(hd:Ra s d x y):ew s m x d=ew t m y d:=by obtain⟨h1,h2⟩:=Pf hs h hd;unfold ew;rw[show qw s x (cI (fD d x.1) s.2.2.2.2 s.2.2.2.2.length)=qw t y (cI (fD d y.1) t.2.2.2.2 t.2.2.2.2.length)from h2,h1];rw[show cI (fD d x.1) s.2.2.2.2 s.2.2.2.2.length=cI (fD d y.1) t.2.2.2.2 t.2.2.2.2.length by rw[←h.date];exact hs.idx d]
def yd(hs:ScA x.1 s t)(h:EnvA x y)(hd:Ra s d x y):d5 s m x d=d5 t m y d:=by
 have h1:=Pg (m:=m) hs h hd;unfold d5;rw[←h1];by_cases c1:(ew s m x d).2.1≠0;rw[Cg c1,Cg c1];rw[zE c1,zE c1];by_cases c2:(ew s m x d).1 = -1;rw[Cg c2,Cg c2];rw[zE c2,zE c2];by_cases c3:(ew s m x d).1 = -2;rw[Cg c3,Cg c3];rw[zE c3,zE c3];obtain⟨g0,g1⟩:=xc (by simpa using c1) c2 c3;have e:dM (DW s (ew s m x d).1.toNat) x=dM (DW t (ew s m x d).1.toNat) y:=by rw[←(hs.gd d _ g1).2];exact IA h (hd _ g1).2
 rw[e]
def Pe(h:(d5 s m x d).1.1=0):(d5 s m x d).1=(0,0,0,0):=by unfold d5 at h⊢;split at h;rename_i c;exact absurd h c;rename_i c1;rw[zE c1];split at h;cases h;rename_i c2;rw[zE c2];split at h;cases h;rename_i c3;rw[zE c3];split at h;rename_i c;exact absurd h c;rename_i c4;rw[zE c4]
abbrev xv(x:cP)(vs:List aN):cP:=(x.1,x.2.1,vs,x.2.2.2)
def ScA.refl(date:Int)(s:aL):ScA date s s:=⟨rfl,fun _=>rfl,fun _=>rfl,fun _=>rfl,fun _ _ _=>⟨rfl,rfl⟩⟩
def EnvA.xv(h:EnvA x y){vs ws:List aN}(hl:vs.length=ws.length):EnvA (xv x vs) (xv y ws):=⟨h.date,h.ins,hl,h.mem,h.mts,h.tbl,h.tab⟩
def EnvA.refl(x:cP):EnvA x x:=⟨rfl,rfl,rfl,rfl,rfl,rfl,fun k=>⟨rfl,rfl,rfl⟩⟩
def vI{s:aL}{m:Int}{x:cP}:∀{l:List Int} {vs:List aN} {rs:List Int} {V:List aN} {R:List Int},d9 s m x l vs rs=((0,0,0,0),V,R)→V.length=vs.length∧R.length=rs.length∧∀j:Nat,(∀d∈l,d.toNat≠j)→V[j]?=vs[j]?∧R[j]?=rs[j]?
 | [],vs,rs,V,R,h=>by
  rw[d9]at h
  injection h with _ h;injection h with ha hb;subst ha hb
  exact⟨Z,Z,fun _ _=>⟨Z,Z⟩⟩
 | d::l,vs,rs,V,R,h=>by
  rw[d9]at h
  split at h
  ·exact Xc
  obtain⟨h1,h2,h3⟩:=vI h
  refine⟨by rw[h1,QC],by rw[h2,QC],fun j hj=>?_⟩
  obtain⟨g1,g2⟩:=h3 j (fun e he=>hj e (f9 _ he))
  have:=hj d PT
  rw[g1,g2,Ot this,Ot this];exact⟨rfl,rfl⟩
def RZ(s:aL)(date d:Int)(D:Int→Prop):Prop:=∀i∈ixD s date d,∀n,n∈Yb s i∨n∈DW s i→n.1=8→0≤n.2∧D n.2
def GN(s:aL)(date:Int):(Int→Prop)→List Int→Prop
 | _,[]=>True
 | D,d::l=>RZ s date d D∧GN s date (fun e=>D e∨e=d) l
def RZ.dep(h:RZ s x.1 d D)(hD:∀e:Int,0≤e→D e→x.2.2.1[e.toNat]?=y.2.2.1[e.toNat]?):Ra s d x y:=fun i hi=>
 ⟨fun n hn h8=>by have:=h i hi n (.inl hn) h8;rw[hD _ this.1 this.2],fun n hn h8=>by have:=h i hi n (.inr hn) h8;rw[hD _ this.1 this.2]⟩
def NJ{s:aL}{m:Int}{x:cP}:∀(l:List Int) (D:Int→Prop) (vs:List aN) (rs:List Int) (V:List aN) (R:List Int),d9 s m x l vs rs=((0,0,0,0),V,R)→l.Nodup→(∀d∈l,0≤d∧d.toNat<vs.length∧d.toNat<rs.length)→(∀e,D e→0≤e∧e∉l)→GN s x.1 D l→
 ∀d∈l,d5 s m (xv x V) d=((0,0,0,0),R[d.toNat]?.getD 0,V[d.toNat]?.getD JZ)
 | [],D,vs,rs,V,R,h,hn,hr,hD,ht,d,hd=>by cases hd
 | a::l,D,vs,rs,V,R,h,hn,hr,hD,ht,d,hd=>by
  rw[d9]at h;split at h;exact Xc;rename_i c;obtain⟨ha,hn⟩:=FU.1 hn;obtain⟨g1,g2,g3⟩:=vI h;rw[QC]at g1 g2;obtain⟨r1,r2,r3⟩:=hr a PT;have hne:∀e:Int,0≤e→e∉l→∀d∈l,d.toNat≠e.toNat:=fun e h0 he d hd q=>by have:=(hr d (f9 _ hd)).1;exact he (by rw[show e=d by omega];exact hd)
  rcases L5.1 hd with rfl|hd;obtain⟨q1,q2⟩:=g3 d.toNat (hne d r1 ha);rw[pw r2]at q1;rw[pw r3]at q2;have e:d5 s m (xv x V) d=d5 s m (xv x vs) d:=yd (ScA.refl _ s) ((EnvA.refl x).xv g1) (RZ.dep ht.1 fun e h0 he=>by obtain⟨_,hm⟩:=hD e he;have q:=(g3 e.toNat (hne e h0 (fun q=>hm (f9 _ q)))).1;rw[Ot (fun q=>hm (by rw[show e=d by omega];exact PT))]at q;exact q)
  rw[e,q1,q2];have hz:=Pe (s:=s) (x:=xv x vs) (m:=m) (d:=d) Ff;rw[←hz];rfl;refine NJ l _ _ _ V R h hn (fun e he=>?_) (fun e he=>?_) ht.2 d hd;have:=hr e (f9 _ he);rw[QC,QC];exact this;rcases he with he|rfl;have:=hD e he;exact⟨this.1,fun q=>this.2 (f9 _ q)⟩;exact⟨r1,ha⟩
def oO{t:aL}{m:Int}{y:cP}{V:List aN}{R:List Int}:∀(l:List Int) (D:Int→Prop) (ws:List aN) (qs:List Int),(∀d∈l,d5 t m (xv y V) d=((0,0,0,0),R[d.toNat]?.getD 0,V[d.toNat]?.getD JZ))→ws.length=V.length→qs.length=R.length→(∀d∈l,0≤d∧d.toNat<V.length∧d.toNat<R.length)→
 (∀e:Int,D e→ws[e.toNat]?=V[e.toNat]?)→GN t y.1 D l→∃W Q,d9 t m y l ws qs=((0,0,0,0),W,Q)∧W.length=V.length∧Q.length=R.length∧∀j:Nat,((∃d∈l,d.toNat=j)∨(ws[j]?=V[j]?∧qs[j]?=R[j]?))→W[j]?=V[j]?∧Q[j]?=R[j]?
 | [],D,ws,qs,hf,h1,h2,hr,hD,ht=>⟨ws,qs,rfl,h1,h2,fun j hj=>by
  rcases hj with⟨d,hd,_⟩|hj
  ·cases hd
  exact hj⟩
 | d::l,D,ws,qs,hf,h1,h2,hr,hD,ht=>by
  obtain⟨r1,r2,r3⟩:=hr d PT
  have e:d5 t m (xv y ws) d=d5 t m (xv y V) d:=yd (ScA.refl _ t) ((EnvA.refl y).xv h1) (RZ.dep ht.1 fun e h0 he=>hD e he)
  rw[hf d PT]at e
  have e0:d5 t m (y.1,y.2.1,ws,y.2.2.2) d=((0,0,0,0),R[d.toNat]?.getD 0,V[d.toNat]?.getD JZ):=e
  rw[d9,e0,zE (fun q=>q rfl)]
  have k1:(ws.set d.toNat (V[d.toNat]?.getD JZ))[d.toNat]?=V[d.toNat]?:=by rw[pw zo,RY r2];rfl
  have k2:(qs.set d.toNat (R[d.toNat]?.getD 0))[d.toNat]?=R[d.toNat]?:=by rw[pw zo,RY r3];rfl
  obtain⟨W,Q,g1,g2,g3,g4⟩:=oO l (fun e=>D e∨e=d) (ws.set d.toNat (V[d.toNat]?.getD JZ)) (qs.set d.toNat (R[d.toNat]?.getD 0)) (fun a ha=>hf a (f9 _ ha)) (by rw[QC];exact h1) (by rw[QC];exact h2) (fun a ha=>hr a (f9 _ ha)) (fun a ha=>by
   rcases ha with ha|rfl
   ·by_cases c:d.toNat=a.toNat
    ·rw[←c];exact k1
    rw[Ot c];exact hD a ha
   exact k1) ht.2
  refine⟨W,Q,g1,g2,g3,fun j hj=>g4 j ?_⟩
  by_cases c:d.toNat=j
  ·subst c;exact .inr ⟨k1,k2⟩
  rcases hj with⟨a,ha,hj⟩|hj
  ·rcases L5.1 ha with rfl|ha
   ·exact absurd hj c
   exact .inl ⟨a,ha,hj⟩
  exact .inr (by rw[Ot c,Ot c];exact hj)
structure Dj(s:aL)(date:Int)(O:List Int):Prop where
 nd:O.Nodup
 rng:∀d∈O,0≤d∧d.toNat<s.2.2.2.1.length
 all:∀j:Nat,j<s.2.2.2.1.length→(j:Int)∈O
 topo:GN s date (fun _=>False) O
abbrev mP(s:aL):List Int:=(cT (scN s) (R5 s)).1
def Pk{V:List aN}{R:List Int}(hs:ScA x.1 s t)(h:EnvA x y)(h1:Dj s x.1 (mP s))(h2:Dj t y.1 (mP t))(hr:lv s m x=((0,0,0,0),V,R)):lv t m y=((0,0,0,0),V,R):=by
 have hl:s.2.2.2.1.length=t.2.2.2.1.length:=by rw[hs.defs]
 obtain⟨l1,l2,_⟩:=vI hr;rw[afv]at l1 l2;have hf:=NJ (mP s) (fun _=>False) _ _ V R hr h1.nd (fun d hd=>by rw[afv,afv];have:=h1.rng d hd;exact⟨this.1,this.2,this.2⟩) (fun e he=>he.elim) h1.topo;obtain⟨W,Q,g1,g2,g3,g4⟩:=oO (m:=m) (V:=V) (R:=R) (mP t) (fun _=>False) (List.replicate t.2.2.2.1.length JZ) (List.replicate t.2.2.2.1.length 0) (fun d hd=>by have hd':=h2.rng d hd;have hm:=h1.all d.toNat zo;rw[show((d.toNat:Nat):Int)=d by omega]at hm;rw[←hf d hm];exact(yd (x:=xv x V) (y:=xv y V) hs (h.xv Z) (fun i hi=>⟨fun n _ _=>Z,fun n _ _=>Z⟩)).symm) QE QE (fun d hd=>by have:=h2.rng d hd;omega) (fun e he=>he.elim) h2.topo
 unfold lv;refine g1.trans ?_;have key:∀j:Nat,W[j]?=V[j]?∧Q[j]?=R[j]?:=fun j=>by by_cases c:j<t.2.2.2.1.length;exact g4 j (.inl ⟨(j:Int),h2.all j c,So⟩);rw[jp zo,jp zo,jp zo,jp zo];exact⟨rfl,rfl⟩
 rw[Lv fun j=>(key j).1,Lv fun j=>(key j).2]
def prodz{γ:Type}(a:α×β×γ){z:α}(h:a.1=z):a=(z,a.2.1,a.2.2):=Mc
def runS_z(h0:(lv s m x).1.1=0):(lv s m x).1=(0,0,0,0):=by
 have key:∀(l:List Int) (vs:List aN) (rs:List Int),(d9 s m x l vs rs).1.1=0→(d9 s m x l vs rs).1=(0,0,0,0):=fun l=>by
  induction l with
  | nil=>intro vs rs _;rfl
  | cons d l ih=>intro vs rs hh;rw[d9]at hh⊢;split at hh;rename_i q;exact absurd hh q;rename_i q;rw[zE q];exact ih _ _ hh
 unfold lv at h0⊢;exact key _ _ _ h0
def Hn(hs:ScA x.1 s t)(h:EnvA x y)(h1:Dj s x.1 (mP s))(h2:Dj t y.1 (mP t))(hr:(lv s m x).1.1=0):lv t m y=lv s m x:=by have e:=prodz _ (runS_z hr);rw[e];exact Pk hs h h1 h2 e
def IC{d':Int}{i i' v v':List aN}{m m':List (List aN)}{q q':List ce}{t t':List bS}(h1:d=d')(h2:i=i')(h3:v.length=v'.length)(h4:m=m')(h5:q=q')(h6:t.length=t'.length)(h7:∀k:Nat,TbA d (t[k]?.getD Fm) (t'[k]?.getD Fm)):EnvA (d,i,v,m,q,t) (d',i',v',m',q',t'):=⟨h1,h2,h3,h4,h5,h6,h7⟩
def NU{ms mt:aL}{c:fo}{tb ub:List bS}(hs:ScA c.1 s t)(hm:ScA c.1 ms mt)(hT:tb.length=ub.length∧∀k:Nat,TbA c.1 (tb[k]?.getD Fm) (ub[k]?.getD Fm))(o1:Dj s c.1 (mP s))(o2:Dj t c.1 (mP t))(o3:Dj ms c.1 (mP ms))(o4:Dj mt c.1 (mP mt))
 (h:(DV s ms c tb).2.2.1=0):(DV t mt c ub).1=(DV s ms c tb).1∧(DV t mt c ub).2.2.1=0:=by
 have hx:∀k,EnvA (yF c tb k) (yF c ub k):=fun k=>by unfold yF;exact IC Z Z Z Z Z hT.1 hT.2
 have hk:∀k,(mq ms c tb k).1.1=0→mq mt c ub k=mq ms c tb k:=fun k h0=>by unfold mq at h0⊢;exact Hn hm (hx k) o3 o4 h0
 have hF:∀n,nP ms c tb n=none→nP mt c ub n=none∧∀k,k<n→mq mt c ub k=mq ms c tb k:=fun n=>by
  induction n with
  | zero=>intro _;exact⟨rfl,fun k hk=>So⟩
  | succ n ih=>
   intro hn;rw[nP]at hn;split at hn;cases hn;rename_i q;obtain⟨h1,h2⟩:=ih q;split at hn;cases hn;rename_i q2;have q2:(mq ms c tb n).1.1=0:=by simpa using q2
   have e:=hk n q2;refine⟨by rw[nP,h1];simp only;rw[e,zE (by rw[q2];decide)],fun k hkn=>?_⟩;by_cases e2:k=n;subst e2;exact e;exact h2 k zo
 unfold DV at h;cases hq:nP ms c tb c.2.2.length with
 | some e=>
  rw[hq]at h;simp only at h;exfalso;have:∀n e,nP ms c tb n=some e→e.1≠0:=fun n=>by
   induction n with
   | zero=>intro e h;cases h
   | succ n ih=>intro e hn;rw[nP]at hn;split at hn;rename_i e' q;injection hn with hn;subst hn;exact ih _ q;split at hn;rename_i q;injection hn with hn;subst hn;exact q;cases hn
  exact this _ _ hq h
 | none=>
  rw[hq]at h;simp only at h;obtain⟨f1,f2⟩:=hF _ hq;have eA:p6 mt c ub c.2.2.length=p6 ms c tb c.2.2.length:=by unfold p6;exact Kp fun i hi=>by rw[f2 i Dq]
  have eB:qL mt c ub c.2.2.length=qL ms c tb c.2.2.length:=by unfold qL;exact Kp fun i hi=>by rw[f2 i Dq]
  split at h;rename_i q;exact absurd h q;rename_i q;have q:(lM s ms c tb).1.1=0:=acI;have hh:EnvA (wX ms c tb) (wX mt c ub):=by unfold wX;exact IC Z Z Z eA.symm (by rw[hm.defs]) hT.1 hT.2
  have e3:lM t mt c ub=lM s ms c tb:=by unfold lM at q⊢;exact Hn hs hh o1 o2 q
  unfold DV;rw[f1,hq];simp only;rw[e3,zE (by rw[q];decide),zE (by rw[q];decide),eB];dsimp only;exact⟨Z,Z⟩
structure Fd(n:Nat)(dd:List (List Int))(f:Int→List Int):Prop where
 w:WFd n dd
 inr:∀x:Int,0≤x→x<n→f x=rw dd x
 off:∀x:Int,¬(0≤x∧x<n)→f x=[]
section
variable{n:Nat}{dd:List (List Int)}{f:Int→List Int}
def ui{l:List Int}(h:l.Pairwise (· < ·)):l.Nodup:=h.imp (by intro a b q;omega)
def ya{a b:List Int}(ha:a.Pairwise (· < ·))(hs:∀x∈a,x∈b):a.length≤b.length:=(ui ha).length_le_of_subset hs
def ET{x:Int}:∀{l:List Int},x∉l→(zf x l).length=l.length+1
 | [],_=>rfl
 | y::r,h=>by unfold zf;split;rfl;split;rename_i e;exact absurd (by simp[e]) h;simp only[NK];rw[ET (fun q=>h (by simp[q]))]
def yo(n:Nat)(dd:List (List Int)):∀(k i:Nat),(hi:i<(fL n dd k).length)→∀e∈rw dd (fL n dd k)[i],e∈(fL n dd k).take i:=by
 intro k;induction k with
 | zero=>intro i hi;simp[fL]at hi
 | succ k ih=>
  intro i hi e he;cases c:Sl n dd (fL n dd k)with
  | none=>
   have:fL n dd (k+1)=fL n dd k:=by rw[fL,c]
   simp only[this]at hi he⊢;exact ih i hi e he
  | some d=>
   have:fL n dd (k+1)=fL n dd k++[d]:=by rw[fL,c]
   simp only[this]at hi he⊢;simp at hi;by_cases x:i<(fL n dd k).length;rw[afz x]at he;rw[N3 zo];exact ih i x e he;have xe:i=(fL n dd k).length:=So;subst xe;rw[afA (Kl _)]at he;rw[N3 (Kl _),FR];simp at he;exact(nH.1 (yz.1 c).2.2.1).2 e he
def AC{l:List Int}{j:Nat}(h:i≤j){x:Int}(hx:x∈l.take i):x∈l.take j:=by
 have:l.take i=(l.take j).take i:=by rw[LV,Mh h]
 rw[this]at hx;exact JU hx
def FZ(n:Nat)(dd:List (List Int))(hi:i<(fL n dd k).length){t:Int}(hr:Rp dd (fL n dd k)[i] t):t∈(fL n dd k).take i:=by
 generalize hx:(fL n dd k)[i]=x at hr;induction hr with
 | one q=>rw[←hx]at q;exact yo n dd k i hi _ q
 | @step y z q1 q2 ih=>obtain⟨j,hj,e⟩:=Fe.1 ih;simp at hj e;rw[←e]at q2;exact AC zo (yo n dd k j zo _ q2)
def Me{l:List Int}(h:l.Nodup)(hi:i<l.length):l[i]∉l.take i:=by intro hm;obtain⟨j,hj,e⟩:=Fe.1 hm;simp at hj e;have:=(List.nodup_iff_pairwise_ne.1 h);exact Nb.1 this j i zo hi zo e
def JH(n:Nat)(dd:List (List Int)):∀k,(fL n dd k).length=k∨Sl n dd (fL n dd k)=none:=by
 intro k;induction k with
 | zero=>exact .inl rfl
 | succ k ih=>
  cases c:Sl n dd (fL n dd k)with
  | none=>
   have:fL n dd (k+1)=fL n dd k:=by rw[fL,c]
   rw[this];exact .inr c
  | some d=>
   have:fL n dd (k+1)=fL n dd k++[d]:=by rw[fL,c]
   rcases ih with g|g;left;rw[this];simp[g];rw[g]at c;cases c
def LA{x y:Int}(h1:Rp dd x y)(h2:Rp dd y z):Rp dd x z:=by
 induction h2 with
 | one q=>exact .step h1 q
 | step _ q ih=>exact .step ih q
def L1(h:Fd n dd f):(fL n dd n).length<n↔∃d:Int,0≤d∧d<n∧Rp dd d d:=by
 constructor
 ·intro hl
  apply Classical.byContradiction
  intro hno
  have hno:∀d:Int,0≤d→d<n→¬Rp dd d d:=fun d a b c=>hno ⟨d,a,b,c⟩
  have hN:Sl n dd (fL n dd n)=none:=by
   rcases JH n dd n with g|g
   ·omega
   exact g
  rw[El]at hN
  have key:∀(m:Nat) (x:Int),0≤x→x<n→x∉fL n dd n→(nG n dd x).length≤m→False:=by
   intro m
   induction m with
   | zero=>
    intro x h0 h1 hx hm
    have hr:=hN x h0 h1
    have:¬(∀e∈rw dd x,e∈fL n dd n):=fun q=>by
     have:=nH.2 ⟨hx,q⟩;rw[hr]at this;cases this
    simp only[Classical.not_forall]at this
    obtain⟨e,he,_⟩:=this
    have hmm:=(nF h.w).2 (.one he)
    have hml:=List.length_pos_of_mem hmm
    omega
   | succ m ih=>
    intro x h0 h1 hx hm
    have hr:=hN x h0 h1
    have:¬(∀e∈rw dd x,e∈fL n dd n):=fun q=>by
     have:=nH.2 ⟨hx,q⟩;rw[hr]at this;cases this
    simp only[Classical.not_forall]at this
    obtain⟨e,he,hen⟩:=this
    have her:=h.w.ent _ _ he
    refine ih e her.1 her.2 hen ?_
    have hne:e∉nG n dd e:=fun q=>hno e her.1 her.2 ((nF h.w).1 q)
    have h2:=ya (rx e _ (nmB n dd e)) (b:=nG n dd x) (fun z hz=>by
     rw[nF h.w]
     rcases(uL _ _ _).1 hz with q|q
     ·rw[q];exact .one he
     exact LA (.one he) ((nF h.w).1 q))
    have h3:=ET hne
    omega
  have:∃x:Int,0≤x∧x<n∧x∉fL n dd n:=by
   apply Classical.byContradiction
   intro hq
   have hall:∀x∈(List.range n).map (fun(k:Nat)=>(k:Int)),x∈fL n dd n:=fun x hx=>by
    obtain⟨a,b⟩:=mn.1 hx
    apply Classical.byContradiction
    intro c;exact hq ⟨x,a,b,c⟩
   have:=(ui (mS (pM n))).length_le_of_subset hall
   simp at this;omega
  obtain⟨x,a,b,c⟩:=this
  exact key _ x a b c (Kl _)
 rintro⟨d,h0,h1,hr⟩
 apply Classical.byContradiction
 intro hl
 have ho:=lX n dd n
 have hlen:(fL n dd n).length=n:=by have:=ho.len;omega
 have hd:d∈fL n dd n:=by
  apply Classical.byContradiction
  intro hq
  have h2:=(FU.2 ⟨hq,ho.nd⟩).length_le_of_subset (l₂:=(List.range n).map (fun(k:Nat)=>(k:Int))) (fun x hx=>mn.2 (by
   rcases L5.1 hx with e|e
   ·rw[e];exact⟨h0,h1⟩
   exact ho.rng x e))
  simp at h2;omega
 obtain⟨i,hi,e⟩:=Fe.1 hd
 rw[←e]at hr
 exact Me ho.nd hi (FZ n dd hi hr)
end
abbrev ruK(s:aL)(k:Nat):ba:=s.2.2.2.2[k]?.getD YB
def vo(h:nf s k sg=0):(∀x∈s.2.2.2.2.take k,¬x.1=(ruK s k).1)∧(0≤(ruK s k).2.1∧(ruK s k).2.1<(s.2.2.2.1.length:Int))∧((ruK s k).2.2.1 = -1∨(0≤(ruK s k).2.2.1∧(ruK s k).2.2.1<(k:Int)))∧(0≤(ruK s k).2.2.2.2.1.1∧(ruK s k).2.2.2.2.1.1<(ruK s k).2.2.2.2.1.2∧(ruK s k).2.2.2.2.1.2≤109573):=by unfold nf at h;split at h;cases h;split at h;cases h;rename_i c2;split at h;cases h;rename_i c3;split at h;cases h;rename_i c4;split at h;cases h;split at h;cases h;rename_i c6;refine⟨fun x hx e=>c2 (Oo.2 ⟨x,hx,Lm⟩),by constructor<;>(simp only[ruK];omega),?_,by refine⟨?_,?_,?_⟩<;>(simp only[ruK];omega)⟩;simp only[ruK];by_cases q:(s.2.2.2.2[k]?.getD YB).2.2.1 = -1;exact .inl q;refine .inr ⟨?_,?_⟩;apply Int.not_lt.1;intro z;exact c4 ⟨q,.inl z⟩;apply Int.not_le.1;intro z;exact c4 ⟨q,.inr (.inl z)⟩
def Ae(h:(kG l i s).1=0):(∀x∈l.2.2.take i,¬x.1=s.1)∧(s.2.1 = -1∨(0≤s.2.1∧s.2.1<(i:Int)∧(l.2.2[s.2.1.toNat]?.getD DJ).2.1 = -1))∧s.2.2.2.1.length≤12∧(∀j,j<s.2.2.2.2.length→nf s j (tz l s)=0)∧∀j,j<s.2.2.2.1.length→((j:Int))∉As s (j:Int):=by unfold kG at h;split at h;exact MD;split at h;exact MD;rename_i c2;split at h;exact MD;rename_i c3;split at h;exact MD;split at h;exact MD;rename_i c5;split at h;rename_i j hj;exact absurd h (mD hj);split at h;rename_i j hj;exact absurd h (mD hj);split at h;rename_i j hj;exact absurd h (mD hj);rename_i h3;split at h;exact O8;rename_i h4;refine⟨fun x hx e=>c2 ?_,?_,So,fun j hj=>by have:=oH h3 j hj;simpa using this,fun j hj hm=>?_⟩;rw[JO];exact .inr (Oo.2 ⟨x,hx,Lm⟩);by_cases q:s.2.1 = -1;exact .inl q;refine .inr ⟨?_,?_,?_⟩;apply Int.not_lt.1;intro z;exact c3 ⟨q,.inl z⟩;apply Int.not_le.1;intro z;exact c3 ⟨q,.inr (.inl z)⟩;exact Classical.byContradiction fun z=>c3 ⟨q,.inr (.inr z)⟩;have:=oH h4 j hj;rw[afq]at this;exact this _ hm Sp
def BX(h:(eU l).1=0):∀i,(hi:i<l.2.2.length)→(kG l i l.2.2[i]).1=0:=by unfold eU at h;split at h;rename_i c;rw[h]at c;cases c;split at h;rename_i c;rw[h]at c;cases c;exact IR h
def C9{t:ce}(h:tY e sg t=0):(fF e sg).2.2=0∧(fF e sg).1=t:=by unfold tY at h;split at h;rename_i q;rw[h]at q;cases q;rename_i q;split at h;cases h;rename_i q2;exact⟨acI,by simpa using q2⟩
def LK(h:(fF e sg).2.2=0){d:aF}(hd:d∈e)(h8:d.1=8):0≤d.2∧d.2<(sg.2.2.2.1.length:Int):=by obtain⟨ty,h0,hT,ety⟩:=Rb h;obtain⟨i,hi,rfl⟩:=LW hd;obtain⟨_,_,_,hnt,hval⟩:=hT i hi;unfold cn at hnt;rw[zE zo,zE zo,zE zo,Cg h8]at hnt;obtain⟨q1,q2,_⟩:=sa hnt;exact⟨q1,q2⟩
def fdS(s:aL):Fd (scN s) (R5 s) (pF s):=⟨xP s,fun x h0 h1=>(xQ s h0 h1).symm,fun x h=>aeE (by
 cases q:Ql (scN s) x with
 | false=>rfl
 | true=>exfalso;simp[Ql]at q;exact h ⟨So,So⟩)⟩
def QI(hi:i<s.2.2.2.2.length)(hd:s.2.2.2.2[i].2.1=d)(h0:0≤d∧d<(s.2.2.2.1.length:Int)){n:aF}(hn:n∈s.2.2.2.2[i].2.2.2.2.2.1∨n∈s.2.2.2.2[i].2.2.2.2.2.2.1)(h8:n.1=8)(hr:0≤n.2∧n.2<(s.2.2.2.1.length:Int)):n.2∈pF s d:=by
 rw[IK (Gi h0.1 h0.2),(kP _).2];unfold gf;refine List.mem_flatMap.2 ⟨s.2.2.2.2[i],Sq.2 ⟨aA hi,PX⟩,?_⟩;unfold QV;have key:∀e:List aF,n∈e→n.2∈(dX (Sa fH e)).filter (Ql (scN s)):=fun e he=>by refine Sq.2 ⟨((kP _).2 _).2 ?_,Gi hr.1 hr.2⟩;unfold Sa;exact Nr.2 ⟨n,Sq.2 ⟨he,by simp[fH,h8]⟩,rfl⟩
 rcases hn with hn|hn;exact Nx.2 (.inl (key _ hn));exact Nx.2 (.inr (key _ hn))
structure VSc(l:bZ)(s:aL):Prop where
 rul:∀j,j<s.2.2.2.2.length→nf s j (tz l s)=0
 own:∀j,j<s.2.2.2.1.length→((j:Int))∉As s (j:Int)
def RZ.mono{E:Int→Prop}(h:RZ s date d D)(hDE:∀e,D e→E e):RZ s date d E:=fun i hi n hn h8=>⟨(h i hi n hn h8).1,hDE _ (h i hi n hn h8).2⟩
def B0{s:aL}{date:Int}:∀(l:List Int) (D:Int→Prop),(∀i,(hi:i<l.length)→RZ s date l[i] (fun e=>D e∨e∈l.take i))→GN s date D l
 | [],D,h=>trivial
 | d::l,D,h=>⟨(h 0 Sp).mono (fun e he=>by rcases he with he|he;exact he;cases he),B0 l _ (fun i hi=>(h (i+1) QE).mono (fun e he=>by rcases he with he|he;exact .inl (.inl he);rw[List.take_succ_cons]at he;rcases L5.1 he with rfl|he;exact .inl (.inr Z);exact .inr he))⟩
def Ce(h:VSc l s)(hi:i<s.2.2.2.2.length):(¬(Yb s i).length=0→(fF (Yb s i) (tz l s)).2.2=0)∧(fF (DW s i) (tz l s)).2.2=0∧(fF (DW s i) (tz l s)).1=(s.2.2.2.1[(ruK s i).2.1.toNat]?.getD PV).2:=
 ⟨fun hg=>(C9 (GC (h.rul i hi) (Nat.pos_of_ne_zero hg))).1,(C9 (xK (h.rul i hi))).1,(C9 (xK (h.rul i hi))).2⟩
def rd_rg(h:VSc l s)(hi:i<s.2.2.2.2.length){n:aF}(hn:n∈Yb s i∨n∈DW s i)(h8:n.1=8):0≤n.2∧n.2<(s.2.2.2.1.length:Int):=by
 have e:(tz l s).2.2.2.1.length=s.2.2.2.1.length:=by simp[tz,rz]
 rw[←e];obtain⟨t1,t2,_⟩:=Ce h hi;rcases hn with hn|hn;exact LK (t1 (fun q=>by have:=List.length_pos_of_mem hn;omega)) hn h8;exact LK t2 hn h8
def M2(h:i∈ixD s date d):∃hi:i<s.2.2.2.2.length,s.2.2.2.2[i].2.1=d:=by have hi:=jG h;have h2:=(n6.1 h).2;rw[nX hi]at h2;refine⟨hi,?_⟩;unfold fD at h2;rw[YC]at h2;exact MW h2.1
def Ec(h:VSc l s):mP s=fL (scN s) (R5 s) (scN s)∧(mP s).length=s.2.2.2.1.length:=by
 have h1:¬(fL (scN s) (R5 s) (scN s)).length<scN s:=fun q=>by obtain⟨d,h0,h1,h2⟩:=(L1 (fdS s)).1 q;refine h.own d.toNat (show d.toNat<scN s by omega) ?_;rw[show((d.toNat:Nat):Int)=d by omega];unfold As;rw[Cg (Gi h0 h1),nF (xP s)];exact h2
 have h2:=(lX (scN s) (R5 s) (scN s)).len;have e:mP s=fL (scN s) (R5 s) (scN s):=by show(cT (scN s) (R5 s)).1=_;unfold cT;rw[zE h1]
 refine⟨e,?_⟩;rw[e];show _=scN s;omega
def Co(h:VSc l s)(date:Int)(hi:i<(mP s).length):RZ s date (mP s)[i] (fun e=>e∈(mP s).take i):=by obtain⟨e,_⟩:=Ec h;have hr:=(lX (scN s) (R5 s) (scN s)).rng;have hp:=yo (scN s) (R5 s) (scN s);rw[←e]at hr hp;intro k hk n hn h8;obtain⟨hk1,hk2⟩:=M2 hk;have hrg:=rd_rg h hk1 hn h8;refine⟨hrg.1,hp i hi _ ?_⟩;have hd:=hr _ (aA hi);rw[xQ s hd.1 hd.2];exact QI hk1 hk2 hd (by rw[pP hk1,pO hk1]at hn;exact hn) h8 hrg
def pg(h:VSc l s)(date:Int):Dj s date (mP s):=by
 obtain⟨e,hl⟩:=Ec h;have ho:=lX (scN s) (R5 s) (scN s);rw[←e]at ho;refine⟨ho.nd,fun d hd=>by have:=ho.rng d hd;exact⟨this.1,show d.toNat<scN s by omega⟩,fun j hj=>?_,B0 _ _ (fun i hi=>(Co h date hi).mono (fun e he=>.inr he))⟩;refine Classical.byContradiction fun c=>?_;have hn:((j:Int)::mP s).Nodup:=FU.2 ⟨c,ho.nd⟩;have hs:∀x∈(j:Int)::mP s,x∈(List.range s.2.2.2.1.length).map (fun(k:Nat)=>(k:Int)):=fun x hx=>by rcases L5.1 hx with rfl|hx;exact Nr.2 ⟨j,JP,rfl⟩;have h3:=ho.rng x hx;exact Nr.2 ⟨x.toNat,by simp;exact(show x.toNat<scN s by omega),So⟩
 have:=hn.length_le_of_subset hs;simp at this;omega
structure EnvV(l:bZ)(s:aL)(x:cP):Prop where
 ins:∀k:Nat,k<(rz s.2.2.1).length→kc (x.2.1[k]?.getD GD) (rf (rz s.2.2.1) k)
 tabs:x.2.2.2.2.2=l.2.1
 mts:x.2.2.2.2.1=Cr l s
def EnvV.xv(h:EnvV l s x)(vs:List aN):EnvV l s (xv x vs):=⟨h.ins,h.tabs,h.mts⟩
def TyR(s:aL)(d:Int)(x:cP):Prop:=∀i∈ixD s x.1 d,∀n,n∈Yb s i∨n∈DW s i→n.1=8→kc (x.2.2.1[n.2.toNat]?.getD GD) (rf (rz s.2.2.2.1) n.2)
def num_ru(hN:Dk s)(hi:i<s.2.2.2.2.length):fl (Yb s i)∧fl (DW s i):=by rw[pP hi,pO hi];exact hN _ (aA hi)
def RQ(hv:VSc l s)(hN:Dk s)(he:EnvV l s x)(hd:TyR s d x)(hi:i∈ixD s x.1 d):
 (¬(Yb s i).length=0→f7 (OV (Yb s i)) x (vJ (Yb s i) x) 0 [])∧f7 (OV (DW s i)) x (vJ (DW s i) x) 0 []∧((dM (DW s i) x).2=0→kc (dM (DW s i) x).1 (s.2.2.2.1[d.toNat]?.getD PV).2):=by
 obtain⟨hl,hdf⟩:=M2 hi;obtain⟨t1,t2,t3⟩:=Ce hv hl;obtain⟨n1,n2⟩:=num_ru hN hl;have et:∀e:List aF,(∀n∈e,n∈Yb s i∨n∈DW s i)→OM e x (tz l s):=fun e h=>⟨he.ins,fun k hk h8=>hd i hi _ (h _ (aA hk)) h8,he.tabs,he.mts⟩;have e1:(ruK s i).2.1=d:=by unfold ruK;rw[RY hl];exact hdf
 have k2:=RS t2 n2 (et _ (fun n hn=>.inr hn));refine⟨fun hg=>(RS (t1 hg) n1 (et _ (fun n hn=>.inl hn))).1,k2.1,fun h0=>?_⟩;have:=(k2.2 h0).1;rw[t3,e1]at this;exact this
def nthT_f(h:0≤d∧d<(s.2.2.2.1.length:Int)):rf (rz s.2.2.2.1) d=(s.2.2.2.1[d.toNat]?.getD PV).2:=by have hl:d.toNat<s.2.2.2.1.length:=So;unfold rf rz;rw[cr,RY hl];rfl
def Lj(hv:VSc l s)(hN:Dk s)(he:EnvV l s x)(hd:TyR s d x)(h0:(d5 s m x d).1.1=0):kc (d5 s m x d).2.2 (s.2.2.2.1[d.toNat]?.getD PV).2:=by unfold d5 at h0⊢;split at h0;rename_i c;exact absurd h0 c;rename_i c1;rw[zE c1];split at h0;cases h0;rename_i c2;rw[zE c2];split at h0;cases h0;rename_i c3;rw[zE c3];split at h0;rename_i c;exact absurd h0 c;rename_i c4;rw[zE c4];obtain⟨g0,g1⟩:=xc (by simpa using c1) c2 c3;exact(RQ hv hN he hd g1).2.2 (by simpa using c4)
def AM{l:bZ}{s:aL}{m:Int}{x:cP}(hv:VSc l s)(hN:Dk s)(he:EnvV l s x):∀(O:List Int) (D:Int→Prop) (vs:List aN) (rs:List Int) (V:List aN) (R:List Int),d9 s m x O vs rs=((0,0,0,0),V,R)→O.Nodup→vs.length=s.2.2.2.1.length→(∀d∈O,0≤d∧d<(s.2.2.2.1.length:Int))→(∀e,D e→0≤e∧e∉O∧kc (vs[e.toNat]?.getD GD) (rf (rz s.2.2.2.1) e))→GN s x.1 D O→
 ∀e,D e∨e∈O→kc (V[e.toNat]?.getD GD) (rf (rz s.2.2.2.1) e)
 | [],D,vs,rs,V,R,h,hn,hl,hr,hD,ht,e,hm=>by
  rw[d9]at h
  injection h with _ h;injection h with ha hb;subst ha hb
  rcases hm with hm|hm
  ·exact(hD e hm).2.2
  cases hm
 | d::O,D,vs,rs,V,R,h,hn,hl,hr,hD,ht,e,hm=>by
  rw[d9]at h
  split at h
  ·exact Xc
  rename_i c
  obtain⟨ha,hn⟩:=FU.1 hn
  have r:=hr d PT
  have hty:=Lj (x:=xv x vs) hv hN (he.xv vs) (fun i hi n hn h8=>by
   have:=ht.1 i hi n hn h8
   exact(hD _ this.2).2.2) Ff
  refine AM hv hN he O (fun e=>D e∨e=d) _ _ V R h hn (by rw[QC];exact hl) (fun a ha=>hr a (f9 _ ha)) (fun a q=>?_) ht.2 e (by
   rcases hm with hm|hm
   ·exact .inl (.inl hm)
   rcases L5.1 hm with rfl|hm
   ·exact .inl (.inr Z)
   exact .inr hm)
  have hset:kc ((vs.set d.toNat (d5 s m (xv x vs) d).2.2)[d.toNat]?.getD GD) (rf (rz s.2.2.2.1) d):=by
   rw[pw zo,nthT_f r];exact hty
  rcases q with q|rfl
  ·obtain⟨q1,q2,q3⟩:=hD a q
   refine⟨q1,fun z=>q2 (f9 _ z),?_⟩
   show kc ((vs.set d.toNat (d5 s m (xv x vs) d).2.2)[a.toNat]?.getD GD) _
   rw[Ot (fun z=>q2 (by rw[show a=d by omega];exact PT))]
   exact q3
  exact⟨r.1,ha,hset⟩
def NS(hv:VSc l s)(hN:Dk s)(he:EnvV l s x):Qr s m x:=by
 intro k hk vs rs hl h;have ho:=pg hv x.1;have hk':k<(mP s).length:=hk;have ht:GN s x.1 (fun _=>False) ((mP s).take k):=B0 _ _ (fun i hi=>by
  have hi':i<k∧i<(mP s).length:=by rw[KC]at hi;omega
  rw[List.getElem_take];refine(Co hv x.1 hi'.2).mono (fun e he=>.inr ?_);rw[LV,Mh zo];exact he)
 have hrg:∀d∈(mP s).take k,0≤d∧d<(s.2.2.2.1.length:Int):=fun d hd=>by have:=ho.rng d (JU hd);omega
 have hty:=AM hv hN he ((mP s).take k) (fun _=>False) _ _ vs rs h (ho.nd.sublist (List.take_sublist _ _)) Sp hrg (fun e q=>q.elim) ht;have hR:TyR s (mP s)[k] (xv x vs):=fun i hi n hn h8=>hty _ (.inr (Co hv x.1 hk' i hi n hn h8).2);intro i hi;obtain⟨c1,c2,_⟩:=RQ hv hN (he.xv vs) hR hi;obtain⟨hil,_⟩:=M2 hi;refine⟨c1,fun q=>?_,c2⟩;have:=(ep (im (Ce hv hil).2.1)).2.1;omega
def tinyR(e:List aF):ba:=([98,97,115,101],0,-1,0,(0,109573),[],e,[])
def tinyS(e:List aF):aL:=([104,111,117,115,101],-1,[([97],3,0)],[([100],3,0)],[tinyR e])
def x8(e:List aF):bZ:=([],[],[tinyS e])
def O7(e:List aF):Ct prog 65 [.tv (ag aZ) e] (.tv bl (x8 e)):=by refine Yk func65 ntmps65 fun w0 ok0=>?_;refine Y7 ?_;refine zJ (aC Kj Z Cn (.cons (rt':=(ay .i64)) Z ip (.raw (.b Z) Z) (.cons (rt':=(ay .i64)) Z gN (.raw (.b Z) Z) .nil))) (Y6 ?_);refine zJ (aC JI Z gu (.cons (rt':=(ay .i64)) Z cv (.raw (.b Z) Z) .nil)) (Y8 ?_);refine zJ (aC kN Z LU (.cons (rt':=du) Z ie (.raw (.b Z) Z) (.cons (rt':=(ay .i64)) Z ic (.raw (.b Z) Z) (.cons (rt':=cL) Z iP (.tv (.b Z)) (.cons (rt':=(ag aZ)) Z iN (.tv (.b Z)) .nil))))) (Y7 ?_);refine zJ (aC Qt Z pl92 (.cons (rt':=du) Z qk (.raw (.b Z) Z) (.cons (rt':=bt) Z qj (.tv (.b Z)) .nil))) (zJ (bP (rt:=dm) gp jM Qt Z (.cons (.tv (.b Z)) .nil) Z Z) (zL aQ Z Z Z (Lens.id _) (zJ (aC Qt Z pl92 (.cons (rt':=du) Z qk (.raw (.b Z) Z) (.cons (rt':=bt) Z qj (.tv (.b Z)) .nil))) (zJ (bP (rt:=dm) gp jM Qt Z (.cons (.tv (.b Z)) .nil) Z Z) (zL dh Z Z Z (Lens.id _) (zJ (bP (rt:=ct) fy dh kN Z (.cons (.tv (.b Z)) .nil) Z Z) (zJ (aC KB Z pl81 (.cons (rt':=du) Z kE (.raw (.b Z) Z) (.cons (rt':=(ay .i64)) Z lJ (.raw (.b Z) Z) (.cons (rt':=(ag dm)) Z kD (.tv (.b Z)) (.cons (rt':=(ag dm)) Z eX (.tv (.b Z)) (.cons (rt':=(ag ct)) Z eN (.tv (.b Z)) .nil)))))) (zJ (bP (rt:=bw) ga dO KB Z (.cons (.tv (.b Z)) .nil) Z Z) ?_))))))));refine zJ (aC Ol Z tC (.cons (rt':=(ag bw)) Z eI (.tv (.b Z)) .nil)) (Y4 ?_);exact cQ results65 (aq dj Z Z Z (Lens.id bl)) Z Z
def Ni:Ct prog 21 [] (.tv bl (x8 [(7,0)])):=by refine Yk func21 ntmps21 fun w0 ok0=>?_;refine Y7 ?_;refine zJ (aC eP Z kW (.cons (rt':=(ay .i64)) Z bM (.raw (.b Z) Z) .nil)) (zJ (bP (rt:=aZ) cU bE eP Z (.cons (.tv (.b Z)) .nil) Z Z) (YK (O7 _) ?_));refine Y4 ?_;exact cQ results21 (aq dj Z Z Z (Lens.id bl)) Z Z
def PH(d:Int):List ba:=[([98,97,115,101],0,-1,0,(0,d),[],[(7,0)],[])]
def rd(d:Int):aL:=([104,111,117,115,101],-1,[([97],3,0)],[([100],3,0)],PH d)
def oR(d:Int):bZ:=([],[],[rd d])
def amA:bJ:=(2,100,[104,111,117,115,101],[98,97,115,101],[],[],0,[],[],[],[],((0,0),0,0,0))
def Lr(x:Int):rw [[]] x=[]:=by
 unfold rw;cases x.toNat with
 | zero=>rfl
 | succ n=>cases n<;>rfl
def no_rp(x e:Int):¬Rp [[]] x e:=fun h=>by
 cases h with
 | one h=>rw[Lr]at h;cases h
 | step _ h=>rw[Lr]at h;cases h
def trn_no(h0:scN s=1)(h:pF s 0=[]):As s=fun _=>[]:=by
 have hd:R5 s=[[]]:=by unfold R5;rw[h0];show[pF s ((0:Nat):Int)]=_;rw[show((0:Nat):Int)=0 from rfl,h]
 funext d;unfold As;split;unfold nG;rw[hd,List.filter_eq_nil_iff.2 (fun k _=>by simpa using no_rp d _)];rfl;rfl
def QK(d:Int):pF (rd d) 0=[]:=by have:pF (rd d) 0=pF (rd 0) 0:=rfl;rw[this];unfold pF gf QV;simp only[acm];decide +kernel
def IP:kG (oR 109573) 0 (rd 109573)=(0,0)∧kG (oR 100) 0 (rd 100)=(0,0):=by constructor<;>(unfold kG;rw[trn_no rfl (QK _)];decide +kernel)
def GV(h:kG (oR d) 0 (rd d)=(0,0)):eU (oR d)=(0,0,0,0):=by unfold eU;rw[zE (show ¬((wR (oR d).1).1 != 0)=true from(show ¬((wR []).1 != 0)=true by decide +kernel)),zE (show ¬((lq (oR d)).1 != 0)=true from(show ¬((lq (oR 0)).1 != 0)=true by decide +kernel))];unfold wQ;rw[zE (show ¬4<(oR d).2.2.length from(show ¬4<1 by decide)),mU (fun j hj=>?_)];have hj:j<1:=hj;obtain rfl:j=0:=So;show((kG (oR d) 0 (rd d)).1 != 0)=false;rw[h];rfl
def xS(d:Int):FX (oR d)∧vy (oR d)∧GO (oR d):=by
 have hs:∀s∈(oR d).2.2,s=rd d:=fun s hs=>by simpa[oR]using hs
 have hr:∀r∈(rd d).2.2.2.2,r=([98,97,115,101],0,-1,0,(0,d),[],[(7,0)],[]):=fun r hr=>by simpa[rd,PH]using hr
 refine⟨⟨by simp[oR],fun e he=>(by cases he),fun t ht=>(by cases ht),fun s h=>?_⟩,⟨fun t ht=>(by cases ht),fun s h=>?_⟩,⟨by simp[oR],fun e he=>(by cases he)⟩,⟨by simp[oR],fun e he=>(by cases he)⟩,by simp[oR],fun s h=>?_⟩;rw[hs s h];refine⟨by simp[rd,PH],fun f hf=>?_,fun f hf=>?_,fun r h=>?_⟩;obtain rfl:f=([97],3,0):=by simpa[rd]using hf
 unfold WfF;decide;obtain rfl:f=([100],3,0):=by simpa[rd]using hf
 unfold WfF;decide;rw[hr r h];unfold WfR;exact⟨Sp,Sp⟩;rw[hs s h];intro r h;rw[hr r h];refine⟨fun q hq=>(by cases hq),fun q hq=>?_⟩;obtain rfl:q=(7,0):=by simpa using hq
 decide;rw[hs s h];refine⟨by simp[rd],by simp[rd],by simp[rd,PH],fun r h=>?_⟩;rw[hr r h];exact⟨Sp,Sp⟩
def yc:jh (x8 [(7,0)]) amA=(0,oR 100):=f8
def Q3:ApQ (x8 [(7,0)]) amA:=⟨⟨(xS 109573).1,(xS 109573).2.1⟩,fun _=>⟨(xS 109573).2.2,cy,by rw[yc];exact(xS 100).1,by rw[yc];exact(xS 100).2.1⟩⟩
def ap_one:apR (x8 [(7,0)]) amA=(oR 100,0):=by have h1:eU (x8 [(7,0)])=(0,0,0,0):=GV IP.1;have h2:eU (oR 100)=(0,0,0,0):=GV IP.2;unfold apR;rw[h1,zE cy];unfold avR;rw[zE cy,zE cy,yc];dsimp only;rw[zE cy,h2,zE cy]
def sy:Ct prog 12 [] (.raw (.bool true)):=by refine Yk func12 ntmps12 fun w0 ok0=>?_;refine Y7 ?_;refine YK Ni ?_;refine zJ (aC z67 Z pl67 (.cons (rt':=(ay .i64)) Z vT (.raw (.b Z) Z) (.cons (rt':=(ay .i64)) Z nS (.raw (.b Z) Z) (.cons (rt':=du) Z CB (.raw (.b Z) Z) (.cons (rt':=du) Z yV (.raw (.b Z) Z) .nil))))) (YK (OB (x8 [(7,0)]) amA Q3) ?_);refine Y9 ?_;rw[ap_one];refine zb ?_;refine zG rfl rfl (fun hg=>av ga dO (.gd rfl hg) (.b rfl) rfl (getD_some (z:=(([],(0,([],([],[])))):aL)) YS)) (Y8 ?_);refine zG rfl rfl (fun hg=>av ga dO (.gd rfl hg) (.b rfl) rfl (getD_some (z:=(([],(0,([],([],[])))):aL)) YS)) (Y2 ?_);refine zG rfl rfl (fun hg=>av fy dh (.gd rfl hg) (.b rfl) rfl (getD_some (z:=(([],(0,(0,(0,((0,0),([],([],[]))))))):ba)) YS)) (Y2 ?_);refine zG Z Z (fun hg=>aC Kj Z Cn (.cons (rt':=(ay .i64)) Z ip (.raw (.b Z) Z) (.cons (rt':=(ay .i64)) Z gN (.raw (.b Z) Z) .nil))) (zG Z Z (fun hg=>iM eq63 Z Z eg63 (.tv (.gd Z hg)) (.tv (.gd Z hg))) (Y5 ?_));exact z1 results12 Z Z
def ScA.trans{u:aL}(h:ScA date s t)(g:ScA date t u):ScA date s u:=
 ⟨h.defs.trans g.defs,fun d=>(h.idx d).trans (g.idx d),fun d=>(h.par d).trans (g.par d),fun d=>(h.pri d).trans (g.pri d),fun d i hi=>by have h1:=h.gd d i hi;have h2:=g.gd d i (by rw[←h.idx];exact hi);exact⟨h1.1.trans h2.1,h1.2.trans h2.2⟩⟩
def TbA.trans{s t u:bS}(h:TbA date s t)(g:TbA date t u):TbA date s u:=⟨h.1.trans g.1,h.2.1.trans g.2.1,h.2.2.trans g.2.2⟩
def TbA.refl(date:Int)(t:bS):TbA date t t:=⟨rfl,rfl,rfl⟩
structure RlA(date:Int)(r q:ba):Prop where
 df:r.2.1=q.2.1
 pa:r.2.2.1=q.2.2.1
 pr:r.2.2.2.1=q.2.2.2.1
 va:fm r.2.2.2.2.1 date=fm q.2.2.2.2.1 date
 gd:r.2.2.2.2.2.1=q.2.2.2.2.2.1
 vl:r.2.2.2.2.2.2.1=q.2.2.2.2.2.2.1
structure RuA(date:Int)(rs qs:List ba):Prop where
 len:rs.length≤qs.length
 at_:∀i,(h:i<rs.length)→RlA date rs[i] (qs[i]'(F2 h len))
 new:∀i,rs.length≤i→(h:i<qs.length)→fm qs[i].2.2.2.2.1 date=false
section
variable{qs:List ba}
def RuA.keep(h:RuA date rs qs)(d:Int)(i:Nat):fa (fD d date) rs i=fa (fD d date) qs i:=by
 by_cases c:i<rs.length;have:=h.at_ i c;rw[nX c,nX (F2 c h.len)];unfold fD;rw[this.df,this.va];have e:fa (fD d date) rs i=false:=by unfold fa;rw[jp zo]
 rw[e];by_cases c2:i<qs.length;rw[nX c2];unfold fD;rw[h.new i zo c2,Bool.and_false];unfold fa;rw[jp zo]
def RuA.idxs_k(h:RuA date rs qs)(d:Int)(k:Nat):cI (fD d date) rs k=cI (fD d date) qs k:=by unfold cI;congr 1;exact funext (h.keep d)
def Bx{f:ba→Bool}{l:List ba}:∀{k:Nat},l.length≤k→cI f l k=cI f l l.length
 | 0,h=>by
  have:l.length=0:=So
  rw[this]
 | k+1,h=>by
  by_cases c:l.length=k+1
  ·rw[c]
  rw[pt,zE (fun q=>by have:=Bp q;omega),Nk];exact Bx zo
def RuA.ix(h:RuA date rs qs)(d:Int):cI (fD d date) rs rs.length=cI (fD d date) qs qs.length:=by rw[←Bx h.len,h.idxs_k d]
def RuA.near(h:RuA date rs qs)(d:Int):∀k,k≤rs.length→kZ (fD d date) rs k=kZ (fD d date) qs k
 | 0,_=>rfl
 | k+1,hk=>by
  have c:k<rs.length:=So;have e:Bd rs k=Bd qs k:=by rw[pf c,pf (F2 c h.len),(h.at_ k c).pa]
  rw[kZ,kZ,h.keep d k,h.idxs_k d k,h.near d k zo,e]
def RuA.sc(h:RuA date s.2.2.2.2 t.2.2.2.2)(hd:s.2.2.2.1=t.2.2.2.1):ScA date s t:=by have key:∀d,∀i∈cI (fD d date) s.2.2.2.2 s.2.2.2.2.length,∃c:i<s.2.2.2.2.length,RlA date s.2.2.2.2[i] (t.2.2.2.2[i]'(F2 c h.len)):=fun d i hi=>⟨jG hi,h.at_ i _⟩;refine⟨hd,fun d=>h.ix d,fun d=>?_,fun d=>?_,fun d i hi=>?_⟩;unfold mO;rw[←h.ix d];refine Kp fun i hi=>?_;obtain⟨c,hr⟩:=key d i hi;unfold O1;rw[h.near d i zo,pf c,pf (F2 c h.len),hr.pa];unfold Ax;rw[←h.ix d];refine Kp fun i hi=>?_;obtain⟨c,hr⟩:=key d i hi;rw[RY c,RY (F2 c h.len)];exact hr.pr;obtain⟨c,hr⟩:=key d i hi;rw[pP c,pO c,pP (F2 c h.len),pO (F2 c h.len)];exact⟨hr.gd,hr.vl⟩
end
def RlA.refl(date:Int)(r:ba):RlA date r r:=⟨rfl,rfl,rfl,rfl,rfl,rfl⟩
def RuA.refl(date:Int)(rs:List ba):RuA date rs rs:=⟨Kl _,fun i h=>RlA.refl _ _,fun i h h2=>absurd h2 zo⟩
def RuA.app{r:ba}(h:fm r.2.2.2.2.1 date=false):RuA date rs (rs++[r]):=
 ⟨Sp,fun i hi=>by rw[afz hi];exact RlA.refl _ _,fun i h1 h2=>by have:i=rs.length:=MX;subst this;rw[afA (Kl _)];simpa using h⟩
def RuA.set{r:ba}{q:Nat}(h:∀hq:q<rs.length,RlA date rs[q] r):RuA date rs (rs.set q r):=
 ⟨Sp,fun i hi=>by rw[List.getElem_set];split;rename_i e;subst e;exact h hi;exact RlA.refl _ _,fun i h1 h2=>by rw[QC]at h2;omega⟩
def Ac{a b:Int}(h:date<a):fm (a,b) date=false:=by unfold fm;have:decide (a≤date)=false:=decide_eq_false zo;simp only[this,Bool.and_false,Bool.false_and]
def BL{a b c:Int}(h:a<c∧c<b)(hd:date<c)(hv:0≤a∧b≤109573):fm (a,b) date=fm (a,c) date:=by
 have e1:jt (a,b)=true:=by simp[jt];omega
 have e2:jt (a,c)=true:=by simp[jt];omega
 unfold fm;rw[e1,e2];have:decide (date<b)=decide (date<c):=by rw[decide_eq_true zo,decide_eq_true hd]
 simp only[this]
def Pj{rs:List dA}{x:dA}(h:fm x.1 date=false):Kd date (rs++[x])=Kd date rs:=by unfold Kd;rw[NZ];simp[h]
def Hk{date:Int}:∀{rs:List dA} {q:Nat} {x:dA},(∀hq:q<rs.length,fm rs[q].1 date=fm x.1 date∧rs[q].2=x.2)→Kd date (rs.set q x)=Kd date rs
 | [],q,x,h=>by simp
 | y::rs,0,x,h=>by
  obtain⟨h1,h2⟩:=h Sp
  have h1:fm y.1 date=fm x.1 date:=h1
  have h2:y.2=x.2:=h2
  rw[List.set_cons_zero]
  by_cases c:fm x.1 date=true
  ·rw[AV c,AV (h1.trans c),h2]
  rw[AW c,AW (by rw[h1];exact c)]
 | y::rs,q+1,x,h=>by
  have ih:=Hk (date:=date) (rs:=rs) (q:=q) (x:=x) (fun hq=>h QE)
  rw[List.set_cons_succ]
  by_cases c:fm y.1 date=true
  ·rw[AV c,AV c,ih]
  rw[AW c,AW c,ih]
end Go.Eng
