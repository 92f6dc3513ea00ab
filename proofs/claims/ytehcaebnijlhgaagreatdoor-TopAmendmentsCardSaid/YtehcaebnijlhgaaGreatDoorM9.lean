import Derived.Lib.ItoaNum
import Derived.Test.YtehcaebnijlhgaaGreatDoorM8
set_option linter.all false
set_option maxRecDepth 100000
set_option maxHeartbeats 9000000
namespace Go.Eng
open Go.Proofs Tryz
variable{a b c mode u y:Int}{cuts l:List Int}{d:aF}{e:List aF}{en:List dN}{i j k m n q r:Nat}{neg:Bool}{p:Int×Int}{s sg:bG}{t:ce}{ty:Nat→ce}{x:List aN}{α:Type}
def DJ:aL:=([],-1,[],[],[])
noncomputable def kG (l:bZ) (i:Nat) (s:aL):Int×Int:=
 if(!CM s.1)=true then(2,0)else
 if((Qn l.1 s.1||hasT l.2.1 s.1)||(l.2.2.take i).any (fun x=>decide (x.1=s.1)))=true then(7,0)else
 if s.2.1≠-1∧(s.2.1<0∨(i:Int)≤s.2.1∨(l.2.2[s.2.1.toNat]?.getD DJ).2.1≠-1)then(6,0)else
 if 12<s.2.2.1.length then(4,112)else
 if 12<s.2.2.2.1.length then(4,212)else
 match qu s.2.2.1.length (fun j=>Af l.1 (s.2.2.1[j]?.getD PV) (s.2.2.1.take j) [] != 0)with
 | some j=>(Af l.1 (s.2.2.1[j]?.getD PV) (s.2.2.1.take j) [],100+(j:Int))
 | none=>match qu s.2.2.2.1.length (fun j=>Af l.1 (s.2.2.2.1[j]?.getD PV) s.2.2.1 (s.2.2.2.1.take j) != 0)with
  | some j=>(Af l.1 (s.2.2.2.1[j]?.getD PV) s.2.2.1 (s.2.2.2.1.take j),200+(j:Int))
  | none=>match qu s.2.2.2.2.length (fun j=>nf s j (tz l s) != 0)with
   | some j=>(nf s j (tz l s),300+(j:Int))
   | none=>match qu s.2.2.2.1.length (fun j=>(As s (j:Int)).any (fun y=>decide ((j:Int)=y)))with
    | some j=>(9,200+(j:Int))
    | none=>(0,0)
def mD{f:Nat→Int}(h:qu n (fun i=>f i != 0)=some j):f j≠0:=by have:=List.find?_some h;simpa using this
def fl(e:List aF):Prop:=∀d∈e,-9223372036854775808≤d.2∧d.2≤9223372036854775807
def Dk(s:aL):Prop:=∀r∈s.2.2.2.2,fl r.2.2.2.2.2.1∧fl r.2.2.2.2.2.2.1
def vy(l:bZ):Prop:=(∀t∈l.2.1,∀x∈t.2.2.2,OI x)∧∀s∈l.2.2,Dk s
def xK{s:aL}(h:nf s k sg=0):tY (s.2.2.2.2[k]?.getD YB).2.2.2.2.2.2.1 sg (s.2.2.2.1[(s.2.2.2.2[k]?.getD YB).2.1.toNat]?.getD PV).2=0:=by
 unfold nf at h;iterate 8 (split at h;· exact absurd h cy)
 split at h;rename_i q;exact absurd h q.2;exact h
def vn(h:tY e sg t=0):e.length≤48:=by
 have h2:(fF e sg).2.2=0:=by unfold tY at h;split at h;rename_i q;rw[h]at q;cases q;rename_i q;simpa using q
 exact(ep (im h2)).1
def ME{s:aL}(h:WfS s)(hr:∀j,j<s.2.2.2.2.length→nf s j sg=0):tf s:=by obtain⟨⟨_,_,h2,h3⟩,_⟩:=h;refine⟨h2,h3,fun r hm=>?_⟩;have hm:r∈s.2.2.2.2:=hm;obtain⟨j,hj,rfl⟩:=LW hm;have hg:=GC (hr j hj);have hv:=xK (hr j hj);rw[RY hj,YM]at hg hv;refine⟨?_,?_⟩;show s.2.2.2.2[j].2.2.2.2.2.1.length≤_;rcases afr s.2.2.2.2[j].2.2.2.2.2.1.length with q|q;omega;have:=vn (hg q);omega;show s.2.2.2.2[j].2.2.2.2.2.2.1.length≤_;have:=vn hv;omega
def z26(l:bZ)(i:Nat)(s:aL)(hi0:i<l.2.2.length)(hse:l.2.2[i]=s)(hsm:WfS s)(hN:Dk s)(hll:l.2.2.length≤1000000)(hS:∀s∈l.2.2,s.2.2.1.length≤1000000∧s.2.2.2.1.length≤1000000):Ct prog 98 [.tv bl l,Sx (i:Nat)] (.tup2 (.raw (.int .i64 (kG l i s).1)) (.raw (.int .i64 (kG l i s).2))):=by
 refine Yk func98 ntmps98 fun w0 ok0=>?_;have hss:=hse;have hs1:=hsm.1.1;have hs2:s.2.2.2.2.length≤100:=hsm.1.2.2.2;have hgsc:s.2.1.toNat<i→((l.2.2.drop 0).take i)[s.2.1.toNat]?.getD DJ=l.2.2[s.2.1.toNat]?.getD DJ:=fun q=>by rw[Pv,rD q]
 refine E0 ?_;refine uK 6 6 (bQ 6 _) Z Z (a6 6 _) (bm 6 _) ?_;rw[hss];refine Y4 ?_;refine zJ (iS ga dO (.b Z) Z ⟨_,_,(.b Z),Z⟩ zo zo) (Y9 ?_);refine YK (CR _ _) ?_;refine Y5 ?_;refine zG Z Z (fun hg=>an (Ij _ _) (.cons (.gd Z hg) (.cons (.gd Z hg) .nil)) Z Z) (Y3 ?_);refine zG Z Z (fun hg=>j7 (A:=bw) (B:=cq) (aS:=[.eptr bw s]) (φ:=fun _=>True) (fun x=>decide (x.1=s.1)) (cJ func140 Z zk) (fun x _=>aeq x s) (.cons (.b Z) .nil) Z) (zG Z Z (fun hg=>an (aek _ _) (.cons (.gd Z hg) (.cons (.gd Z hg) .nil)) Z Z) (Qh ?_));refine zJ (an (By _ zo) (.cons (.b Z) .nil) Z Z) (Y3 ?_);refine aa ?_;refine Z0 ?_ ?_<;>intro h4;skip;refine Y9 ?_;exact z2 results98 Z Z (by unfold kG;rw[Cg h4]);skip;refine Z6 ?_ ?_<;>intro h6;rw[Pv]at h6;refine Y9 ?_;exact z2 results98 Z Z (by unfold kG;rw[zE OX,Cg h6]);rw[Pv]at h6;refine Y9 ?_;refine zG Z Z (fun hg=>ai (.gd Z hg)) ?_;refine Y5 ?_;refine zG Z Z (fun hg=>ai (.gd Z hg)) ?_;refine Y3 ?_;refine cf _ _ _ _ _ _ _ Z Z Z Z Z (fun hg=>av ga dO (.gd Z hg) (.gd Z hg) (show s.2.1=((s.2.1.toNat:Nat):Int)by simp at hg;omega) (getD_some (l:=(l.2.2.drop 0).take i) (i:=s.2.1.toNat) (z:=DJ) (by simp at hg;simp;omega))) ?_;refine Z8 ?_ ?_<;>intro h8;have h8:s.2.1≠-1∧(s.2.1<0∨(i:Int)≤s.2.1∨(l.2.2[s.2.1.toNat]?.getD DJ).2.1≠-1):=by refine⟨abP,?_⟩;by_cases q1:s.2.1<0;exact .inl q1;by_cases q2:(i:Int)≤s.2.1;exact .inr (.inl q2);refine .inr (.inr ?_);simp[q1,q2]at h8;rw[←hgsc zo];exact h8.2
 refine Y9 ?_;exact z2 results98 Z Z (by unfold kG;rw[zE OX,zE FH,Cg h8]);have h8:¬(s.2.1≠-1∧(s.2.1<0∨(i:Int)≤s.2.1∨(l.2.2[s.2.1.toNat]?.getD DJ).2.1≠-1)):=by rintro⟨q0,q⟩;by_cases q1:s.2.1<0;simp[q0,q1]at h8;by_cases q2:(i:Int)≤s.2.1;simp[q0,q1,q2]at h8;rcases q with q|q|q;exact q1 q;exact q2 q;simp[q0,q1,q2]at h8;rw[←hgsc zo]at q;exact q h8
 refine Z9 ?_ ?_<;>intro h10;have h10:12<s.2.2.1.length:=Re;refine Y9 ?_;exact z2 results98 Z Z (by unfold kG;rw[zE OX,zE FH,zE h8,Cg h10]);have h10:¬12<s.2.2.1.length:=Re;refine Z9 ?_ ?_<;>intro h12;have h12:12<s.2.2.2.1.length:=by simp at h12;omega
 refine Y9 ?_;exact z2 results98 Z Z (by unfold kG;rw[zE OX,zE FH,zE h8,zE h10,Cg h12]);have h12:¬12<s.2.2.2.1.length:=by simp at h12;omega
 refine MY ?_;refine bf (ι:=Nat) (fun j=>⟨[(1,Sx ((i:Nat))),(2,Sy 2 bl),(6,.eptr bw s),(87,.tv (ag dm) s.2.2.1),(88,Sx s.2.2.1.length),(89,Sx ((j:Nat)))],[(2,⟨bl,[l]⟩)]⟩) (fun j=>j≤s.2.2.1.length∧∀x,x<j→(Af l.1 (s.2.2.1[x]?.getD PV) (s.2.2.1.take x) [] != 0)=false) (fun j=>s.2.2.1.length-j) 0 (⟨P8 _,fun x hx=>So⟩) (fun a w hi=>(zI hi)) ?_;rintro j ⟨hlj,hnj⟩;refine zR (zt Z Z (zQ [1,2,6,87,88,89,90] [2] (aa (ac ?_))));refine Z0 ?_ ?_<;>intro h15;have h15:j<s.2.2.1.length:=abB;have hgf:s.2.2.1[j]?.getD PV=s.2.2.1[j]:=by rw[RY h15];rfl
 have hfl:s.2.2.1[j].1.length≤9223372036854775807:=hsm.2.1 _ (aA h15);refine KO ?_;refine GP (iS gp jM (.b Z) Z ⟨_,_,(.b Z),Z⟩ zo zo) (GP (an (IS _ _ _ _ zo) (.cons (.b Z) (.cons (.b Z) (.cons (.b Z) (.nilS (.b Z) .nil)))) Z Z) (Y2 ?_));refine Z7 ?_ ?_<;>intro h18;rw[Pv]at h18;refine zb ?_;refine b8 (ax (al ?_));exact z2 results98 Z Z (by unfold kG;rw[zE OX,zE FH,zE h8,zE h10,zE h12,jK h15 (by rw[hgf];exact h18) hnj];simp only[hgf,Pv]);rw[Pv]at h18;have hbf:=h18;refine Y7 ?_;exact aE (fun a w hi=>⟨j+1,zj,(⟨So,n9 hnj Zo⟩),(zI hi)⟩);have h15:s.2.2.1.length=j:=abB;have hfj:=mU (n:=s.2.2.1.length) (by rw[h15];exact hnj);refine Qy ?_;refine bf (ι:=Nat) (fun k=>⟨[(1,Sx ((i:Nat))),(2,Sy 2 bl),(6,.eptr bw s),(108,.tv (ag dm) s.2.2.2.1),(109,Sx s.2.2.2.1.length),(110,Sx ((k:Nat)))],[(2,⟨bl,[l]⟩)]⟩) (fun k=>k≤s.2.2.2.1.length∧∀x,x<k→(Af l.1 (s.2.2.2.1[x]?.getD PV) s.2.2.1 (s.2.2.2.1.take x) != 0)=false) (fun k=>s.2.2.2.1.length-k) 0 (⟨P8 _,fun x hx=>So⟩) (fun a w hi=>(zI hi)) ?_;rintro k ⟨hlk,hnk⟩;refine Z6 ?_ ?_<;>intro h22;have h22:k<s.2.2.2.1.length:=abE;have hgf:s.2.2.2.1[k]?.getD PV=s.2.2.2.1[k]:=by rw[RY h22];rfl
 have hfl:s.2.2.2.1[k].1.length≤9223372036854775807:=hsm.2.2.1 _ (aA h22);refine Y23 ?_;refine GP (iS gp jM (.b Z) Z ⟨_,_,(.b Z),Z⟩ zo zo) (GP (an (IS _ _ _ _ zo) (.cons (.b Z) (.cons (.b Z) (.cons (.b Z) (.cons (.b Z) .nil)))) Z Z) (Y2 ?_));refine Z7 ?_ ?_<;>intro h25;rw[Pv]at h25;refine zb ?_;refine b8 (ax (al ?_));exact z2 results98 Z Z (by unfold kG;rw[zE OX,zE FH,zE h8,zE h10,zE h12,hfj];simp only[];rw[jK h22 (by rw[hgf];exact h25) hnk];simp only[hgf,Pv]);rw[Pv]at h25;have hbf:=h25;refine Y7 ?_;exact aE (fun a w hi=>⟨k+1,zj,(⟨So,n9 hnk Zo⟩),(zI hi)⟩);have h22:s.2.2.2.1.length=k:=abE;have hfk:=mU (n:=s.2.2.2.1.length) (by rw[h22];exact hnk);refine Y9 ?_;refine YK (acH _ _ hi0 hS) ?_;refine Y6 ?_;rw[hss];refine Y8 ?_;refine bf (ι:=Nat) (fun m=>⟨[(6,.eptr bw s),(15,Sy 15 dg),(135,Sx s.2.2.2.2.length),(136,Sx ((m:Nat)))],[(15,⟨dg,[tz l s]⟩)]⟩) (fun m=>m≤s.2.2.2.2.length∧∀x,x<m→(nf s x (tz l s) != 0)=false) (fun m=>s.2.2.2.2.length-m) 0 (⟨P8 _,fun x hx=>So⟩) (fun a w hi=>(zI hi)) ?_;rintro m ⟨hlm,hnm⟩;refine Z6 ?_ ?_<;>intro h30;have h30:m<s.2.2.2.2.length:=by simp at h30;omega
 have hsr:=hsm.2.2.2 _ (aA h30);have hnr:=hN _ (aA h30);refine Y8 ?_;refine zQ [6,15,16,135,136] [15] (aa (zR ?_));refine Y3 ?_;refine zJ (an (kpK _ _ _ h30 zo hsr (fun d hd=>(hnr.1 d hd).2) (fun d hd=>(hnr.2 d hd).2)) (.cons (.b Z) (.cons (.b Z) (.cons (.b Z) .nil))) Z Z) (Z9 ?_ ?_)<;>intro h33;skip;refine zb ?_;refine b8 (ax (al ?_));exact z2 results98 Z Z (by unfold kG;rw[zE OX,zE FH,zE h8,zE h10,zE h12,hfj];simp only[];rw[hfk];simp only[];rw[jK h30 h33 hnm]);have hbf:=h33;refine Y7 ?_;exact aE (fun a w hi=>⟨m+1,zj,(⟨So,n9 hnm Zo⟩),(zI hi)⟩);have h30:s.2.2.2.2.length=m:=by simp at h30;omega
 have hfm:=mU (n:=s.2.2.2.2.length) (by rw[h30];exact hnm);refine Qy ?_;refine bf (ι:=Nat) (fun q=>⟨[(6,.eptr bw s),(151,Sx s.2.2.2.1.length),(152,Sx ((q:Nat)))],[]⟩) (fun q=>q≤s.2.2.2.1.length∧∀x,x<q→((As s (x:Int)).any (fun y=>decide ((x:Int)=y)))=false) (fun q=>s.2.2.2.1.length-q) 0 (⟨P8 _,fun x hx=>So⟩) (fun a w hi=>(zI hi)) ?_;rintro q ⟨hlq,hnq⟩;refine Z6 ?_ ?_<;>intro h37;have h37:q<s.2.2.2.1.length:=by simp at h37;omega
 refine Lc ?_;refine zJ (an (acX _ _ (ME hsm (fun j hj=>by have:=oH hfm j hj;simpa using this))) (.cons (.b rfl) (.cons (.b rfl) .nil)) rfl rfl) (zM rfl (YK (Is0 _ _) ?_));refine zZ ?_;refine Z0 ?_ ?_<;>intro h39;skip;refine dy ?_;refine b8 (ax (al ?_));exact z2 results98 Z Z (by unfold kG;rw[zE OX,zE FH,zE h8,zE h10,zE h12,hfj];simp only[];rw[hfk];simp only[];rw[hfm];simp only[];rw[jK h37 h39 hnq]);have hbf:=h39;refine Y7 ?_;exact aE (fun a w hi=>⟨q+1,zj,(⟨So,n9 hnq Zo⟩),(zI hi)⟩);have h37:s.2.2.2.1.length=q:=by simp at h37;omega
 have hfq:=mU (n:=s.2.2.2.1.length) (by rw[h37];exact hnq);refine zb ?_;exact z2 results98 Z Z (by unfold kG;rw[zE OX,zE FH,zE h8,zE h10,zE h12,hfj];simp only[];rw[hfk];simp only[];rw[hfm];simp only[];rw[hfq])
def uT4(l:bZ)(i:Nat)(hi0:i<l.2.2.length)(hsm:WfS l.2.2[i])(hN:Dk l.2.2[i])(hll:l.2.2.length≤1000000)(hS:∀s∈l.2.2,s.2.2.1.length≤1000000∧s.2.2.2.1.length≤1000000):
 Ct prog 98 [.tv bl l,Sx (i:Nat)] (.tup2 (.raw (.int .i64 (kG l i l.2.2[i]).1)) (.raw (.int .i64 (kG l i l.2.2[i]).2))):=z26 l i _ hi0 rfl hsm hN hll hS
noncomputable def wQ (l:bZ):Int×Int×Int×Int:=if 4<l.2.2.length then(4,3,4,0)else
 match qu l.2.2.length (fun i=>(kG l i (l.2.2[i]?.getD DJ)).1 != 0)with
 | some i=>((kG l i (l.2.2[i]?.getD DJ)).1,3,(i:Int),(kG l i (l.2.2[i]?.getD DJ)).2)
 | none=>(0,0,0,0)
def IR{l:bZ}(h:(wQ l).1=0):∀i,(hi:i<l.2.2.length)→(kG l i l.2.2[i]).1=0:=by unfold wQ at h;split at h;exact MD;split at h;rename_i i hi;exact absurd h (mD (f:=fun i=>(kG l i (l.2.2[i]?.getD DJ)).1) hi);rename_i hi;intro i hh;have:=oH hi i hh;rw[RY hh]at this;simpa using this
def pIn(l:bZ)(hsm:∀s∈l.2.2,WfS s)(hN:∀s∈l.2.2,Dk s)(hl:l.2.2.length≤1000000)(hS:∀s∈l.2.2,s.2.2.1.length≤1000000∧s.2.2.2.1.length≤1000000):Ct prog 52 [.tv bl l] (.tv cm (wQ l)):=by refine Yk func52 ntmps52 fun w0 ok0=>?_;refine Ks ?_ ?_<;>intro h1;have h1:4<l.2.2.length:=CY;refine zR (zJ (aC Jn Z Az (.cons (rt':=(ay .i64)) Z gY (.raw (.b Z) Z) (.cons (rt':=(ay .i64)) Z vW (.raw (.b Z) Z) (.cons (rt':=(ay .i64)) Z vV (.raw (.b Z) Z) .nil)))) (Y5 ?_));exact cQ results52 (aq hO Z Z Z (Lens.id cm)) Z (congrArg (SV.tv cm) (by unfold wQ;rw[Cg h1]));have h1:¬4<l.2.2.length:=CY;refine zb ?_;refine bf (ι:=Nat) (fun k=>⟨[(1,Sy 1 bl),(2,Sy 2 cm),(13,Sx l.2.2.length),(14,Sx ((k:Nat)))],[(1,⟨bl,[l]⟩),(2,⟨cm,[(0,0,0,0)]⟩)]⟩) (fun k=>k≤l.2.2.length∧∀j,j<k→((kG l j (l.2.2[j]?.getD DJ)).1 != 0)=false) (fun k=>l.2.2.length-k) 0 (⟨P8 _,fun j hj=>So⟩) (fun a w hi=>(zI hi)) ?_;rintro k ⟨hk,hno⟩;refine Z6 ?_ ?_<;>intro h4;have h4:k<l.2.2.length:=Yo;have hse:=hsm _ (aA h4);have hnn:=hN _ (aA h4);have hge:l.2.2[k]?.getD DJ=l.2.2[k]:=aaI;refine Lc ?_;refine zJ (an (uT4 _ _ h4 hse hnn zo hS) (.cons (.b Z) (.cons (.b Z) .nil)) Z Z) (sm ?_ ?_)<;>intro h7;have h7:¬(kG l k l.2.2[k]).1=0:=fQ;refine Y5 ?_;refine zJ (aC Jn Z Az (.cons (rt':=(ay .i64)) Z gY (.raw (.b Z) Z) (.cons (rt':=(ay .i64)) Z vW (.raw (.b Z) Z) (.cons (rt':=(ay .i64)) Z vV (.raw (.b Z) Z) (.cons (rt':=(ay .i64)) Z Gc (.raw (.b Z) Z) .nil))))) (Y6 ?_);refine b8 (ax (al ?_));exact cQ results52 (aq hO Z Z Z (Lens.id cm)) Z (congrArg (SV.tv cm) (by unfold wQ;rw[zE h1,jK h4 (by rw[hge];simpa using h7) hno];simp only[hge]));have h7:(kG l k l.2.2[k]).1=0:=fQ;exact WF;have h4:k=l.2.2.length:=Kb;refine Y7 ?_;refine zJ (aC Jn Z Az .nil) (Y4 ?_);exact cQ results52 (aq hO Z Z Z (Lens.id cm)) Z (congrArg (SV.tv cm) (by unfold wQ;rw[zE h1,mU aby]))
noncomputable def eU (l:bZ):Int×Int×Int×Int:=if((wR l.1).1 != 0)=true then wR l.1 else if((lq l).1 != 0)=true then lq l else wQ l
def ox(l:bZ)(hL:FX l)(hN:vy l):Ct prog 11 [.tv bl l] (.tv cm (eU l)):=by
 refine Yk func11 ntmps11 fun w0 ok0=>?_;have hR:∀t∈l.2.1,t.2.2.2.length≤1000:=fun t ht=>(hL.2.2.1 t ht).2;have hS:∀s∈l.2.2,s.2.2.1.length≤1000000∧s.2.2.2.1.length≤1000000:=fun s hs=>by have h1:=(hL.2.2.2 s hs).1;omega
 refine Qh ?_;refine zJ (an (upM _ hL.2.1 (by have:=hL.1.1;omega)) (.cons (.b rfl) .nil) rfl rfl) (Jf ?_ ?_)<;>intro h2;skip;refine Y8 ?_;exact cQ results11 (aq hO Z Z Z (Lens.id cm)) Z (congrArg (SV.tv cm) (by unfold eU;rw[Cg h2]));skip;refine Y6 ?_;refine zJ (an (acP _ (fun t ht=>(hL.2.2.1 t ht).1) hN.1 hR (by have:=hL.1.2.1;omega)) (.cons (.b rfl) .nil) rfl rfl) (Jf ?_ ?_)<;>intro h5;skip;refine Y8 ?_;exact cQ results11 (aq hO Z Z Z (Lens.id cm)) Z (congrArg (SV.tv cm) (by unfold eU;rw[zE Ji,Cg h5]));skip;refine Y5 ?_;refine zJ (an (pIn _ hL.2.2.2 hN.2 (by have:=hL.1.2.2;omega) hS) (.cons (.b rfl) .nil) rfl rfl) (Y4 ?_);exact cQ results11 (aq hO Z Z Z (Lens.id cm)) Z (congrArg (SV.tv cm) (by unfold eU;rw[zE Ji,zE adh]))
def Ak(en:List dN)(v:aN)(t:ce):Int:=if v.1≠t.1∨v.2.1≠t.2 then 8 else if v.2.2<(cg t en).1∨(cg t en).2<v.2.2 then 3 else 0
def JZ:aN:=(0,0,0)
def oq(en:List dN)(vs:List aN)(fs:List dG):Int×Int:=
 if vs.length<fs.length then((vs.length:Int),5)else if fs.length<vs.length then((fs.length:Int),4)else
 match qu vs.length (fun i=>Ak en (vs[i]?.getD JZ) (fs[i]?.getD PV).2 != 0)with
 | some i=>((i:Int),Ak en (vs[i]?.getD JZ) (fs[i]?.getD PV).2)
 | none=>(0,0)
def Oi{vs:List aN}{fs:List dG}(h:(oq en vs fs).2=0):vs.length=fs.length∧∀i,(hi:i<vs.length)→(hj:i<fs.length)→(vs[i].1=fs[i].2.1∧vs[i].2.1=fs[i].2.2)∧(cg fs[i].2 en).1≤vs[i].2.2∧vs[i].2.2≤(cg fs[i].2 en).2:=by
 unfold oq at h;split at h;exact O8;split at h;exact O8;split at h;rename_i j hj;exact absurd h (mD (f:=fun i=>Ak en (vs[i]?.getD JZ) (fs[i]?.getD PV).2) hj);rename_i hn;refine⟨So,fun i hi hj=>?_⟩;have:=oH hn i hi;rw[RY hi,RY hj]at this;have h2:Ak en vs[i] fs[i].2=0:=by simpa using this
 unfold Ak at h2;split at h2;cases h2;split at h2;cases h2;omega
def lH(l:bZ)(s:aL):List dG×Int:=match wW l s with|some m=>(m.2.2.1,8)|none=>([],0)
def j5(l:bZ)(s:aL)(c:fo):Int×Int×Int:=
 if c.1<0∨109572<c.1 then(-1,-1,3)else
 if(oq l.1 c.2.1 s.2.2.1).2≠0 then(-1,(oq l.1 c.2.1 s.2.2.1).1,(oq l.1 c.2.1 s.2.2.1).2)else
 if(lH l s).2<c.2.2.length then((lH l s).2,-1,4)else
 match qu c.2.2.length (fun i=>(oq l.1 (c.2.2[i]?.getD []) (lH l s).1).2 != 0)with
 | some i=>((i:Int),(oq l.1 (c.2.2[i]?.getD []) (lH l s).1).1,(oq l.1 (c.2.2[i]?.getD []) (lH l s).1).2)
 | none=>(0,0,0)
def K2{l:bZ}{s:aL}{c:fo}(h:(j5 l s c).2.2=0):(0≤c.1∧c.1≤109572)∧(oq l.1 c.2.1 s.2.2.1).2=0∧(c.2.2.length:Int)≤(lH l s).2:=by unfold j5 at h;split at h;exact O8;split at h;rename_i q;exact absurd h q;rename_i q;split at h;exact O8;exact⟨So,acI,So⟩
def IQ(l:bZ)(vs:List aN)(fs:List dG):Ct prog 104 [.tv bl l,.tv (ag aK) vs,.tv (ag dm) fs] (.tup2 (.raw (.int .i64 (oq l.1 vs fs).1)) (.raw (.int .i64 (oq l.1 vs fs).2))):=by
 refine Yk func104 ntmps104 fun w0 ok0=>?_;refine fT 1 Z (fun hl1=>?_);refine fT 2 Z (fun hl2=>?_);refine O0 ?_ ?_<;>intro h1;have h1:vs.length<fs.length:=CY;refine Qh ?_;exact z2 results104 Z Z (by unfold oq;rw[Cg h1]);have h1:¬vs.length<fs.length:=CY;refine Jk ?_ ?_<;>intro h3;have h3:fs.length<vs.length:=E4;refine Qh ?_;exact z2 results104 Z Z (by unfold oq;rw[zE h1,Cg h3]);have h3:¬fs.length<vs.length:=E4;refine dy ?_;refine bf (ι:=Nat) (fun k=>⟨[(2,.tv (ag dm) fs),(3,Sy 3 bl),(27,.tv (ag aK) vs),(28,Sx vs.length),(29,Sx ((k:Nat)))],[(3,⟨bl,[l]⟩)]⟩) (fun k=>k≤vs.length∧∀j,j<k→(Ak l.1 (vs[j]?.getD JZ) (fs[j]?.getD PV).2 != 0)=false) (fun k=>vs.length-k) 0 (⟨P8 _,fun j hj=>So⟩) (fun a w hi=>(zI hi)) ?_;rintro k ⟨hk,hno⟩;refine Z6 ?_ ?_<;>intro h6;have h6:k<vs.length:=O3;have h6b:k<fs.length:=So;have hg1:vs[k]?.getD JZ=vs[k]:=by rw[RY h6];rfl
 have hg2:fs[k]?.getD PV=fs[k]:=by rw[RY h6b];rfl
 refine Z42 ?_ ?_<;>intro h9;have h9:vs[k].1≠fs[k].2.1∨vs[k].2.1≠fs[k].2.2:=by simp[RY h6b]at h9;exact Classical.or_iff_not_imp_left.2 (fun q=>by first|exact h9 acI|(rcases h9 with h9|h9;exact absurd h9 q;exact h9))
 refine dy ?_;refine b8 (ax (al ?_));exact z2 results104 Z Z (by unfold oq;rw[zE h1,zE h3,jK h6 (by rw[hg1,hg2];unfold Ak;rw[Cg h9];rfl) hno];simp only[hg1,hg2];unfold Ak;rw[Cg h9]);have h9:¬(vs[k].1≠fs[k].2.1∨vs[k].2.1≠fs[k].2.2):=by simp[RY h6b]at h9;simp[h9]
 refine Y7 ?_;refine YK (pH _ _) ?_;refine rZ ?_ ?_<;>intro h12;have h12:vs[k].2.2<(cg fs[k].2 l.1).1∨(cg fs[k].2 l.1).2<vs[k].2.2:=aag;refine Qh ?_;refine b8 (ax (al ?_));exact z2 results104 Z Z (by unfold oq;rw[zE h1,zE h3,jK h6 (by rw[hg1,hg2];unfold Ak;rw[zE h9,Cg h12];rfl) hno];simp only[hg1,hg2];unfold Ak;rw[zE h9,Cg h12]);have h12:¬(vs[k].2.2<(cg fs[k].2 l.1).1∨(cg fs[k].2 l.1).2<vs[k].2.2):=aag;refine Y7 ?_;exact aE (fun a w hi=>⟨k+1,zj,(⟨So,n9 hno (by rw[hg1,hg2];unfold Ak;rw[zE h9,zE h12];rfl)⟩),(zI hi)⟩);have h6:k=vs.length:=Si;refine Y9 ?_;refine zQ [6,7] [] (aa (am ?_));exact z2 results104 Z Z (by unfold oq;rw[zE h1,zE h3,mU (by rw[←h6];exact hno)])
def toN(l:bZ)(i:Nat)(hi:i<l.2.2.length):Ct prog 105 [.tv bl l,Sx (i:Nat)] (.tup2 (.tv (ag dm) (lH l l.2.2[i]).1) (.raw (.int .i64 (lH l l.2.2[i]).2))):=by refine Yk func105 ntmps105 fun w0 ok0=>?_;refine Z32 ?_ ?_<;>intro h2;have h2:¬(0≤l.2.2[i].2.1∧l.2.2[i].2.1<l.2.2.length):=MX;refine Y8 ?_;exact aI results105 (ff Z) (ar Z) ⟨Z,Z⟩ (by unfold lH;rw[Cs h2]);have h2:0≤l.2.2[i].2.1∧l.2.2[i].2.1<l.2.2.length:=MX;refine Y7 ?_;refine bi _ Z _ Z Z (av ga dO (.b Z) (.b Z) (J1 h2.1).symm zg) ?_;refine Y7 ?_;exact z2 results105 Z Z (by unfold lH;rw[F6 h2];rfl)
def GZ(l:bZ)(i:Nat)(c:fo)(hi0:i<l.2.2.length)(hcl:c.2.2.length≤1000000):Ct prog 58 [.tv bl l,Sx (i:Nat),.tv gL c] (.tup3 (.raw (.int .i64 (j5 l l.2.2[i] c).1)) (.raw (.int .i64 (j5 l l.2.2[i] c).2.1)) (.raw (.int .i64 (j5 l l.2.2[i] c).2.2))):=by
 refine Yk func58 ntmps58 fun w0 ok0=>?_;refine Z23 ?_ ?_<;>intro h1;exfalso;simp at h1;omega;skip;refine Ks ?_ ?_<;>intro h3;have h3:c.1<0∨109572<c.1:=E4;refine Y9 ?_;exact db results58 (ar Z) (ar Z) (ar Z) ⟨Z,Z,Z⟩ (by unfold j5;rw[Cg h3]);have h3:¬(c.1<0∨109572<c.1):=E4;refine Lc ?_;refine GP (an (IQ _ _ _) (.cons (.b Z) (.cons (.b Z) (.cons (.b Z) .nil))) Z Z) (Y6 ?_);refine Z7 ?_ ?_<;>intro h6;have h6:(oq l.1 c.2.1 l.2.2[i].2.2.1).2≠0:=O3;refine dy ?_;exact db results58 (ar Z) (ar Z) (ar Z) ⟨Z,Z,Z⟩ (by unfold j5;rw[zE h3,Cg h6]);have h6:¬(oq l.1 c.2.1 l.2.2[i].2.2.1).2≠0:=O3;refine Y6 ?_;refine YK (toN _ _ hi0) ?_;refine O0 ?_ ?_<;>intro h9;have h9:(lH l l.2.2[i]).2<c.2.2.length:=NG;refine Qh ?_;exact db results58 (ar Z) (ar Z) (ar Z) ⟨Z,Z,Z⟩ (by unfold j5;rw[zE h3,zE h6,Cg h9]);have h9:¬(lH l l.2.2[i]).2<c.2.2.length:=NG;refine zb ?_;refine bf (ι:=Nat) (fun k=>⟨[(3,Sy 3 bl),(11,.tv (ag dm) (lH l l.2.2[i]).1),(64,.tv (ag (ag aK)) c.2.2),(65,Sx c.2.2.length),(66,Sx ((k:Nat)))],[(3,⟨bl,[l]⟩)]⟩) (fun k=>k≤c.2.2.length∧∀j,j<k→((oq l.1 (c.2.2[j]?.getD []) (lH l l.2.2[i]).1).2 != 0)=false) (fun k=>c.2.2.length-k) 0 (⟨P8 _,fun j hj=>So⟩) (fun a w hi=>(zI hi)) ?_;rintro k ⟨hk,hno⟩;refine Z6 ?_ ?_<;>intro h12;have h12:k<c.2.2.length:=P9;have hge:c.2.2[k]?.getD []=c.2.2[k]:=by rw[RY h12];rfl
 refine Ki ?_;refine YK (IQ _ _ _) ?_;refine sm ?_ ?_<;>intro h15;have h15:¬(oq l.1 c.2.2[k] (lH l l.2.2[i]).1).2=0:=LQ;refine Y8 ?_;refine zQ [6,7,8] [] (aa (am (ax (al (b8 (ax (al ?_)))))));exact db results58 (ar Z) (ar Z) (ar Z) ⟨Z,Z,Z⟩ (by unfold j5;rw[zE h3,zE h6,zE h9,jK h12 (by rw[hge];simpa using h15) hno];simp only[hge]);have h15:(oq l.1 c.2.2[k] (lH l l.2.2[i]).1).2=0:=LQ;refine Y7 ?_;exact aE (fun a w hi=>⟨k+1,zj,(⟨So,n9 hno (by rw[hge,h15];rfl)⟩),(zI hi)⟩);have h12:k=c.2.2.length:=by simp at h12;omega
 refine MY ?_;exact db results58 (ar Z) (ar Z) (ar Z) ⟨Z,Z,Z⟩ (by unfold j5;rw[zE h3,zE h6,zE h9,mU (by rw[←h12];exact hno)])
def SmC(c:fo):Prop:=(c.2.1.length≤14∧c.2.2.length≤10)∧∀m∈c.2.2,m.length≤14
def smC_ok(c:fo):Ct prog 20 [.tv gL c] (.raw (.bool (dB (SmC c)))):=by refine Yk func20 ntmps20 fun w0 ok0=>?_;refine rZ ?_ ?_<;>intro h1;have h1:¬(c.2.1.length≤14∧c.2.2.length≤10):=CY;refine Y7 ?_;exact z1 results20 Z (rb ((Aa (fun q=>h1 q.1)).symm));have h1:c.2.1.length≤14∧c.2.2.length≤10:=CY;refine Y9 ?_;refine bf (ι:=Nat) (fun k=>⟨[(1,Sy 1 gL),(3,Sx ((k:Nat)))],[(1,⟨gL,[c]⟩)]⟩) (fun k=>k≤c.2.2.length∧∀x∈c.2.2.take k,x.length≤14) (fun k=>c.2.2.length-k) 0 (⟨P8 _,vu _⟩) (fun a w hi=>(zI hi)) ?_;rintro k ⟨hk,hp⟩;refine wz ?_ ?_<;>intro h4;have h4:k<c.2.2.length:=Yo;refine Ks ?_ ?_<;>intro h6;have h6:¬c.2.2[k].length≤14:=Si;refine Y8 ?_;refine b8 (ax (al ?_));exact z1 results20 Z (rb ((Aa (fun q=>h6 (q.2 _ (aA h4)))).symm));have h6:c.2.2[k].length≤14:=Si;exact W0;have h4:c.2.2.length≤k:=Yo;refine dy ?_;exact z1 results20 Z (rb ((QN (⟨h1,nh h4 hp⟩)).symm))
def wM(op:Int):Bool:=decide (2≤op∧op≤6)
def Su(op:Int):Bool:=decide (19≤op∧op≤22)
def GB(e:List aF)(at_:Int):aF:=e[((bV e at_)[0]?.getD 0).toNat]?.getD (0,0)
def Jw(e:List aF)(at_:Int):aF:=e[((bV e at_)[1]?.getD 0).toNat]?.getD (0,0)
def jO(e:List aF)(at_:Int):Int×aF×Bool:=
 if(bV e at_).length≠2 then(0,(0,0),false)else if(GB e at_).1=7∧wM (Jw e at_).1=true then((GB e at_).2,Jw e at_,true)
 else if(Jw e at_).1=7∧wM (GB e at_).1=true then((Jw e at_).2,GB e at_,true)else(0,(0,0),false)
def yp{R:List Int}:∀(n:Nat) (rs:List Int) (t:Int),ir R t rs→n≤rs.length→∀x∈MO R n t,0≤x∧x<t
 | 0,_,_,_,_,x,hx=>by simp[MO]at hx
 | n+1,[],_,_,h,_,_=>by simp at h
 | n+1,s::r,t,hc,h,x,hx=>by rw[MO,hc.2.2.1,YM]at hx;have h1:=hc.1;have h2:=hc.2.1;rcases Nx.1 hx with hx|hx;have:=yp n r s hc.2.2.2 PW x hx;omega;obtain rfl:=J0.1 hx;omega
def Gl(op:Int)(smp:Bool):Bool:=decide (op=1∨op=23∨op=24∨op=25∨op=7)||wM op||(Su op&&smp)
def CZ(e:List aF)(i:Nat):Bool:=Gl (e[i]?.getD (0,0)).1 (jO e i).2.2
def aeK(hk:k<e.length):CZ e k=Gl e[k].1 (jO e k).2.2:=by unfold CZ;rw[RY hk];rfl
def Cy(l:List Int)(n:Int):Nat→Int
 | 0=>-1
 | k+1=>if l[k]?.getD 0≤n then(k:Int)else Cy l n k
def m9(l:List Int)(n:Int):Int:=Cy l n l.length
def locK_t{n:Int}(hk:k<l.length)(h:l[k]≤n):Cy l n (k+1)=k:=by rw[Cy,RY hk,YM,Cg h]
def locK_f{n:Int}(hk:k<l.length)(h:¬l[k]≤n):Cy l n (k+1)=Cy l n k:=by rw[Cy,RY hk,YM,zE h]
def cutN(n:Int):List Int:=if n<9223372036854775807 then[n,n+1]else[n]
def Ab(e:List aF)(inp:Int)(i:Nat):List Int:=
 if Su (e[i]?.getD (0,0)).1=true∧(jO e i).2.2=true∧(jO e i).1=inp∧(jO e i).2.1.1≠6 then cutN (jO e i).2.1.2 else[]
def Fl(e:List aF)(inp:Int):Nat→List Int
 | 0=>[]
 | k+1=>Fl e inp k++Ab e inp k
def gK(gs:List (List aF))(inp:Int):Nat→List Int
 | 0=>[]
 | k+1=>gK gs inp k++Fl (gs[k]?.getD []) inp (gs[k]?.getD []).length
def aeL{gs:List (List aF)}{inp:Int}(hk:k<gs.length):gK gs inp (k+1)=gK gs inp k++Fl gs[k] inp gs[k].length:=by rw[gK,RY hk,YM]
def rng(lo:Int)(k:Nat):List Int:=(List.range k).map (fun(i:Nat)=>lo+(i:Int))
def inR(lo hi:Int)(c:Int):Bool:=decide (lo≤c)&&decide (c≤hi)
def qF(t:ce)(en:List dN)(cuts:List Int):List Int:=
 if aP t en=false then[]else if t.1=1∨t.1=6 then rng (cg t en).1 ((cg t en).2-(cg t en).1+1).toNat
 else dX ([(cg t en).1]++cuts.filter (inR (cg t en).1 (cg t en).2))
def vS{l:List Int}{n:Int}:∀k,k≤l.length→(Cy l n k = -1∧∀j (hj:j<l.length),j<k→n<l[j])∨∃K,∃hK:K<l.length,K<k∧Cy l n k=(K:Int)∧l[K]≤n∧∀j (hj:j<l.length),K<j→j<k→n<l[j]
 | 0,_=>.inl ⟨rfl,fun j _ h=>absurd h zo⟩
 | k+1,hk=>by have hk':k<l.length:=So;by_cases q:l[k]≤n;exact .inr ⟨k,hk',So,locK_t hk' q,q,fun j _ h1 h2=>absurd h1 zo⟩;rw[locK_f hk' q];rcases vS (l:=l) (n:=n) k zo with⟨h1,h2⟩|⟨K,hK,h1,h2,h3,h4⟩;refine .inl ⟨h1,fun j hj h=>?_⟩;rcases Qa j k with r|r;exact h2 j hj r;have:j=k:=So;subst this;omega;refine .inr ⟨K,hK,So,h2,h3,fun j hj q1 q2=>?_⟩;rcases Qa j k with r|r;exact h4 j hj q1 r;have:j=k:=So;subst this;omega
def ID:∀(a:Nat) (l:List Sg),(∀x∈l,x.1≠[])→∀z∈mF a l,(a:Int)≤z∧z<((a+(flat l).length:Nat):Int)
 | a,[],_,z,hz=>by simp[mF]at hz
 | a,x::r,h,z,hz=>by have hx:=N9.2 (h x Sp);simp only[mF,L5]at hz;simp only[flat,Yl];rcases hz with rfl|hz;omega;have:=ID (a+x.1.length) r (fun y hy=>h y O2) z hz;omega
def n8{s:bG}:∀(p:Nat) (l:List Sg),rM s p l→∀x∈l,x.1≠[]
 | p,x::r,h,y,hy=>by rcases L5.1 hy with rfl|hy;exact h.1.1;exact n8 _ r h.2 y hy
def Ej{R:List Int}:∀(m j:Nat) (t:Int),(MO R (j+m) t).drop j=MO R m t
 | 0,j,t=>by rw[KD (by rw[pY];omega)];rfl
 | m+1,j,t=>by rw[show j+(m+1)=(j+m)+1 by omega,MO,MO,List.drop_append_of_le_length (by rw[pY];omega),Ej m j]
def Q6(e:List aF)(s:bG)(ty:Nat→ce)(at_:Nat)(h:at_<e.length):Prop:=
 ((bV e at_).length=(aW e[at_].1).toNat∧0≤aW e[at_].1)∧(∀z∈bV e at_,0≤z∧z<(at_:Int))∧¬(e[at_].2≠0∧fd e[at_].1=false)∧cn e[at_] ((bV e at_).map (fun z=>ty z.toNat)) s=(ty at_,0)∧aP (ty at_) s.1=true
def G2{e:List aF}{s:bG}(hs:(bK e).2.2=0)(ht:(fF e s).2.2=0):∀k,k≤e.length→∃(ty:Nat→ce) (l:List Sg),Run e s k l∧l.map (·.2)=(mF 0 l).map (fun z=>ty z.toNat)∧∀at_ (h:at_<e.length),at_<k→Q6 e s ty at_ h
 | 0,_=>by
  obtain⟨l,hl⟩:=Hm hs ht 0 (P8 _)
  have hl':=hl
  obtain⟨_,_,_,_,_,h3,h4,_⟩:=hl
  have:l=[]:=by
   cases l with
   | nil=>rfl
   | cons x r=>
    have:=n8 _ _ h4 x Sp
    simp[flat]at h3;exact absurd h3.1 this
  subst this
  exact⟨fun _=>(0,0),[],hl',Z,fun at_ h q=>absurd q zo⟩
 | k+1,hk=>by
  obtain⟨ty,l,hr,hm,hT⟩:=G2 hs ht k zo
  obtain⟨a0,a1,b0,b1,hr'⟩:=DT hr zo hs ht
  have hkl:k<e.length:=So
  obtain⟨starts,hc,hl0,h1,h2,h3,h4,h5⟩:=hr
  have hfl:(flat l).length=k:=by rw[h3];simp;omega
  have hR:ir (bK e).1 ((flat l).length:Nat) (ja 0 l).reverse:=by
   have hs':=hs
   rw[←h1]at hs'
   obtain⟨_,⟨t,e1⟩,_⟩:=yg _ _ _ _ _ hc hl0 hs'
   rw[hfl,←h1,e1];exact ns zo hc
  have hoe:=(Ei l.length l rfl hR).1
  rw[hfl]at hoe
  generalize hm0:l.length-(aW e[k].1).toNat=m at *
  have hops:bV e (k:Int)=(mF 0 l).drop m:=by
   unfold bV
   rw[zE zo,K4,RY hkl,YM,←hoe,←Ej (aW e[k].1).toNat m,show m+(aW e[k].1).toNat=l.length by omega]
  have hne:=n8 _ _ h4
  have hlt:∀z∈mF 0 l,0≤z∧z<(k:Int):=fun z hz=>by
   have:=ID 0 l hne z hz;rw[hfl]at this;omega
  have hsplit:mF 0 l=mF 0 (l.take m)++mF (0+(flat (l.take m)).length) (l.drop m):=by rw[←oK,N4]
  have hflen:(flat (l.take m)).length+(flat (l.drop m)).length=k:=by rw[←Yl,←kL,N4,hfl]
  have htl:(l.take m).length=m:=QE
  have he1:mF 0 (l.take m)=(mF 0 l).take m:=by rw[hsplit,DZ (by rw[pC,htl])]
  generalize ht0:(cn e[k] ((l.drop m).map (·.2)) s)=t at *
  have hold:∀z:Int,z<(k:Int)→0≤z→(if z.toNat=k then t.1 else ty z.toNat)=ty z.toNat:=fun z h1 h2=>zE zo
  have hmm:∀xs:List Int,(∀z∈xs,0≤z∧z<(k:Int))→xs.map (fun z=>(fun i=>if i=k then t.1 else ty i) z.toNat)=xs.map (fun z=>ty z.toNat):=fun xs h=>Kp (fun z hz=>hold z (h z hz).2 (h z hz).1)
  refine⟨fun i=>if i=k then t.1 else ty i,_,hr',?_,fun at_ h q=>?_⟩
  ·rw[oK,ll,ll,he1,hmm _ (fun z hz=>hlt z (JU hz)),List.map_take,hm,List.map_take]
   congr 1
   simp only[zr,Fx,mF,Yl,Ja]
   rw[Cg zo]
  by_cases hq:at_=k
  ·subst hq
   have hmap:(bV e (at_:Int)).map (fun z=>(fun i=>if i=at_ then t.1 else ty i) z.toNat)=(l.drop m).map (·.2):=by
    rw[hops,hmm _ (fun z hz=>hlt z (List.mem_of_mem_drop hz)),List.map_drop,←hm,List.map_drop]
   refine⟨⟨by rw[hops,PS,pC];omega,a0⟩,fun z hz=>?_,b0,?_,?_⟩
   ·rw[hops]at hz;exact hlt z (List.mem_of_mem_drop hz)
   ·rw[hmap,ht0];simp only[if_true];rw[←b1]
   simp only[if_true]
   obtain⟨_,_,_,_,_,_,_,h5'⟩:=hr'
   exact h5' (flat (l.drop m)++[e[at_]],t.1) Sp
  have hq2:at_<k:=So
  obtain⟨c1,c2,c3,c4,c5⟩:=hT at_ h hq2
  refine⟨c1,c2,c3,?_,?_⟩
  ·rw[hmm _ (fun z hz=>⟨(c2 z hz).1,by have:=(c2 z hz).2;omega⟩),c4];simp only[zE hq]
  simp only[zE hq];exact c5
def Rb(ht:(fF e s).2.2=0):∃ty:Nat→ce,0<e.length∧(∀at_ (h:at_<e.length),Q6 e s ty at_ h)∧(fF e s).1=ty (e.length-1):=by
 have hs:=im ht;have h48:=ep hs;obtain⟨ty,l,hr,hm,hT⟩:=G2 hs ht e.length (Kl _);refine⟨ty,h48.2.1,fun at_ h=>hT at_ h h,?_⟩;obtain⟨starts,hc,hl0,h1,h2,h3,h4,h5⟩:=hr;rw[KD (Kl _)]at h1 h2;rw[fV (Kl _)]at h3;have hle:l.length≤1:=Classical.byContradiction fun c=>by rw[iq,Cg (by rw[jy];omega)]at h1;rw[←h1]at hs;simp at hs
 match l,hle with
 | [],_=>have h:=h48.2.1;rw[←h3]at h;simp[flat]at h
 | [x],_=>
  have hx:x.1.length=e.length:=by rw[←h3];simp[flat]
  rw[←h2];simp only[zr,Fx,mF]at hm⊢;injection hm with hm _;simp only[nz,Ja];rw[hm];simp[hx];try(congr 1;omega)
section
def jL(k:Int):Int×Int:=if k=1 then(0,1)else if k=2 then(-1000000000000,1000000000000)else if k=3 then(-1000000000000000,1000000000000000)else if k=4 then(-1000000000,1000000000)else if k=5 then(0,109572)else if k=6 then(0,15)else(0,-1)
def da(v:aN):Bool:=!(decide (v.2.2<(jL v.1).1)||decide (v.2.2>(jL v.1).2))&&(if v.1=6 then decide (v.2.1≥0)&&decide (v.2.1<8)else decide (v.2.1=0))
def ny(b:Bool):aN:=(1,0,if b=true then 1 else 0)
def iI(d:aF)(x:List aN):aN:=if d.1=7 then x.getD d.2.toNat (0,0,0)else if d.1=6 then(6,d.2/16,d.2%16)else(d.1,0,d.2)
def Ky(op:Int)(a b:aN):aN:=ny (if op=19 then decide (a.2.2=b.2.2)else if op=20 then decide (a.2.2≠b.2.2)else if op=21 then decide (a.2.2<b.2.2)else decide (a.2.2≤b.2.2))
def Dg(d:aF)(args:List aN)(x:List aN):aN:=match args with
 | []=>iI d x
 | [a]=>ny (decide (a.2.2=0))
 | [a,b]=>Ky d.1 a b
 | _=>(0,0,0)
def nd(e:List aF)(z:Int):aF:=e.getD z.toNat (0,0)
def H3(op:Int)(a b:aN):aN:=if decide (op=23)=decide (a.2.2=0)then a else b
def E6(e:List aF)(x:List aN):Nat→Int→aN
 | 0,_=>(0,0,0)
 | n+1,z=>if(nd e z).1=23∨(nd e z).1=24 then H3 (nd e z).1 (E6 e x n ((bV e z)[0]?.getD 0)) (E6 e x n ((bV e z)[1]?.getD 0))
  else Dg (nd e z) ((bV e z).map (E6 e x n)) x
def adw{v:aN}(h:v.1=1)(hp:da v=true):v.2.1=0∧0≤v.2.2∧v.2.2≤1:=by simp[da,jL,h]at hp;omega
def wD(b:Bool):da (ny b)=true:=by cases b<;>rfl
structure Flat(e:List aF)(s:bG)(ty:Nat→ce)(x:List aN):Prop where
 en:s.1.length≤8∧∀q∈s.1,q.2.length≤16
 len:0<e.length
 typ:∀at_ (h:at_<e.length),Q6 e s ty at_ h
 top:ty (e.length-1)=(1,0)
 flat:∀i,i<e.length→CZ e i=true
 xl:x.length=s.2.2.1.length
 xv:∀i (h:i<x.length) (h2:i<s.2.2.1.length),x[i].1=(s.2.2.1[i]).1∧x[i].2.1=(s.2.2.1[i]).2∧da x[i]=true∧(cg s.2.2.1[i] s.1).1≤x[i].2.2∧x[i].2.2≤(cg s.2.2.1[i] s.1).2
def len1'{l:List α}(h:l.length=1):∃a,l=[a]:=by match l,h with | [a],_=>exact⟨a,rfl⟩
def MG{l:List α}(h:l.length=2):∃a b,l=[a,b]:=by match l,h with | [a,b],_=>exact⟨a,b,rfl⟩
def E7(h:i<e.length)(hf:CZ e i=true):(1≤e[i].1∧e[i].1≤7)∨e[i].1=23∨e[i].1=24∨e[i].1=25∨((19≤e[i].1∧e[i].1≤22)∧(jO e i).2.2=true):=by rw[aeK h]at hf;simp only[Gl,wM,Su,JO,YC,Ek]at hf;rcases hf with(h1|h1)|⟨h1,h2⟩;rcases h1 with q|q|q|q|q;left;omega;right;left;exact q;right;right;left;exact q;right;right;right;left;exact q;left;omega;left;omega;right;right;right;right;exact⟨h1,h2⟩
def nt2{a b:ce}(h1:17≤d.1∧d.1≤24)(h:cn d [a,b] s=(t,0)):aR d.1 [a,b]=(t,true):=by exact VH
def nt1{a:ce}(h1:d.1=25)(h:cn d [a] s=(t,0)):aR d.1 [a]=(t,true):=by exact VH
def Dd(h:t.1=1)(hv:aP t en=true):t=(1,0):=by unfold aP at hv;rw[Cg zo]at hv;exact Prod.ext h (by simpa using hv)
def Flat.sh_and(F:Flat e s ty x)(h:i<e.length)(ho:e[i].1=23∨e[i].1=24):
 ∃a b:Nat,bV e i=[(a:Int),(b:Int)]∧a<i∧b<i∧e[i].2=0∧ty a=(1,0)∧ty b=(1,0)∧ty i=(1,0):=by
 obtain⟨⟨c1,c2⟩,c3,c4,c5,c6⟩:=F.typ i h;have ha:aW e[i].1=2:=by unfold aW;rcases ho with q|q<;>rw[q]<;>rfl
 obtain⟨a,b,hab⟩:=MG (l:=bV e (i:Int)) acv;have h1:=c3 a adl;have h2:=c3 b adl;rw[hab]at c5;have h3:=nt2 zo c5;simp only[aR]at h3;rw[zE zo,zE zo,zE zo,zE zo,zE zo,zE zo,Cg ho]at h3;simp at h3;obtain⟨va,vb⟩:=h3.2;have w1:=(F.typ a.toNat zo).2.2.2.2;have w2:=(F.typ b.toNat zo).2.2.2.2;refine⟨a.toNat,b.toNat,abv,So,So,?_,Dd va w1,Dd vb w2,h3.1.symm⟩;by_cases q:e[i].2=0;exact q;exact aaO
def Flat.sh_not(F:Flat e s ty x)(h:i<e.length)(ho:e[i].1=25):
 ∃a:Nat,bV e i=[(a:Int)]∧a<i∧e[i].2=0∧ty a=(1,0)∧ty i=(1,0):=by
 obtain⟨⟨c1,c2⟩,c3,c4,c5,c6⟩:=F.typ i h;have ha:aW e[i].1=1:=by unfold aW;rw[ho];rfl
 obtain⟨a,hab⟩:=len1' (l:=bV e (i:Int)) acv;have h1:=c3 a adl;rw[hab]at c5;have h3:=nt1 ho c5;simp only[aR]at h3;rw[zE zo,Cg ho]at h3;simp at h3;have w1:=(F.typ a.toNat zo).2.2.2.2;refine⟨a.toNat,abv,So,?_,Dd h3.2 w1,h3.1.symm⟩;by_cases q:e[i].2=0;exact q;exact aaO
def Flat.sh_cmp(F:Flat e s ty x)(h:i<e.length)(ho:19≤e[i].1∧e[i].1≤22):
 ∃a b:Nat,bV e i=[(a:Int),(b:Int)]∧a<i∧b<i∧e[i].2=0∧ty a=ty b∧(21≤e[i].1→2≤(ty a).1∧(ty a).1≤5)∧ty i=(1,0):=by
 obtain⟨⟨c1,c2⟩,c3,c4,c5,c6⟩:=F.typ i h;have ha:aW e[i].1=2:=by have:e[i].1=19∨e[i].1=20∨e[i].1=21∨e[i].1=22:=So;unfold aW;rcases this with q|q|q|q<;>rw[q]<;>rfl
 obtain⟨a,b,hab⟩:=MG (l:=bV e (i:Int)) acv;have h1:=c3 a adl;have h2:=c3 b adl;rw[hab]at c5;have h3:=nt2 zo c5;have hz:e[i].2=0:=by by_cases q:e[i].2=0;exact q;exact aaO
 simp only[aR,zr,Fx]at h3;rw[zE zo,zE zo,zE zo,zE zo]at h3;by_cases q:e[i].1=19∨e[i].1=20;rw[Cg q]at h3;simp at h3;exact⟨a.toNat,b.toNat,abv,So,So,hz,h3.2,fun z=>So,h3.1.symm⟩;rw[zE q,Cg zo]at h3;simp at h3;exact⟨a.toNat,b.toNat,abv,So,So,hz,h3.2.1,fun z=>by have:=h3.2.2;simp[eT]at this;omega,h3.1.symm⟩
def Flat.sh_leaf(F:Flat e s ty x)(h:i<e.length)(ho:1≤e[i].1∧e[i].1≤7):
 bV e i=[]∧(e[i].1=7→0≤e[i].2∧e[i].2<x.length∧∃hx:e[i].2.toNat<s.2.2.1.length,ty i=s.2.2.1[e[i].2.toNat])∧(iI e[i] x).1=(ty i).1∧(iI e[i] x).2.1=(ty i).2∧da (iI e[i] x)=true∧(e[i].1=6→0≤e[i].2)∧(e[i].1≠7→(ty i).1=e[i].1):=by
 obtain⟨⟨c1,c2⟩,c3,c4,c5,c6⟩:=F.typ i h;have ha:aW e[i].1=0:=by have:e[i].1=1∨e[i].1=2∨e[i].1=3∨e[i].1=4∨e[i].1=5∨e[i].1=6∨e[i].1=7:=So;unfold aW;rcases this with q|q|q|q|q|q|q<;>rw[q]<;>rfl
 have hops:bV e (i:Int)=[]:=jC.1 acv;rw[hops]at c5;refine⟨hops,?_⟩;unfold cn at c5;by_cases q7:e[i].1=7;rw[zE zo,zE zo,Cg q7]at c5;unfold dS at c5;split at c5;simp at c5;split at c5;simp at c5;rename_i g1 g2;simp at c5;have hx:e[i].2.toNat<s.2.2.1.length:=So;have hx2:e[i].2.toNat<x.length:=by rw[F.xl];exact hx
 obtain⟨v1,v2,v3,_⟩:=F.xv _ hx2 hx;have e1:iI e[i] x=x[e[i].2.toNat]:=by unfold iI;rw[Cg q7,zy,RY hx2];rfl
 have e2:ty i=s.2.2.1[e[i].2.toNat]:=by rw[←c5,Cq hx]
 rw[e1,e2];exact⟨fun _=>⟨So,by rw[F.xl];omega,hx,rfl⟩,v1,v2,v3,fun z=>So,fun z=>absurd q7 z⟩;by_cases q6:e[i].1=6;rw[zE zo,Cg q6]at c5;unfold ke at c5;split at c5;simp at c5;split at c5;simp at c5;rename_i g1 g2;simp at c5;have e1:iI e[i] x=(6,e[i].2/16,e[i].2%16):=by unfold iI;rw[zE q7,Cg q6]
 rw[e1,←c5];have:=F.en.1;refine⟨fun z=>absurd z q7,Z,Z,?_,fun _=>So,fun _=>q6.symm⟩;simp[da,jL];omega;rw[Cg zo]at c5;unfold fS at c5;split at c5;simp at c5;rename_i g1;simp at c5;have e1:iI e[i] x=(e[i].1,0,e[i].2):=by unfold iI;rw[zE q7,zE q6]
 rw[e1,←c5];refine⟨fun z=>absurd z q7,Z,Z,?_,fun z=>absurd z q6,fun _=>Z⟩;have hb:cg (e[i].1,0) s.1=jL e[i].1:=by unfold cg jL;rw[zE (by simp[aP];omega)];(repeat' split)<;>first|rfl|omega
 rw[hb]at g1;simp only[da,zE q6];simp;omega
end
section
def Cw(hs:l.Pairwise (· < ·))(h:m9 l a=m9 l b)(hc:c∈l):c≤a↔c≤b:=by
 obtain⟨j,hj,rfl⟩:=LW hc;unfold m9 at h;have hle:∀K (hK:K<l.length),j≤K→l[j]≤l[K]:=fun K hK q=>by rcases Qa j K with r|r;exact Int.le_of_lt (Nb.1 hs j K hj hK r);obtain rfl:j=K:=So;exact Int.le_refl _
 rcases vS (l:=l) (n:=a) l.length (Kl _)with⟨h1,h2⟩|⟨K,hK,_,h1,h2,h3⟩<;>
 rcases vS (l:=l) (n:=b) l.length (Kl _)with⟨g1,g2⟩|⟨M,hM,_,g1,g2,g3⟩;have:=h2 j hj hj;have:=g2 j hj hj;omega;rw[h1,g1]at h;omega;rw[h1,g1]at h;omega;rw[h1,g1]at h;obtain rfl:K=M:=So;by_cases q:j≤K;have:=hle K hK q;omega;have:=h3 j hj zo hj;have:=g3 j hj zo hj;omega
def aeM(lo:Int)(k:Nat):(rng lo k).Pairwise (· < ·):=by unfold rng;rw[List.pairwise_map];exact List.Pairwise.imp (fun h=>So) (List.pairwise_lt_range)
def Hv{lo z:Int}(h0:lo≤z)(h1:z<lo+k):z∈rng lo k:=by unfold rng;rw[Nr];exact⟨(z-lo).toNat,QE,So⟩
def qY(t:ce)(en:List dN)(cuts:List Int):(qF t en cuts).Pairwise (· < ·):=by unfold qF;split;exact List.Pairwise.nil;split;exact aeM _ _;exact(kP _).1
def aeN(hv:aP t en=true)(hk:t.1=1∨t.1=6)(ha:(cg t en).1≤a∧a≤(cg t en).2)(hb:(cg t en).1≤b∧b≤(cg t en).2)
 (h:m9 (qF t en cuts) a=m9 (qF t en cuts) b):a=b:=by
 have e:qF t en cuts=rng (cg t en).1 ((cg t en).2-(cg t en).1+1).toNat:=by unfold qF;rw[zE (by rw[hv];simp),Cg hk]
 have h1:=Cw (qY t en cuts) h (c:=a) (by rw[e];exact Hv ha.1 zo);have h2:=Cw (qY t en cuts) h (c:=b) (by rw[e];exact Hv hb.1 zo);omega
def aeO(hv:aP t en=true)(hk:¬(t.1=1∨t.1=6))(ha:(cg t en).1≤a∧a≤(cg t en).2)(hb:(cg t en).1≤b∧b≤(cg t en).2)
 (h:m9 (qF t en cuts) a=m9 (qF t en cuts) b) (hc:c∈cuts):c≤a↔c≤b:=by
 have e:qF t en cuts=dX ([(cg t en).1]++cuts.filter (inR (cg t en).1 (cg t en).2)):=by unfold qF;rw[zE (by rw[hv];simp),zE hk]
 by_cases q:(cg t en).1≤c∧c≤(cg t en).2;refine Cw (qY t en cuts) h ?_;rw[e,(kP _).2];exact List.mem_append_right _ (Sq.2 ⟨hc,by simp[inR,q.1,q.2]⟩);omega
def BI{e:List aF}{inp z:Int}{i:Nat}:∀{k:Nat},i<k→z∈Ab e inp i→z∈Fl e inp k
 | k+1,h,hz=>by rw[Fl,Nx];by_cases q:i<k;exact .inl (BI q hz);obtain rfl:i=k:=So;exact .inr hz
variable{y:List aN}
def Mg(h:i<e.length):nd e (i:Int)=e[i]:=by unfold nd;rw[K4,zy,RY h];rfl
def wa{a b:Nat}(h:i<e.length)(ho:e[i].1=23∨e[i].1=24)(hops:bV e i=[(a:Int),(b:Int)]):E6 e x (n+1) i=H3 e[i].1 (E6 e x n a) (E6 e x n b):=by rw[E6,Mg h,Cg ho,hops];rfl
def tW(h:i<e.length)(ho:¬(e[i].1=23∨e[i].1=24)):E6 e x (n+1) i=Dg e[i] ((bV e i).map (E6 e x n)) x:=by rw[E6,Mg h,zE ho]
def lp(h:i<e.length)(ho:1≤e[i].1∧e[i].1≤7)(hops:bV e i=[])(hn:i<n):E6 e x n i=iI e[i] x:=by obtain⟨m,rfl⟩:∃m,n=m+1:=⟨n-1,So⟩;rw[tW h zo,hops];rfl
def Flat.val(F:Flat e s ty x):∀(n i:Nat),i<n→∀(h:i<e.length),(E6 e x n i).1=(ty i).1∧(E6 e x n i).2.1=(ty i).2∧da (E6 e x n i)=true
 | n+1,i,hi,h=>by rcases E7 h (F.flat i h)with ho|ho|ho|ho|⟨ho,_⟩;obtain⟨hops,_,v1,v2,v3,_⟩:=F.sh_leaf h ho;rw[lp h ho hops hi];exact⟨v1,v2,v3⟩;obtain⟨a,b,hops,ha,hb,_,ta,tb,ti⟩:=F.sh_and h (.inl ho);rw[wa h (.inl ho) hops,ti];exact Wt;obtain⟨a,b,hops,ha,hb,_,ta,tb,ti⟩:=F.sh_and h (.inr ho);rw[wa h (.inr ho) hops,ti];exact Wt;obtain⟨a,hops,ha,_,ta,ti⟩:=F.sh_not h ho;rw[tW h zo,hops,ti];exact⟨Z,Z,wD _⟩;obtain⟨a,b,hops,ha,hb,_,_,_,ti⟩:=F.sh_cmp h ho;rw[tW h zo,hops,ti];exact⟨Z,Z,wD _⟩
def HZ(h:¬d.1=7):iI d y=iI d x:=by unfold iI;rw[zE h,zE h]
def sb(h:d.1=7)(hx:d.2.toNat<x.length):iI d x=x[d.2.toNat]:=by unfold iI;rw[Cg h,zy,RY hx];rfl
def Cells(e:List aF)(s:bG)(x y:List aN):Prop:=
 ∀i (h1:i<x.length) (h2:i<y.length) (h3:i<s.2.2.1.length),m9 (qF s.2.2.1[i] s.1 (dX (gK [e] (i:Int) 1))) x[i].2.2=m9 (qF s.2.2.1[i] s.1 (dX (gK [e] (i:Int) 1))) y[i].2.2
def Flat.inpv(F:Flat e s ty x)(h:i<x.length)(h2:i<s.2.2.1.length):(cg s.2.2.1[i] s.1).1≤x[i].2.2∧x[i].2.2≤(cg s.2.2.1[i] s.1).2:=(F.xv i h h2).2.2.2
def Flat.same(F:Flat e s ty x)(G:Flat e s ty y)(C:Cells e s x y)(h1:j<x.length)(h2:j<y.length)(h3:j<s.2.2.1.length)(hv:aP s.2.2.1[j] s.1=true)(hk:(s.2.2.1[j]).1=1∨(s.2.2.1[j]).1=6):x[j]=y[j]:=by obtain⟨a1,a2,_⟩:=F.xv j h1 h3;obtain⟨b1,b2,_⟩:=G.xv j h2 h3;have:=aeN hv hk (F.inpv h1 h3) (G.inpv h2 h3) (C j h1 h2 h3);exact Prod.ext (by rw[a1,b1]) (Prod.ext (by rw[a2,b2]) this)
def Flat.cut(F:Flat e s ty x)(G:Flat e s ty y)(C:Cells e s x y)(h1:j<x.length)(h2:j<y.length)(h3:j<s.2.2.1.length)(hv:aP s.2.2.1[j] s.1=true)(hk:¬((s.2.2.1[j]).1=1∨(s.2.2.1[j]).1=6))(hi:i<e.length)(hc:c∈Ab e (j:Int) i):
 c≤x[j].2.2↔c≤y[j].2.2:=by refine aeO hv hk (F.inpv h1 h3) (G.inpv h2 h3) (C j h1 h2 h3) ?_;rw[(kP _).2,aeL (k:=0) Sp];exact List.mem_append_right _ (BI hi hc)
def Fr{op:Int}(ho:19≤op∧op≤22){a b l:aN}(h1:l.2.2≤a.2.2↔l.2.2≤b.2.2)(h2:l.2.2+1≤a.2.2↔l.2.2+1≤b.2.2):Ky op a l=Ky op b l∧Ky op l a=Ky op l b:=by unfold Ky;constructor<;>(congr 1;(repeat' split)<;>(rw[decide_eq_decide];omega))
def Flat.const(F:Flat e s ty x)(G:Flat e s ty y)(C:Cells e s x y):∀(n i:Nat),i<n→∀(h:i<e.length),ty i=(1,0)→E6 e x n i=E6 e y n i
 | n+1,i,hi,h,ht=>by
  have hxy:x.length=y.length:=by rw[F.xl,G.xl]
  rcases E7 h (F.flat i h)with ho|ho|ho|ho|⟨ho,hsm⟩;obtain⟨hops,h7,v1,v2,v3,v4,v5⟩:=F.sh_leaf h ho;rw[lp h ho hops hi,lp h ho hops hi];by_cases q:e[i].1=7;obtain⟨z0,z1,z2,z3⟩:=h7 q;have hx:e[i].2.toNat<x.length:=So;have hvt:=(F.typ i h).2.2.2.2;rw[sb q hx,sb q zo];exact F.same G C hx zo z2 (by rw[←z3];exact hvt) (.inl (by rw[←z3,ht]));unfold iI;rw[zE q,zE q];obtain⟨a,b,hops,ha,hb,_,ta,tb,ti⟩:=F.sh_and h (.inl ho);rw[wa h (.inl ho) hops,wa h (.inl ho) hops,F.const G C n a zo zo ta,F.const G C n b zo zo tb];obtain⟨a,b,hops,ha,hb,_,ta,tb,ti⟩:=F.sh_and h (.inr ho);rw[wa h (.inr ho) hops,wa h (.inr ho) hops,F.const G C n a zo zo ta,F.const G C n b zo zo tb];obtain⟨a,hops,ha,_,ta,ti⟩:=F.sh_not h ho;rw[tW h zo,tW h zo,hops];simp only[zr,Fx,Dg];rw[F.const G C n a zo zo ta];obtain⟨a,b,hops,ha,hb,_,tab,_,ti⟩:=F.sh_cmp h ho;rw[tW h zo,tW h zo,hops];simp only[zr,Fx,Dg];have hla:a<e.length:=So;have hlb:b<e.length:=So;have eA:GB e i=e[a]:=by unfold GB;rw[hops];simp[hla]
  have eB:Jw e i=e[b]:=by unfold Jw;rw[hops];simp[hlb]
  have hcmp:Su (e[i]?.getD (0,0)).1=true:=by rw[RY h];simp[Su];omega
  have hlen:¬(bV e i).length≠2:=by rw[hops];simp
  by_cases q1:e[a].1=7∧wM e[b].1=true;have hS:jO e i=(e[a].2,e[b],true):=by unfold jO;rw[zE hlen,eA,eB,Cg q1]
  have hlit:2≤e[b].1∧e[b].1≤6:=by simpa[wM]using q1.2
  obtain⟨opa,a7,_⟩:=F.sh_leaf hla zo;obtain⟨opb,_,b1,b2,b3,b4,b5⟩:=F.sh_leaf hlb zo;obtain⟨z0,z1,z2,z3⟩:=a7 q1.1;have hx:e[a].2.toNat<x.length:=So;have hvt:=(F.typ a hla).2.2.2.2;rw[z3]at hvt;have eb:E6 e x n b=iI e[b] x:=lp hlb zo opb zo;have eb':E6 e y n b=iI e[b] x:=by rw[lp hlb zo opb zo];exact HZ zo
  rw[lp hla zo opa zo,lp hla zo opa zo,sb q1.1 hx,sb q1.1 zo,eb,eb'];have hkb:(s.2.2.1[e[a].2.toNat]).1=e[b].1:=by rw[←z3,tab];exact b5 zo
  by_cases q6:e[b].1=6;rw[F.same G C hx zo z2 hvt (.inr (by rw[hkb];exact q6))];have hl:iI e[b] x=(e[b].1,0,e[b].2):=by unfold iI;rw[zE zo,zE q6]
  rw[hl]at b3⊢;have hmax:e[b].2<9223372036854775807:=by have:e[b].1=2∨e[b].1=3∨e[b].1=4∨e[b].1=5:=So;rcases this with q|q|q|q<;>simp[da,jL,q]at b3<;>omega
  have hcut:Ab e (e[a].2.toNat:Nat) i=[e[b].2,e[b].2+1]:=by exact Wr
  exact(Fr ho (F.cut G C hx zo z2 hvt acD h acC) (F.cut G C hx zo z2 hvt acD h acC)).1;have q2:e[b].1=7∧wM e[a].1=true:=by
   apply Classical.byContradiction;intro q;have:jO e i=(0,(0,0),false):=by unfold jO;rw[zE hlen,eA,eB,zE q1,zE q]
   rw[this]at hsm;cases hsm
  have hS:jO e i=(e[b].2,e[a],true):=by unfold jO;rw[zE hlen,eA,eB,zE q1,Cg q2]
  have hlit:2≤e[a].1∧e[a].1≤6:=by simpa[wM]using q2.2
  obtain⟨opb,b7,_⟩:=F.sh_leaf hlb zo;obtain⟨opa,_,b1,b2,b3,b4,b5⟩:=F.sh_leaf hla zo;obtain⟨z0,z1,z2,z3⟩:=b7 q2.1;have hx:e[b].2.toNat<x.length:=So;have hvt:=(F.typ b hlb).2.2.2.2;rw[z3]at hvt;have ea:E6 e x n a=iI e[a] x:=lp hla zo opa zo;have ea':E6 e y n a=iI e[a] x:=by rw[lp hla zo opa zo];exact HZ zo
  rw[lp hlb zo opb zo,lp hlb zo opb zo,sb q2.1 hx,sb q2.1 zo,ea,ea'];have hkb:(s.2.2.1[e[b].2.toNat]).1=e[a].1:=by rw[←z3,←tab];exact b5 zo
  by_cases q6:e[a].1=6;rw[F.same G C hx zo z2 hvt (.inr (by rw[hkb];exact q6))];have hl:iI e[a] x=(e[a].1,0,e[a].2):=by unfold iI;rw[zE zo,zE q6]
  rw[hl]at b3⊢;have hmax:e[a].2<9223372036854775807:=by have:e[a].1=2∨e[a].1=3∨e[a].1=4∨e[a].1=5:=So;rcases this with q|q|q|q<;>simp[da,jL,q]at b3<;>omega
  have hcut:Ab e (e[b].2.toNat:Nat) i=[e[a].2,e[a].2+1]:=by exact Wr
  exact(Fr ho (F.cut G C hx zo z2 hvt acD h acC) (F.cut G C hx zo z2 hvt acD h acC)).2
end
inductive Ap(d:aF)(x:List aN):List aN→Prop
 | leaf (ho:1≤d.1∧d.1≤7) (hI:d.1=7→0≤d.2∧d.2<(x.length:Int)) (hE:d.1=6→0≤d.2) (hp:da (iI d x)=true):Ap d x []
 | not (a:aN) (ho:d.1=25) (hk:a.1=1) (hp:da a=true):Ap d x [a]
 | cmp (a b:aN) (ho:19≤d.1∧d.1≤22) (hk:a.1=b.1∧a.2.1=b.2.1) (hn:21≤d.1→2≤a.1∧a.1≤5) (hp:da a=true) (hq:da b=true):Ap d x [a,b]
section
variable{args:List aN}
def Ap.op(h:Ap d x args):(1≤d.1∧d.1≤7)∨d.1=25∨(19≤d.1∧d.1≤22):=by cases h<;>omega
def Ap.pl(h:Ap d x args):args.length≤2∧∀v∈args,da v=true:=by
 cases h with
 | leaf ho hI hE hp=>simp
 | not a ho hk hp=>simpa using hp
 | cmp a b ho hk hn hp hq=>simp[hp,hq]
def Ap.one{a:aN}(h:Ap d x [a]):d.1=25∧a.1=1:=by
 cases h with
 | not a ho hk hp=>exact⟨ho,hk⟩
def Ap.n2(h:Ap d x args)(h7:¬d.1≤7):args.length=1∨args.length=2:=by
 cases h with
 | leaf ho hI hE hp=>omega
 | _=>simp
end
def nM(v:aN):Ct prog 207 [.tv aK v] (.raw (.bool (da v))):=by refine Yk func207 ntmps207 fun w0 ok0=>?_;refine Z19 ?_ ?_<;>intro h1;have h1:¬v.1=6∧¬v.2.1=0:=CY;refine Y7 ?_;exact z1 results207 Z (rb (by unfold da;rw[zE h1.1];simp[h1.2]));have h1:v.1=6∨v.2.1=0:=Classical.or_iff_not_imp_left.2 (fun c=>by simp[c]at h1;exact h1);refine PI ?_ ?_<;>intro h4;have h4:=eq_of_beq h4;refine J4 ?_;exact z1 results207 Z (rb (by have h1:=h1;rw[MZ];unfold da jL;rw[h4]at h1⊢;simp at h1⊢;try omega));have h4:=beq_eq_false_iff_ne.1 h4;refine Z6 ?_ ?_<;>intro h6;have h6:=eq_of_beq h6;refine J4 ?_;exact z1 results207 Z (rb (by have h1:=h1;rw[MZ];unfold da jL;rw[h6]at h1⊢;simp at h1⊢;try omega));have h6:=beq_eq_false_iff_ne.1 h6;refine Z6 ?_ ?_<;>intro h8;have h8:=eq_of_beq h8;refine J4 ?_;exact z1 results207 Z (rb (by have h1:=h1;rw[MZ];unfold da jL;rw[h8]at h1⊢;simp at h1⊢;try omega));have h8:=beq_eq_false_iff_ne.1 h8;refine Z6 ?_ ?_<;>intro h10;have h10:=eq_of_beq h10;refine J4 ?_;exact z1 results207 Z (rb (by have h1:=h1;rw[MZ];unfold da jL;rw[h10]at h1⊢;simp at h1⊢;try omega));have h10:=beq_eq_false_iff_ne.1 h10;refine Z6 ?_ ?_<;>intro h12;have h12:=eq_of_beq h12;refine J4 ?_;exact z1 results207 Z (rb (by have h1:=h1;rw[MZ];unfold da jL;rw[h12]at h1⊢;simp at h1⊢;try omega));have h12:=beq_eq_false_iff_ne.1 h12;refine Z6 ?_ ?_<;>intro h14;have h14:=eq_of_beq h14;refine KO ?_;refine zQ [2] [] (aa (am (ax (al ?_))));exact z1 results207 Z (rb (by have h1:=h1;rw[MZ];unfold da jL;rw[h14]at h1⊢;simp at h1⊢;try omega));have h14:=beq_eq_false_iff_ne.1 h14;refine Y9 ?_;exact z1 results207 Z (rb (by rw[MZ];unfold da jL;rw[zE h4,zE h6,zE h8,zE h10,zE h12,zE h14];simp;omega))
def nw(b:Bool):Ct prog 256 [.raw (.bool b)] (.tv aK (ny b)):=by refine Yk func256 ntmps256 fun w0 ok0=>?_;refine Jf ?_ ?_<;>intro h1;subst h1;refine zR (zJ (aC Qg Z eq (.cons (rt':=(ay .i64)) Z bU (.raw (.b Z) Z) (.cons (rt':=(ay .i64)) Z bj (.raw (.b Z) Z) .nil))) (Y5 ?_));exact Zd;subst h1;refine ak (aa (zR (zJ (aC Qg Z eq (.cons (rt':=(ay .i64)) Z bU (.raw (.b Z) Z) .nil)) (Y4 ?_))));exact Zd
def mz(k:Int):Ct prog 252 [Sx k] (.raw (.bool (eT k))):=by refine Yk func252 ntmps252 fun w0 ok0=>?_;refine KO ?_;exact z1 results252 Z (rb (by unfold eT;rw[MZ];simp;try omega))
def jR(a b:aN):Ct prog 237 [.tv aK a,.tv aK b] (.raw (.bool (decide (a.1=b.1)&&decide (a.2.1=b.2.1)))):=by refine Yk func237 ntmps237 fun w0 ok0=>?_;refine Y25 ?_;exact z1 results237 Z (rb (by rw[MZ];simp))
def gI(a b:aN):Bool:=decide (a.1=b.1)&&decide (a.2.1=b.2.1)
def GD:aN:=(0,0,0)
def Fm:bS:=([],(0,0),(0,0),[])
def gF(d:aF):Bool:=
 if aW d.1<0∨(¬d.2=0∧fd d.1=false)then false else if d.1=14∨d.1=15∨d.1=16 then decide (0≤d.2∧d.2≤5)else if d.1=34 then decide (0≤d.2∧d.2%8≤5)else if d.1=6 then decide (0≤d.2)else true
def dH(d:aF)(env:cP):Bool:=
 if d.1=7 then decide (0≤d.2∧d.2<(env.2.1.length:Int))else if d.1=8 then decide (0≤d.2∧d.2<(env.2.2.1.length:Int))&&decide (¬(env.2.2.1[d.2.toNat]?.getD GD).1=0)
 else if d.1=33 then decide (0≤d.2∧d.2<(env.2.2.2.2.2.length:Int))else if d.1=34 then decide (d.2/8<(env.2.2.2.2.2.length:Int))
 else if 36≤d.1∧d.1≤39 then decide (0≤d.2∧d.2<(env.2.2.2.2.1.length:Int))else true
def Bl(op:Int)(t:ce):Bool:=if ¬t.2=0 then false else if op=36 then decide (t.1=2∨t.1=3)else if op=39 then eT t.1||decide (t.1=5)else decide (t.1=1)
def Je(op k:Int):Bool:=if op=10 then eT k else if op=25 then decide (k=1)else decide (k=5)
def kg(op:Int)(a b:aN):Bool:=
 if op=11∨op=12 then gI a b&&eT a.1 else if op=13 then decide (b.1=2∧(a.1=2∨a.1=3))else if op=14 then decide (b.1=4∧(a.1=3∨a.1=4))
 else if op=15 then(if b.1=2 then decide (a.1=2∨a.1=3)else decide (a.1=3∧b.1=3))else if op=16 then decide (a.1=3∧b.1=3)
 else if op=17∨op=18∨op=21∨op=22 then gI a b&&(eT a.1||decide (a.1=5))else if op=19∨op=20 then gI a b
 else if op=23∨op=24 then decide (a.1=1∧b.1=1)else if op=27∨op=28 then decide (a.1=5∧b.1=2)else decide (a.1=5∧b.1=5)
def uO(v:aN)(t:ce):Bool:=da v&&(decide (v.1=t.1)&&decide (v.2.1=t.2))
def aeP(d:aF):Ct prog 202 [.tv aZ d] (.raw (.bool (gF d))):=by
 refine Yk func202 ntmps202 fun w0 ok0=>?_;refine dy ?_;refine YK (kj _) ?_;refine Y5 ?_;refine zG Z Z (fun hg=>ai (.gd Z hg)) ?_;refine Y2 ?_;refine cf _ _ _ _ _ _ _ Z Z Z Z Z (fun hg=>an (Dt _) (.cons (.gd Z hg) .nil) Z Z) ?_;refine Z5 ?_ ?_<;>intro h1;have h1:aW d.1<0∨(¬d.2=0∧fd d.1=false):=LF;refine Y7 ?_;exact z1 results202 Z (rb (by unfold gF;rw[Cg h1]));have h1:¬(aW d.1<0∨(¬d.2=0∧fd d.1=false)):=by intro q;rcases q with q|⟨q1,q2⟩<;>simp_all
 refine O0 ?_ ?_<;>intro h4;have g4:=h4;have h4:d.1=14:=Yo;refine ak (aa ?_);refine bR Z g4 (ac ?_);exact Um;have g4:=h4;have h4:¬d.1=14:=Yo;refine Z6 ?_ ?_<;>intro h5;have g5:=h5;have h5:d.1=15:=E3;refine ak (aa ?_);refine bR Z g5 (ac ?_);exact Um;have g5:=h5;have h5:¬d.1=15:=E3;refine Z5 ?_ ?_<;>intro h6;have g6:=h6;have h6:d.1=16:=O3;refine J4 ?_;exact UC;have g6:=h6;have h6:¬d.1=16:=O3;refine Z6 ?_ ?_<;>intro h8;have h8:d.1=34:=Qb;refine Y8 ?_;refine zG Z Z (fun hg=>gc (.gd Z hg) (.b Z) zo (tk (by simpa using hg))) (Y8 ?_);exact UC;have h8:¬d.1=34:=Qb;refine Z6 ?_ ?_<;>intro h10;have h10:d.1=6:=Qk;refine dy ?_;exact UC;have h10:¬d.1=6:=Qk;refine Y9 ?_;exact UC
def acA(d:aF)(env:cP)(h34:d.1=34→0≤d.2)(hN:-9223372036854775808≤d.2∧d.2≤9223372036854775807):Ct prog 203 [.tv aZ d,.tv gD env] (.raw (.bool (dH d env))):=by refine Yk func203 ntmps203 fun w0 ok0=>?_;refine rZ ?_ ?_<;>intro h2;have h2:d.1=7:=J3;exact Uo;have h2:¬d.1=7:=J3;refine Z6 ?_ ?_<;>intro h4;have h4:d.1=8:=Yo;refine Ki ?_;refine zG rfl rfl (fun hg=>av eV aM (.gd rfl hg) (.gd rfl hg) (show d.2=((d.2.toNat:Nat):Int)by simp at hg;omega) (getD_some (z:=((0,(0,0)):aN)) YS)) (Qh ?_);exact z1 results203 Z (rb (by unfold dH;rw[zE h2,Cg h4,MZ];simp only[YC,Ek,bne_iff_ne,ge_iff_le,ne_eq,and_assoc];exact Iff.rfl));have h4:¬d.1=8:=Yo;refine Z6 ?_ ?_<;>intro h6;have h6:d.1=33:=O3;exact Uo;have h6:¬d.1=33:=O3;refine Z6 ?_ ?_<;>intro h8;have h8:d.1=34:=Qb;refine Y4 ?_;refine zJ (i9 (.b Z) (.b Z) zo (qG (h34 h8) (hN.2) zo)) (Qh ?_);exact UD;have h8:¬d.1=34:=Qb;refine Z7 ?_ ?_<;>intro h10;have g10:=h10;have h10:d.1=36:=Qk;refine ak (aa ?_);refine bR Z g10 (ac ?_);exact Un;have g10:=h10;have h10:¬d.1=36:=Qk;refine Z6 ?_ ?_<;>intro h11;have g11:=h11;have h11:d.1=37:=NW;refine ak (aa ?_);refine bR Z g11 (ac ?_);exact Un;have g11:=h11;have h11:¬d.1=37:=NW;refine Z6 ?_ ?_<;>intro h12;have g12:=h12;have h12:d.1=38:=P9;refine ak (aa ?_);refine bR Z g12 (ac ?_);refine MY ?_;refine zQ [4] [] (aa (am (ax (al ?_))));exact UD;have g12:=h12;have h12:¬d.1=38:=P9;refine Z5 ?_ ?_<;>intro h13;have g13:=h13;have h13:d.1=39:=NE;exact Uo;have g13:=h13;have h13:¬d.1=39:=NE;refine Y9 ?_;exact UD
def uB(op:Int)(t:ce):Ct prog 234 [Sx op,.tv bt t] (.raw (.bool (Bl op t))):=by refine Yk func234 ntmps234 fun w0 ok0=>?_;refine Po ?_ ?_<;>intro h1;have h1:¬t.2=0:=LF;refine Y7 ?_;exact UE;have h1:t.2=0:=LF;refine Ks ?_ ?_<;>intro h4;have h4:op=36:=Yo;refine J4 ?_;exact UE;have h4:¬op=36:=Yo;refine Z6 ?_ ?_<;>intro h6;have h6:op=39:=O3;refine Y4 ?_;refine YK (mz _) ?_;refine dy ?_;exact UE;have h6:¬op=39:=O3;refine zb ?_;exact UE
def acW(op k:Int):Ct prog 235 [Sx op,Sx k] (.raw (.bool (Je op k))):=by refine Yk func235 ntmps235 fun w0 ok0=>?_;refine Z18 ?_ ?_<;>intro h2;have h2:op=10:=J3;refine zR (zM Z (YK (mz _) ?_));refine Y6 ?_;exact UF;have h2:¬op=10:=J3;refine Z6 ?_ ?_<;>intro h4;have h4:op=25:=Yo;refine Qh ?_;exact UF;have h4:¬op=25:=Yo;refine dy ?_;exact UF
def acY(op:Int)(a b:aN):Ct prog 236 [Sx op,.tv aK a,.tv aK b] (.raw (.bool (kg op a b))):=by
 refine Yk func236 ntmps236 fun w0 ok0=>?_;refine rZ ?_ ?_<;>intro h2;have g2:=h2;have h2:op=11:=J3;refine ak (aa ?_);refine bR Z g2 (ac ?_);refine Y3 ?_;exact TH;have g2:=h2;have h2:¬op=11:=J3;refine Z5 ?_ ?_<;>intro h3;have g3:=h3;have h3:op=12:=Av;refine Y4 ?_;exact TH;have g3:=h3;have h3:¬op=12:=Av;refine Z6 ?_ ?_<;>intro h5;have h5:op=13:=E3;exact TN;have h5:¬op=13:=E3;refine Z6 ?_ ?_<;>intro h7;have h7:op=14:=fQ;exact TN;have h7:¬op=14:=fQ;refine Z6 ?_ ?_<;>intro h9;have h9:op=15:=Qz;refine Z8 ?_ ?_<;>intro h10;have h10:b.1=2:=Qk;exact Uf;have h10:¬b.1=2:=Qk;refine Ki ?_;exact Ul;have h9:¬op=15:=Qz;refine Z6 ?_ ?_<;>intro h13;have h13:op=16:=NE;exact TX;have h13:¬op=16:=NE;refine Z7 ?_ ?_<;>intro h15;have g15:=h15;have h15:op=17:=LQ;refine ak (aa ?_);refine bR Z g15 (ac ?_);exact Tv;have g15:=h15;have h15:¬op=17:=LQ;refine Z6 ?_ ?_<;>intro h16;have g16:=h16;have h16:op=18:=M9;refine ak (aa ?_);refine bR Z g16 (ac ?_);exact Tv;have g16:=h16;have h16:¬op=18:=M9;refine Z6 ?_ ?_<;>intro h17;have g17:=h17;have h17:op=21:=Gt;refine ak (aa ?_);refine bR Z g17 (ac ?_);exact Tv;have g17:=h17;have h17:¬op=21:=Gt;refine Z5 ?_ ?_<;>intro h18;have g18:=h18;have h18:op=22:=E2;refine Y4 ?_;refine YK (jR _ _) ?_;refine Y3 ?_;refine zG Z Z (fun hg=>an (mz _) (.cons (.gd Z hg) .nil) Z Z) (zG Z Z (fun hg=>ai (.gd Z hg)) ?_);refine dy ?_;exact Ul;have g18:=h18;have h18:¬op=22:=E2;refine Z7 ?_ ?_<;>intro h20;have g20:=h20;have h20:op=19:=LE;refine ak (aa ?_);refine bR Z g20 (ac ?_);refine Y3 ?_;exact T6;have g20:=h20;have h20:¬op=19:=LE;refine Z5 ?_ ?_<;>intro h21;have g21:=h21;have h21:op=20:=QX;refine Y4 ?_;exact T6;have g21:=h21;have h21:¬op=20:=QX;refine Z7 ?_ ?_<;>intro h23;have g23:=h23;have h23:op=23:=JD;refine ak (aa ?_);refine bR Z g23 (ac ?_);exact Ue;have g23:=h23;have h23:¬op=23:=JD;refine Z5 ?_ ?_<;>intro h24;have g24:=h24;have h24:op=24:=ab7;exact TX;have g24:=h24;have h24:¬op=24:=ab7;refine Z7 ?_ ?_<;>intro h26;have g26:=h26;have h26:op=27:=by simpa using h26
 refine ak (aa ?_);refine bR Z g26 (ac ?_);exact Ue;have g26:=h26;have h26:¬op=27:=by simpa using h26
 refine Z5 ?_ ?_<;>intro h27;have g27:=h27;have h27:op=28:=Eu;refine J4 ?_;exact Ul;have g27:=h27;have h27:¬op=28:=Eu;exact Uf
def EZ(v:aN)(t:ce):Ct prog 233 [.tv aK v,.tv bt t] (.raw (.bool (uO v t))):=by refine Yk func233 ntmps233 fun w0 ok0=>?_;refine Qh ?_;refine YK (nM _) ?_;refine Ki ?_;exact z1 results233 Z (rb (by unfold uO;rw[MZ];simp[and_assoc]))
def Y21(l:List aN)(hl:l.length≤1000000):Ct prog 204 [.tv (ag aK) l] (.raw (.bool (l.all da))):=by refine Yk func204 ntmps204 fun w0 ok0=>?_;refine Lc ?_;refine bf (ι:=Nat) (fun k=>⟨[(5,.tv (ag aK) l),(6,Sx l.length),(7,Sx ((k:Nat)))],[]⟩) (fun k=>k≤l.length∧l.all da=(l.drop k).all da) (fun k=>l.length-k) 0 (⟨P8 _,Z⟩) (fun a w hi=>(zI hi)) ?_;rintro k ⟨hk,ha⟩;refine Z6 ?_ ?_<;>intro h2;have h2:k<l.length:=J3;have hd:=qv h2;refine Qy ?_;refine YK (nM _) ?_;refine Z3 ?_ ?_<;>intro h4;have h4:da l[k]=false:=Yo;refine Y8 ?_;refine b8 (ax (al ?_));exact V2;have h4:da l[k]=true:=Yo;refine Y7 ?_;exact aE (fun a w hi=>⟨k+1,zj,(⟨So,by rw[ha,hd];simp only[LO,h4,Bool.true_and]⟩),(zI hi)⟩);have h2:¬k<l.length:=J3;refine dy ?_;exact V2
def wK(y:Int):Int:=y/4-y/100+y/400
def BZ(y:Int):Int:=(y-1900)*365+wK (y-1)-wK 1899
def EA(y:Int):Bool:=decide (y%4=0)&&(decide (¬y%100=0)||decide (y%400=0))
def Mj(m:Int):Int:=if m=4∨m=6∨m=9∨m=11 then 30 else if m=2 then 28 else 31
def qN(y m:Int):Int:=if m<1∨12<m then 0 else if m=2∧EA y=true then 29 else Mj m
def C6(y:Int):Nat→Int
 | 0=>0
 | k+1=>C6 y k+qN y ((k:Int)+1)
def rE(d:Int):Bool:=decide (0≤d)&&decide (d≤109572)
def Do(y m d:Int):Prop:=y<1900∨2199<y∨m<1∨12<m∨d<1∨qN y m<d
instance(y m d:Int):Decidable (Do y m d):=by unfold Do;infer_instance
def KX(y m d:Int):Int×Int:=if Do y m d then(0,3)else(BZ y+C6 y (m-1).toNat+d-1,0)
def Hb(d:Int):Nat→Int→Int
 | 0,y=>y
 | k+1,y=>if BZ (y+1)≤d then Hb d k (y+1)else y
def Eh(y:Int):Nat→Int→Int→Int×Int×Int
 | 0,_,_=>(0,0,0)
 | k+1,i,r=>if r<qN y (i+1)then(y,i+1,r+1)else Eh y k (i+1) (r-qN y (i+1))
def gz(d:Int):Int×Int×Int:=if rE d=true then Eh (Hb d 400 (1900+d/366)) 12 0 (d-BZ (Hb d 400 (1900+d/366)))else(0,0,0)
def z60(m:Int):28≤Mj m∧Mj m≤31:=by unfold Mj;split<;>(try split)<;>omega
def vk(y m:Int):0≤qN y m∧qN y m≤31:=by have:=z60 m;unfold qN;split<;>(try split)<;>omega
def IG(y:Int):∀k:Nat,0≤C6 y k∧C6 y k≤31*k
 | 0=>by simp[C6]
 | k+1=>by have:=IG y k;have:=vk y ((k:Int)+1);simp only[C6];omega
def KV(h:1900≤y∧y≤2300):0≤BZ y∧BZ y≤146200:=by unfold BZ wK;omega
def KT{d:Int}(h:0≤d∧d≤109572):BZ (1900+d/366)≤d:=by unfold BZ wK;omega
def KU{d:Int}(h:d≤109572)(h2:1900≤y)(h3:BZ (y+1)≤d):y+1≤2199:=by unfold BZ wK at h3;omega
def KW{d:Int}(h:0≤d∧d≤109572):∀(k:Nat) (y:Int),1900≤y→y≤2199→BZ y≤d→1900≤Hb d k y∧Hb d k y≤2199∧BZ (Hb d k y)≤d
 | 0,y,h1,h2,h3=>⟨h1,h2,h3⟩
 | k+1,y,h1,h2,h3=>by unfold Hb;split;rename_i c;exact KW h k (y+1) zo (KU h.2 h1 c) c;exact⟨h1,h2,h3⟩
def Mq{y:Int}(h:0≤y∧y≤2199):∀(k:Nat) (i r:Int),0≤i→i+k≤12→(0≤(Eh y k i r).1∧(Eh y k i r).1≤2199)∧(0≤(Eh y k i r).2.1∧(Eh y k i r).2.1≤12)
 | 0,i,r,_,_=>by simp[Eh]
 | k+1,i,r,h1,h2=>by unfold Eh;split;simp only[];omega;exact Mq h k (i+1) _ zo zo
def x7(d:Int):(0≤(gz d).1∧(gz d).1≤2199)∧(0≤(gz d).2.1∧(gz d).2.1≤12):=by
 unfold gz;split;rename_i h;have h:0≤d∧d≤109572:=by simpa[rE]using h
 have:=KW h 400 (1900+d/366) zo zo (KT h);exact Mq ⟨So,this.2.1⟩ 12 0 _ zo zo;simp
def pI(d k:Int):Int:=((gz d).1-1900)*12+(gz d).2.1-1+k
def mZ(d k:Int):Int×Int:=
 if rE d=false∨k < -3600∨3600<k then(0,3)else if pI d k<0∨3599<pI d k then(0,3)
 else KX (1900+pI d k/12) (pI d k%12+1) (min (gz d).2.2 (qN (1900+pI d k/12) (pI d k%12+1)))
def FE(a b:Int):Int:=
 if rE a=false∨rE b=false∨b<a then 0 else
 max (if(mZ a (12*((gz b).1-(gz a).1))).2≠0∨b<(mZ a (12*((gz b).1-(gz a).1))).1 then(gz b).1-(gz a).1-1 else(gz b).1-(gz a).1) 0
def z70{m:Int}(h:1≤m∧m≤12):(#[Value.int .i64 31,.int .i64 28,.int .i64 31,.int .i64 30,.int .i64 31,.int .i64 30,.int .i64 31,.int .i64 31,.int .i64 30,.int .i64 31,.int .i64 30,.int .i64 31])[(m-1).toNat]?=some (.int .i64 (Mj m)):=by have:m=1∨m=2∨m=3∨m=4∨m=5∨m=6∨m=7∨m=8∨m=9∨m=10∨m=11∨m=12:=So;rcases this with q|q|q|q|q|q|q|q|q|q|q|q<;>subst q<;>rfl
def xF(d:Int):Ct prog 268 [Sx d] (.raw (.bool (rE d))):=by refine Yk func268 ntmps268 fun w0 ok0=>?_;refine pA ?_;exact z1 results268 Z (rb (by simp[rE]))
def Ez(y:Int)(h:0≤y∧y≤3000):Ct prog 287 [Sx y] (Sx (wK y)):=by refine Yk func287 ntmps287 fun w0 ok0=>?_;refine Y8 ?_;refine zJ (i9 (.b Z) (.b Z) zo (qG h.1 zo zo)) (zM Z (zJ (i9 (.b Z) (.b Z) zo (qG h.1 zo zo)) (Y2 ?_)));refine zJ (i9 (.b Z) (.b Z) zo (qG h.1 zo zo)) (Y5 ?_);exact z1 results287 Z (Z)
def FD(y:Int)(h:1900≤y∧y≤2300):Ct prog 269 [Sx y] (Sx (BZ y)):=by refine Yk func269 ntmps269 fun w0 ok0=>?_;refine zb ?_;refine zJ (an (Ez _ zo) (.cons (.b Z) .nil) Z Z) (zU Z Z (N2 (by unfold wK;omega)) (zJ (an (Ez _ zo) (.cons (.b rfl) .nil) rfl rfl) (zJ (cH (.b rfl) (.b rfl) (N2 (by unfold wK;omega))) (zY rfl (aa (am ?_))))));exact z1 results269 Z (Z)
def mdR(y:Int)(h:0≤y):Ct prog 288 [Sx y] (.raw (.bool (EA y))):=by refine Yk func288 ntmps288 fun w0 ok0=>?_;refine Y8 ?_;refine zJ (gc (.b Z) (.b Z) zo (tk h)) (Y3 ?_);refine zG Z Z (fun hg=>gc (.gd Z hg) (.b Z) zo (tk h)) (Y1 ?_);refine zG Z Z (fun hg=>ai (.gd Z hg)) ?_;refine Y1 ?_;refine cf _ _ _ _ _ _ _ Z Z Z Z Z (fun hg=>gc (.gd Z hg) (.b Z) zo (tk h)) ?_;refine Y7 ?_;exact z1 results288 Z (rb (by unfold EA;rw[MZ];simp))
def xG(y m:Int)(h:0≤y):Ct prog 270 [Sx y,Sx m] (Sx (qN y m)):=by refine Yk func270 ntmps270 fun w0 ok0=>?_;refine PI ?_ ?_<;>intro h1;have h1:m<1∨12<m:=LF;refine Y7 ?_;exact z1 results270 Z (ri (by unfold qN;rw[Cg h1]));have h1:¬(m<1∨12<m):=LF;refine Y9 ?_;refine zG Z Z (fun hg=>an (mdR _ h) (.cons (.gd Z hg) .nil) Z Z) (Z3 ?_ ?_)<;>intro h3;have h3:m=2∧EA y=true:=Av;refine Y7 ?_;exact z1 results270 Z (ri (by unfold qN;rw[zE h1,Cg h3]));have h3:¬(m=2∧EA y=true):=Av;refine Y6 ?_;refine zJ (adQ uT375 Sj ⟨Z,Z⟩ (.b Z) (.b Z) (show m-1=(((m-1).toNat:Nat):Int)by omega) zo (z70 zo)) (Y5 ?_);exact z1 results270 Z (ri (by unfold qN;rw[zE h1,zE h3]))
def frR(y m d:Int)(hy:0≤y)(hd:d≤9223372036854775807):Ct prog 276 [Sx y,Sx m,Sx d] (.tup2 (.raw (.int .i64 (KX y m d).1)) (.raw (.int .i64 (KX y m d).2))):=by
 refine Yk func276 ntmps276 fun w0 ok0=>?_;refine Y31 ?_;refine zG Z Z (fun hg=>an (xG _ _ hy) (.cons (.gd Z hg) (.cons (.gd Z hg) .nil)) Z Z) (Z4 ?_ ?_)<;>intro h1;have h1:Do y m d:=by unfold Do;simpa[or_assoc]using h1
 refine Y8 ?_;exact z2 results276 Z Z (by unfold KX;rw[Cg h1]);have h1:¬Do y m d:=by unfold Do;simpa[or_assoc,and_assoc]using h1
 refine Y3 ?_;have h2:=h1;unfold Do at h2;have hys:=KV (y:=y) zo;have hdm0:=vk y m;refine ab (zM Z (zJ (an (FD _ zo) (.cons (.b Z) .nil) Z Z) (zb ?_)));refine bf (ι:=Nat) (fun k=>⟨[(0,Sx y),(2,Sx d),(8,Sx (BZ y+C6 y k)),(38,Sx (m-1)),(39,Sx ((k:Nat)))],[]⟩) (fun k=>k≤(m-1).toNat) (fun k=>(m-1).toNat-k) 0 (P8 _) (fun a w hi=>(Sub.inv ⟨X2,YW⟩ hi)) ?_;rintro k hk;have hds:=IG y k;have hdm:=vk y ((k:Int)+1);refine Z6 ?_ ?_<;>intro h5;have h5:k<(m-1).toNat:=Ob;refine Qy ?_;refine YK (xG _ _ hy) ?_;refine Y9 ?_;exact aE (fun a w hi=>⟨k+1,zj,zo,(Sub.inv ⟨X2,YW⟩ hi)⟩);have h5:¬(k:Int)<m-1:=E3;obtain rfl:k=(m-1).toNat:=So;refine J4 ?_;exact z2 results276 Z Z (by unfold KX;rw[zE h1])
def svD2(p:Int×Int):SV:=.tup2 (Sx p.1) (Sx p.2)
def svD3(p:Int×Int×Int):SV:=.tup3 (Sx p.1) (Sx p.2.1) (Sx p.2.2)
def rR(h:p=(a,b)):SV.tup2 (Sx a) (Sx b)=svD2 p:=Mc
def B5{p:Int×Int×Int}(h:p=(a,b,c)):SV.tup3 (Sx a) (Sx b) (Sx c)=svD3 p:=Mc
def stp{d:Int}(h:¬BZ (y+1)≤d):Hb d k y=y:=by cases k<;>simp[Hb,h]
def yrI_in{d:Int}(h:BZ (y+1)≤d):Hb d (k+1) y=Hb d k (y+1):=by simp[Hb,h]
def mdI_in{i r:Int}(h:r<qN y (i+1)):Eh y (k+1) i r=(y,i+1,r+1):=by simp[Eh,h]
def aeQ{i r:Int}(h:¬r<qN y (i+1)):Eh y (k+1) i r=Eh y k (i+1) (r-qN y (i+1)):=by simp[Eh,h]
def aeR{d:Int}(h:rE d=true)(he:Hb d k y=Hb d 400 (1900+d/366))(ho:¬BZ (y+1)≤d):gz d=Eh y 12 0 (d-BZ y):=by rw[stp ho]at he;unfold gz;rw[Cg h,←he]
def ue(d:Int):Ct prog 257 [Sx d] (svD3 (gz d)):=by
 refine Yk func257 ntmps257 fun w0 ok0=>?_;refine dy ?_;refine YK (xF _) ?_;refine Z3 ?_ ?_<;>intro h1;have h1:¬rE d=true:=LF;refine Y9 ?_;exact db results257 (ar Z) (ar Z) (ar Z) ⟨Z,Z,Z⟩ (B5 (by unfold gz;rw[zE h1]));have h1:rE d=true:=LF;have hd:0≤d∧d≤109572:=by simpa[rE]using h1
 refine Y5 ?_;refine zJ (i9 (.b Z) (.b Z) zo (qG hd.1 zo zo)) (Y6 ?_);refine bf (ι:=Nat×Int) (fun(k,y)=>⟨[(0,Sx d),(5,Sx y)],[]⟩) (fun(k,y)=>(1900≤y∧y≤2199∧BZ y≤d∧y+k=2300+d/366)∧Hb d k y=Hb d 400 (1900+d/366)) (fun(k,y)=>k) (400,1900+d/366) (⟨⟨So,So,KT hd,So⟩,rfl⟩) (fun a w hi=>(zI hi)) ?_;rintro⟨k,y⟩⟨⟨hy1,hy2,hy3,hy4⟩,he⟩;have hys:=KV (y:=y) zo;refine Y5 ?_;refine zJ (an (FD _ zo) (.cons (.b Z) .nil) Z Z) (Z4 ?_ ?_)<;>intro h4;have h4:BZ (y+1)≤d:=Yo;refine Y9 ?_;exact aE (fun a w hi=>⟨(k-1,y+1),(by show k-1<k;omega),⟨⟨So,KU hd.2 hy1 h4,h4,So⟩,(yrI_in (k:=k-1) h4).symm.trans (by rw[show k-1+1=k by omega];exact he)⟩,(zI hi)⟩);have h4:¬BZ (y+1)≤d:=Yo;have hto:=aeR h1 he h4;refine Y9 ?_;refine zJ (an (FD _ zo) (.cons (.b Z) .nil) Z Z) (dy ?_);refine bf (ι:=Nat×Int) (fun(i,r)=>⟨[(5,Sx y),(6,Sx r),(26,Sx ((i:Nat)))],[]⟩) (fun(i,r)=>(i≤12∧0≤r∧r≤109572)∧Eh y (12-i) i r=Eh y 12 0 (d-BZ y)) (fun(i,r)=>12-i) (0,d-BZ y) (⟨⟨So,So,So⟩,rfl⟩) (fun a w hi=>(zI hi)) ?_;rintro⟨i,r⟩⟨⟨hi1,hi2,hi3⟩,hm⟩;have hdm:=vk y ((i:Int)+1);refine Z6 ?_ ?_<;>intro h8;have h8:i<12:=abP;refine Qy ?_;refine zJ (an (xG _ _ zo) (.cons (.b Z) (.cons (.b Z) .nil)) Z Z) (Jf ?_ ?_)<;>intro h11;have h11:r<qN y ((i:Int)+1):=NW;refine J4 ?_;refine b8 (ax (al ?_));exact db results257 (ar Z) (ar Z) (ar Z) ⟨Z,Z,Z⟩ (B5 (by rw[hto,←hm,show 12-i=(12-(i+1))+1 by omega,mdI_in h11]));have h11:¬r<qN y ((i:Int)+1):=NW;refine Lc ?_;exact aE (fun a w hi=>⟨(i+1,r-qN y ((i:Int)+1)),(by show 12-(i+1)<12-i;omega),⟨⟨So,So,So⟩,by rw[←hm,show 12-i=(12-(i+1))+1 by omega,aeQ h11];rfl⟩,(zI hi)⟩);have h8:i=12:=abP;subst h8;refine Qh ?_;refine zQ [2,3,4] [] (aa (am ?_));exact db results257 (ar Z) (ar Z) (ar Z) ⟨Z,Z,Z⟩ (B5 (by rw[hto,←hm];rfl))
def BU(d k:Int):Ct prog 259 [Sx d,Sx k] (svD2 (mZ d k)):=by
 refine Yk func259 ntmps259 fun w0 ok0=>?_;refine Qh ?_;refine YK (xF _) ?_;refine Jf ?_ ?_<;>intro h1;have h1:rE d=false∨k < -3600∨3600<k:=by simpa[or_assoc]using h1
 refine Y8 ?_;exact z2 results259 Z Z (rR (by unfold mZ;rw[Cg h1]));have h1:¬(rE d=false∨k < -3600∨3600<k):=by simpa[or_assoc,and_assoc]using h1
 have hb:=x7 d;have he:pI d k=((gz d).1-1900)*12+(gz d).2.1-1+k:=rfl;refine Y5 ?_;refine YK (ue _) ?_;refine zM Z (zJ (eS (.b Z)) (zJ (eR (.b Z)) (zJ (eQ (.b Z)) (Y6 ?_))));skip;refine Z23 ?_ ?_<;>intro h5;have h5:pI d k<0∨3599<pI d k:=by simpa[he]using h5
 refine Y8 ?_;exact z2 results259 Z Z (rR (by unfold mZ;rw[zE h1,Cg h5]));have h5:¬(pI d k<0∨3599<pI d k):=by simpa[he]using h5
 refine Y3 ?_;rw[←he];have hdm:=vk (1900+pI d k/12) (pI d k%12+1);have hmn:∀x y:Int,(if y<x then y else x)=min x y:=fun x y=>Jz;refine ab (zM Z (zJ (i9 (.b Z) (.b Z) zo (qG zo zo zo)) (zU Z Z zw (zM Z (zJ (gc (.b Z) (.b Z) zo (tk zo)) (zb ?_))))));refine zJ (an (xG _ _ zo) (.cons (.b Z) (.cons (.b Z) .nil)) Z Z) (zJ (yu (.b Z) (.b Z)) (zJ (an (frR _ _ _ zo zo) (.cons (.b Z) (.cons (.b Z) (.cons (.b Z) .nil))) Z Z) (Y7 ?_)));exact z2 results259 Z Z (rR (by unfold mZ;rw[zE h1,zE h5,hmn]))
def aeS(a b:Int):Ct prog 260 [Sx a,Sx b] (Sx (FE a b)):=by
 refine Yk func260 ntmps260 fun w0 ok0=>?_;refine Y9 ?_;refine YK (xF _) ?_;refine Y3 ?_;refine zG Z Z (fun hg=>an (xF _) (.cons (.gd Z hg) .nil) Z Z) (Z9 ?_ ?_)<;>intro h1;have h1:rE a=false∨rE b=false∨b<a:=by simpa[or_assoc]using h1
 refine Y7 ?_;exact z1 results260 Z (ri (by unfold FE;rw[Cg h1]));have h1:¬(rE a=false∨rE b=false∨b<a):=by simpa[or_assoc,and_assoc]using h1
 have hba:=x7 a;have hbb:=x7 b;refine Y5 ?_;refine YK (ue _) ?_;refine zM Z (zJ (eS (.b Z)) (zJ (eR (.b Z)) (zJ (eQ (.b Z)) (Y8 ?_))));refine YK (ue _) ?_;refine zM Z (zJ (eS (.b Z)) (zJ (eR (.b Z)) (zJ (eQ (.b Z)) (E0 ?_))));refine YK (BU _ _) ?_;refine Z18 ?_ ?_<;>intro h7;have h7:(mZ a (12*((gz b).1-(gz a).1))).2≠0∨b<(mZ a (12*((gz b).1-(gz a).1))).1:=fQ;refine Y9 ?_;exact U3;have h7:¬((mZ a (12*((gz b).1-(gz a).1))).2≠0∨b<(mZ a (12*((gz b).1-(gz a).1))).1):=fQ;refine Y5 ?_;exact U3
def Om(q r d:Nat)(neg:Bool)(mode:Int):Bool:=
 if r=0 then false else if mode=0 then neg else if mode=1 then !neg else if mode=3 then true else if mode=4 then decide (d-r≤r)
 else if mode=5 then decide (d-r<r)||(decide (r=d-r)&&decide (q%2=1))else false
def kS(q r d:Nat)(neg:Bool)(mode:Int):Nat:=if Om q r d neg mode=true then q+1 else q
def E1(q:Nat)(neg:Bool):Int:=if neg=true then -(q:Int)else(q:Int)
def fv(mode:Int):Bool:=decide (0≤mode)&&decide (mode≤5)
def vq(n limit:Int):Bool:=decide (limit<n)||decide (n < -limit)
def rT(q r d:Nat)(neg:Bool)(mode:Int):kS q r d neg mode≤q+1∧q≤kS q r d neg mode:=by unfold kS;split<;>omega
def HP{n:Int}(h:n<0)(h1:-9223372036854775808≤n):IntKind.u64.wrap (-(IntKind.u64.wrap n))=((n.natAbs:Nat):Int):=by rw[IntKind.wrap_u64,IntKind.wrap_u64];omega
def xp{n:Int}(h:¬n<0)(h1:n≤9223372036854775807):IntKind.u64.wrap n=((n.natAbs:Nat):Int):=by rw[IntKind.wrap_u64];omega
def aeT(h:0<r):(neg&&decide ((r:Int)>0))=neg:=by rw[decide_eq_true zo];cases neg<;>rfl
def aeU(h:0<r):(!neg&&decide ((r:Int)>0)) = !neg:=by rw[decide_eq_true zo];cases neg<;>rfl
def vB{d:Nat}(h:r<d):decide ((r:Int)≥(d:Int)-(r:Int))=decide (d-r≤r):=by rw[MZ];simp;omega
def vA{d:Nat}(h:r<d):(decide ((r:Int)>(d:Int)-(r:Int))||((r:Int)==(d:Int)-(r:Int))&&(((q%2:Nat):Int)==1))=(decide (d-r<r)||(decide (r=d-r)&&decide (q%2=1))):=by rw[MZ];simp;omega
def oN(mode:Int):Ct prog 282 [Sx mode] (.raw (.bool (fv mode))):=by refine Yk func282 ntmps282 fun w0 ok0=>?_;refine pA ?_;exact z1 results282 Z (rb (by simp[fv]))
def lS(n limit:Int)(h:0≤limit∧limit≤9223372036854775807):Ct prog 283 [Sx n,Sx limit] (.raw (.bool (vq n limit))):=by refine Yk func283 ntmps283 fun w0 ok0=>?_;refine MY ?_;refine zG Z Z (fun hg=>jx (.gd Z hg) zw) (Y6 ?_);exact z1 results283 Z (rb (by simp[vq]))
def la(n:Int)(h:-9223372036854775808≤n∧n≤9223372036854775807):Ct prog 284 [Sx n] (.raw (.int .u64 (n.natAbs:Nat))):=by
 refine Yk func284 ntmps284 fun w0 ok0=>?_;refine Jk ?_ ?_<;>intro h1
 ·try simp at h1
  refine zR (zM Z (zJ (eW ⟨_,MV⟩ jZ (.b Z) Z) (zJ ((jx (.b Z) (HP h1 h.1))) (Y5 ?_))));exact z1 results284 Z Z
 try simp at h1
 refine Y5 ?_;refine zJ (eW ⟨_,MV⟩ jZ (.b Z) (xp zo h.2)) (zY Z (aa (am ?_)));exact z1 results284 Z Z
def ye(q:Nat)(neg:Bool)(h:q≤9223372036854775807):Ct prog 286 [.raw (.int .u64 (q:Nat)),.raw (.bool neg)] (Sx (E1 q neg)):=by
 refine Yk func286 ntmps286 fun w0 ok0=>?_;refine Jf ?_ ?_<;>intro h1
 ·try simp at h1
  refine zR (zM Z (zJ (eW ⟨_,jZ⟩ MV (.b Z) zw) (zJ ((jx (.b Z) zw)) (Y5 ?_))));exact z1 results286 Z (ri (by unfold E1;rw[Cg h1]))
 try simp at h1
 refine Y5 ?_;refine zJ (eW ⟨_,jZ⟩ MV (.b Z) zw) (zY Z (aa (am ?_)));exact z1 results286 Z (ri (by unfold E1;rw[zE Kz]))
def wA(q r d:Nat)(neg:Bool)(mode:Int)(hr:r<d)(hd:d≤9223372036854775808)(hq:q≤9223372036854775807):Ct prog 285 [.raw (.int .u64 (q:Nat)),.raw (.int .u64 (r:Nat)),.raw (.int .u64 (d:Nat)),.raw (.bool neg),Sx mode] (.raw (.int .u64 (kS q r d neg mode:Nat))):=by
 refine Yk func285 ntmps285 fun w0 ok0=>?_;refine Jk ?_ ?_<;>intro h1
 ·try simp at h1
  refine Y8 ?_;exact z1 results285 Z (ri (by unfold kS Om;rw[zE (by rw[Cg zo];simp)]))
 try simp at h1
 refine MY ?_;refine EO (ι:=Unit) (fun _=>⟨[(0,.raw (.int .u64 (q:Nat))),(11,.raw (.bool (Om q r d neg mode)))],[]⟩) (fun _=>True) ?_ ?_
 ·skip;refine Z7 ?_ ?_<;>intro h5
  ·try simp at h5
   refine Y5 ?_;exact TG
  try simp at h5
  refine Z6 ?_ ?_<;>intro h7
  ·try simp at h7
   exact TB
  try simp at h7
  refine Z6 ?_ ?_<;>intro h9
  ·try simp at h9
   refine Y4 ?_;exact TG
  try simp at h9
  refine Z6 ?_ ?_<;>intro h11
  ·try simp at h11
   refine Y4 ?_;refine zJ (cH (.b Z) (.b Z) (kR zo zo)) (Y4 ?_);exact TG
  try simp at h11
  refine Z6 ?_ ?_<;>intro h13
  ·try simp at h13
   refine Y4 ?_;refine zJ (cH (.b Z) (.b Z) (kR zo zo)) (Y5 ?_);refine zG Z Z (fun hg=>cH (.gd Z hg) (.gd Z hg) (kR zo zo)) (Y1 ?_);refine zG Z Z (fun hg=>ai (.gd Z hg)) ?_;refine Y1 ?_;refine cf _ _ _ _ _ _ _ Z Z Z Z Z (fun hg=>gc (.gd Z hg) (.b Z) zo (xg (m:=2))) ?_;exact TB
  try simp at h13
  refine ak (aJ ?_);exact TG
 rintro _ -
 refine Y5 ?_;refine zQ [0,51] [] (aa ?_);refine Z0 ?_ ?_<;>intro h15
 ·try simp at h15
  refine ab (zM Z (zU Z Z (sA (m:=1) zo) (Qh ?_)));exact WU
 try simp at h15
 refine Y9 ?_;exact WU
section
variable{y a b u t:Nat}
def wd(hy:y=a*4294967296+b)(q:Nat):q*y=q*a*4294967296+q*b:=by subst hy;rw[Nat.mul_add,Nat.mul_assoc]
def NX(hu:u<y)(ht:t<4294967296):(u*4294967296+t)/y<4294967296:=by rw[GG (by omega)];have:(u+1)*4294967296≤y*4294967296:=bn _ hu;rw[O6 4294967296 y];omega
def Fg(hy:y=a*4294967296+b)(hb:b<4294967296)(ha:2147483648≤a)(hu:u<y)(ht:t<4294967296):
 u/a*a+u%a=u∧(u*4294967296+t)/y≤u/a∧u%a<a∧u/a≤4294967297:=by
 have h1:u/a*a+u%a=u:=JC u a;have hm:u%a<a:=Na _ (by omega);refine⟨h1,?_,hm,?_⟩;rw[Nat.le_div_iff_mul_le (by omega)];have h2:(u*4294967296+t)/y*y≤u*4294967296+t:=Nat.div_mul_le_self _ _;rw[wd hy]at h2;generalize (u*4294967296+t)/y*a=p at h2⊢;omega;have h3:u/a<4294967298:=by rw[GG (by omega)];subst hy;omega
 omega
def IE(hy:y=a*4294967296+b)(hu:u<y)(ht:t<4294967296)(hi:q*a+r=u)(hc:4294967296≤q∨4294967296*r+t<q*b):(u*4294967296+t)/y<q:=by
 rcases hc with hc|hc;exact F2 (NX hu ht) hc;rw[GG (by omega),wd hy];subst hi;generalize q*a=p at *
 generalize q*b=s at *
 omega
def NY(hy:y=a*4294967296+b)(h0:0<y)(hi:q*a+r=u)(hc:q*b≤4294967296*r+t):q≤(u*4294967296+t)/y:=by
 rw[Nat.le_div_iff_mul_le h0,wd hy];subst hi;generalize q*a=p at *
 generalize q*b=s at *
 omega
def N0(hy:y=a*4294967296+b)(h0:0<y)(hb:b<4294967296)(hi:q*a+r=u)(hq:q≤4294967296)(hr:4294967296≤r):q≤(u*4294967296+t)/y:=by refine NY hy h0 hi ?_;have h1:q*b≤4294967296*4294967295:=Nat.mul_le_mul hq (by omega);omega
def IF(hb:b<4294967296)(hq:q≤4294967297):q*b<18446744073709551616:=by have h1:q*b≤4294967297*4294967295:=Nat.mul_le_mul hq (by omega);omega
def C5(hi:q*a+r=u)(hq:1≤q):(q-1)*a+(r+a)=u:=by have:(q-1+1)*a=(q-1)*a+a:=Qq _ _;rw[Nat.sub_add_cancel hq]at this;omega
end
def dv_lin{U d v A B:Nat}(d1:U*4294967296+d=A+v)(d0:v*4294967296+m=B+r):U*18446744073709551616+(d*4294967296+m)=A*4294967296+B+r:=by have hk:(18446744073709551616:Nat)=4294967296*4294967296:=rfl;rw[hk,←Nat.mul_assoc,←qx,←Qd,d1,Qd,qx,d0,qx]
def aeV{y0 s hi lo:Nat}(h0:0<y0)(hs:s≤63)(hlo:lo<18446744073709551616)(hhi:hi<y0)
 {y un32 un10 q1 un21 q0 rr:Nat} (hy:y=y0*2 ^ s) (h32:un32=hi*2 ^ s+lo/2 ^ (64-s)) (h10:un10=lo*2 ^ s%18446744073709551616)
 (hq1:q1=(un32*4294967296+un10/4294967296)/y) (hr1:un21=(un32*4294967296+un10/4294967296)%y) (hq0:q0=(un21*4294967296+un10%4294967296)/y) (hrr:rr=(un21*4294967296+un10%4294967296)%y):
 q1*4294967296+q0=(hi*18446744073709551616+lo)/y0∧rr/2 ^ s=(hi*18446744073709551616+lo)%y0∧un32<y:=by
 have hp:0<2 ^ s:=Nat.pow_pos (by decide);have e64:(18446744073709551616:Nat)=2 ^ (64-s)*2 ^ s:=by rw[←Nat.pow_add,Nat.sub_add_cancel (by omega)]
 have hN:(hi*18446744073709551616+lo)*2 ^ s=un32*18446744073709551616+un10:=by
  have h1:lo*2 ^ s=lo/2 ^ (64-s)*18446744073709551616+lo*2 ^ s%18446744073709551616:=by
   have h2:lo*2 ^ s/18446744073709551616=lo/2 ^ (64-s):=by rw[e64,Nat.mul_div_mul_right _ _ hp]
   rw[←h2];exact(JC _ _).symm
  rw[Qd,h1,h32,h10,Qd,Nat.mul_right_comm];omega
 have hy0:0<y:=by rw[hy];exact Nat.mul_pos h0 hp
 have d1:un32*4294967296+un10/4294967296=q1*y+un21:=by rw[hq1,hr1];exact(JC _ _).symm
 have d0:un21*4294967296+un10%4294967296=q0*y+rr:=by rw[hq0,hrr];exact(JC _ _).symm
 have m0:rr<y:=by rw[hrr];exact Na _ hy0
 have hall:(hi*18446744073709551616+lo)*2 ^ s=(q1*4294967296+q0)*y+rr:=by
  have e1:un10/4294967296*4294967296+un10%4294967296=un10:=JC _ _;have e4:(q1*4294967296+q0)*y=q1*y*4294967296+q0*y:=by rw[Qd,Nat.mul_right_comm]
  have e5:=dv_lin d1 d0;rw[e1]at e5;rw[hN,e5,e4]
 rw[hy,←Nat.mul_assoc]at hall;have hdiv:rr/2 ^ s*2 ^ s=rr:=by
  have hmod:rr%2 ^ s=0:=by
   have h3:((q1*4294967296+q0)*y0*2 ^ s+rr)%2 ^ s=0:=by rw[←hall];exact Nat.mul_mod_left _ _
   rwa [Nat.mul_add_mod_self_right]at h3
  have:=JC rr (2 ^ s);omega
 have hN2:hi*18446744073709551616+lo=(q1*4294967296+q0)*y0+rr/2 ^ s:=by
  have:(hi*18446744073709551616+lo)*2 ^ s=((q1*4294967296+q0)*y0+rr/2 ^ s)*2 ^ s:=by rw[hall,Qd ((q1*4294967296+q0)*y0) (rr/2 ^ s) (2 ^ s),hdiv]
  exact Nat.eq_of_mul_eq_mul_right hp this
 have hlt:rr/2 ^ s<y0:=by rw[GG hp,←hy];exact m0
 refine⟨?_,?_,?_⟩;rw[hN2,Nat.add_comm ((q1*4294967296+q0)*y0),Nat.add_mul_div_right _ _ h0,Nat.div_eq_of_lt hlt,N1];rw[hN2,Nat.add_comm ((q1*4294967296+q0)*y0),Nat.add_mul_mod_self_right,Nat.mod_eq_of_lt hlt];rw[h32,hy];have h4:lo/2 ^ (64-s)<2 ^ s:=by rw[GG (Nat.pow_pos (by decide)),O6,←e64];exact hlo
 have h5:(hi+1)*2 ^ s≤y0*2 ^ s:=bn _ hhi;rw[Qd]at h5;omega
def aeW{y:Nat}(h0:0<y)(h:y<18446744073709551616):1≤Lib.bitLen y∧Lib.bitLen y≤64∧2 ^ (Lib.bitLen y-1)≤y∧y<2 ^ Lib.bitLen y:=by obtain⟨a,b,c⟩:=Lib.bitLenAux_bounds 64 y h zo;exact⟨a,Lib.bitLen_le y 64 (Kl _) h,b,c⟩
def aeX{y s:Nat}(h:y<18446744073709551616)(hs:64-Lib.bitLen y=s):Ct prog 281 [.raw (.int .u64 (y:Nat))] (Sx (s:Nat)):=
 ⟨cJ func281 rfl zk,fun w ok0 vs hok ⟨v,vr,e,h1,h2⟩=>by have h1:v=.int .u64 (y:Nat):=h1;have h2:vr=[]:=h2;subst h1 h2 e;refine(Go.Proofs.Tryz.bits_LeadingZeros64 (y:Nat) w zo zo).mono ?_;rintro e w' ⟨rfl,rfl⟩;refine⟨_,Z,(Go.Eng.Below.refl _ _).toX,?_⟩;show _=_;have hl:=Lib.bitLen_le y 64 (Kl _) h;congr 1;rw[K4];omega⟩
def rh{x y:Nat}(hx:x<18446744073709551616)(hy:y<18446744073709551616):Ct prog 265 [.raw (.int .u64 (x:Nat)),.raw (.int .u64 (y:Nat))] (.tup2 (.raw (.int .u64 ((x*y/18446744073709551616):Nat))) (.raw (.int .u64 ((x*y%18446744073709551616):Nat)))):=
 ⟨cJ func265 rfl zk,fun w ok0 vs hok ⟨v,vr,e,h1,v2,vr2,e2,h2,h3⟩=>by have h1:v=.int .u64 (x:Nat):=h1;have h2:v2=.int .u64 (y:Nat):=h2;have h3:vr2=[]:=h3;subst h1 h2 h3 e2 e;refine(Go.Proofs.Tryz.bits_Mul64 x y hx hy w).mono ?_;rintro e w' ⟨rfl,rfl⟩;exact⟨_,Z,(Go.Eng.Below.refl _ _).toX,_,_,Z,Z,Z⟩⟩
def PQ{e:Int}(h:e=(n:Int))(q:n=m):e=(m:Int):=by rw[h,q]
def xk:IntKind.u64.wrap ((n:Int)*(m:Int))=((n*m%18446744073709551616:Nat):Int):=by rw[←Int.natCast_mul];exact FG _
def FB:IntKind.u64.wrap (((n%18446744073709551616:Nat):Int)+(m:Int))=(((n+m)%18446744073709551616:Nat):Int):=by rw[←Int.natCast_add,FG,Nat.mod_add_mod]
def wsub{a b c:Nat}(h:a=b+c)(hc:c<18446744073709551616):IntKind.u64.wrap (((a%18446744073709551616:Nat):Int)-((b%18446744073709551616:Nat):Int))=(c:Int):=by rw[IntKind.wrap_u64];omega
def aaM(hi lo y:Nat)(ky:0<y)(kl:lo<18446744073709551616)(kh:hi=0):Ct prog 266 [.raw (.int .u64 (hi:Nat)),.raw (.int .u64 (lo:Nat)),.raw (.int .u64 (y:Nat))] (.tup2 (.raw (.int .u64 ((lo/y):Nat))) (.raw (.int .u64 ((lo%y):Nat)))):=by
 refine Yk func266 ntmps266 fun w0 ok0=>?_;refine sm ?_ ?_<;>intro h1;exact absurd h1 QE;try simp at h1
 refine wz ?_ ?_<;>intro h3;exact absurd h3 QE;try simp at h3
 refine Z9 ?_ ?_<;>intro h5
 ·try simp at h5
  refine ac ?_;refine Y3 ?_;refine GP (i9 (.b Z) (.b Z) zo (xh kl)) (Y2 ?_);refine GP (gc (.b Z) (.b Z) zo xg) (Y6 ?_);exact z2 results266 Z Z Z
 exact absurd h5 QE
def ab1(hH lo y s Y yA b un32 un10 un1 un0 Q1 un21 Q0 RR:Nat)(ky:hH<y)(kh:0<hH)(kyM:y<18446744073709551616)(kl:lo<18446744073709551616)(ks:64-Lib.bitLen y=s)(ks1:s≤63)(kY:y*2 ^ s%18446744073709551616=Y)(kYM:Y<18446744073709551616)(kY0:0<Y)(ka:Y/2 ^ 32=yA)(kb:Y%4294967296=b)(ka1:2147483648≤yA)(ka2:yA<4294967296)(kb1:b<4294967296)(kYab:Y=yA*4294967296+b)(khM:hH*2 ^ s<18446744073709551616)(klo:lo/2 ^ (64-s)<2 ^ s)(k32:hH*2 ^ s+lo/2 ^ (64-s)=un32)(ku32:un32<Y)(k10:lo*2 ^ s%18446744073709551616=un10)(k10M:un10<18446744073709551616)(k1:un10/2 ^ 32=un1)(k0:un10%4294967296=un0)(kun1b:un1<4294967296)(kun0b:un0<4294967296)(kQ1:(un32*4294967296+un1)/Y=Q1)(kd1:un32*4294967296+un1=Q1*Y+un21)(ku21:un21<Y)(kQ0:(un21*4294967296+un0)/Y=Q0)(kd0:un21*4294967296+un0=Q0*Y+RR)(kRR:RR<Y)(kQ1b:Q1<4294967296)(kQ0b:Q0<4294967296)(kun32:un32/yA*yA+un32%yA=un32∧(un32*4294967296+un1)/Y≤un32/yA∧un32%yA<yA∧un32/yA≤4294967297)(kun21:un21/yA*yA+un21%yA=un21∧(un21*4294967296+un0)/Y≤un21/yA∧un21%yA<yA∧un21/yA≤4294967297):Ct prog 266 [.raw (.int .u64 (hH:Nat)),.raw (.int .u64 (lo:Nat)),.raw (.int .u64 (y:Nat))] (.tup2 (.raw (.int .u64 ((Q1*4294967296+Q0):Nat))) (.raw (.int .u64 ((RR/2 ^ s):Nat)))):=by
 refine Yk func266 ntmps266 fun w0 ok0=>?_;refine sm ?_ ?_<;>intro h1;exact absurd h1 QE;try simp at h1
 refine wz ?_ ?_<;>intro h3;exact absurd h3 QE;try simp at h3
 refine Z9 ?_ ?_<;>intro h5;exact absurd h5 QE;try simp at h5
 refine Y5 ?_;refine YK (aeX kyM ks) ?_;refine zJ (eW ⟨_,MV⟩ K6 (.b Z) (wu zo)) (Y7 ?_);refine zJ (F1 (.b Z) (.b Z) zo (PQ (B6 zo) kY)) (zY Z (aa (zR (zM Z (zJ (yq (.b Z) (.b Z) zo (PQ (xa (s:=32) zo) ka)) (zY Z (aa (zR (zM Z (zJ (L6 (.b Z) (.b Z) (PQ (Fz kYM) kb)) (Y7 ?_)))))))))));refine zJ (F1 (.b Z) (.b Z) zo (PQ (B6 zo) (Nat.mod_eq_of_lt khM))) (zM Z (zM Z (zJ (cH (.b Z) (.b Z) (kR (n:=64) zo zo)) ?_)));refine zJ (yq (.b Z) (.b Z) zo (xa zo)) (zJ (op_or (.b Z) (.b Z) (PQ (or_add klo (by rw[k32];omega)) k32)) (Y7 ?_));refine zJ (F1 (.b Z) (.b Z) zo (PQ (B6 zo) k10)) (zY Z (aa (zR (zM Z (zJ (yq (.b Z) (.b Z) zo (PQ (xa (s:=32) zo) k1)) (zY Z (aa (zR (zM Z (zJ (L6 (.b Z) (.b Z) (PQ (Fz zo) k0)) (Y7 ?_)))))))))));refine zJ (i9 (.b Z) (.b Z) zo (xh zo)) (Y8 ?_);refine zJ (iz (.b Z) (.b Z) (p5 zo)) (zJ (cH (.b Z) (.b Z) (PQ (kR zo zo) (show un32-un32/yA*yA=un32%yA by omega))) (zY rfl (aa (ac ?_))));refine EO (ι:=Unit) (fun _=>⟨[(2,.raw (.int .u64 (Y:Nat))),(8,.raw (.int .u64 (s:Nat))),(9,.raw (.int .u64 (yA:Nat))),(10,.raw (.int .u64 (b:Nat))),(13,.raw (.int .u64 (un1:Nat))),(14,.raw (.int .u64 (un0:Nat))),(11,.raw (.int .u64 (un32:Nat))),(15,.raw (.int .u64 (Q1:Nat)))],[]⟩) (fun _=>True) ?_ ?_;skip;refine az ?_;refine bf (ι:=Nat×Nat) (fun(q,r)=>⟨[(2,.raw (.int .u64 (Y:Nat))),(8,.raw (.int .u64 (s:Nat))),(9,.raw (.int .u64 (yA:Nat))),(10,.raw (.int .u64 (b:Nat))),(13,.raw (.int .u64 (un1:Nat))),(14,.raw (.int .u64 (un0:Nat))),(11,.raw (.int .u64 (un32:Nat))),(15,.raw (.int .u64 (q:Nat))),(16,.raw (.int .u64 (r:Nat)))],[]⟩) (fun(q,r)=>q*yA+r=un32∧Q1≤q∧r<4294967296∧q≤4294967297) (fun(q,r)=>q) (un32/yA,un32%yA) (⟨kun32.1,kQ1▸kun32.2.1,Nat.lt_trans kun32.2.2.1 ka2,kun32.2.2.2⟩) (fun a w hi=>(zI hi)) ?_;rintro⟨q,r⟩⟨p1,p2,p3,p4⟩;refine Y8 ?_;refine zG Z Z (fun hg=>iz (.gd Z hg) (.gd Z hg) (p5 (IF kb1 p4))) (zG Z Z (fun hg=>ai (.b Z)) (zG Z Z (fun hg=>iz (.b Z) (.gd Z hg) (p5 (n:=4294967296) zo)) (zG Z Z (fun hg=>ai (.b Z)) (zG Z Z (fun hg=>Cp (.gd Z hg) (.gd Z hg) (sA zo)) (Z4 ?_ ?_)))))<;>intro h17;have k1:4294967296≤q∨4294967296*r+un1<q*b:=KN;have k2:Q1<q:=by rw[←kQ1];exact IE kYab ku32 kun1b p1 k1
 refine Y6 ?_;refine zJ (cH (.b Z) (.b Z) (kR (m:=1) zo zo)) (zA Z (zQ [2,8,9,10,11,13,14,15,16] [] (aa (zR ?_))));refine zM Z (zM Z (zU Z Z (sA zo) (Z9 ?_ ?_)))<;>intro h20;have k3:4294967296≤r+yA:=abD;have k4:q-1≤Q1:=by rw[←kQ1];exact N0 kYab kY0 kb1 (C5 p1 zo) zo k3
 exact U9;have k3:r+yA<4294967296:=abD;exact Wi;have k1:q<4294967296∧q*b≤4294967296*r+un1:=KN;have k2:q≤Q1:=by rw[←kQ1];exact NY kYab kY0 p1 k1.2
 exact Vj;rintro _ -
 refine aa (zR (zM Z (zJ (iz (.b Z) (.b Z) (xk (m:=4294967296))) (zM Z (zU Z Z FB (zM Z (zM Z (zJ (iz (.b Z) (.b Z) xk) (zJ (cH (.b Z) (.b Z) (wsub kd1 zo)) (Y7 ?_))))))))));refine zJ (i9 (.b Z) (.b Z) zo (xh zo)) (Y8 ?_);refine zJ (iz (.b Z) (.b Z) (p5 zo)) (zJ (cH (.b Z) (.b Z) (PQ (kR zo zo) (show un21-un21/yA*yA=un21%yA by omega))) (zY rfl (aa (ac ?_))));refine EO (ι:=Unit) (fun _=>⟨[(2,.raw (.int .u64 (Y:Nat))),(8,.raw (.int .u64 (s:Nat))),(9,.raw (.int .u64 (yA:Nat))),(10,.raw (.int .u64 (b:Nat))),(14,.raw (.int .u64 (un0:Nat))),(15,.raw (.int .u64 (Q1:Nat))),(17,.raw (.int .u64 (un21:Nat))),(18,.raw (.int .u64 (Q0:Nat)))],[]⟩) (fun _=>True) ?_ ?_;skip;refine az ?_;refine bf (ι:=Nat×Nat) (fun(q,r)=>⟨[(2,.raw (.int .u64 (Y:Nat))),(8,.raw (.int .u64 (s:Nat))),(9,.raw (.int .u64 (yA:Nat))),(10,.raw (.int .u64 (b:Nat))),(14,.raw (.int .u64 (un0:Nat))),(15,.raw (.int .u64 (Q1:Nat))),(17,.raw (.int .u64 (un21:Nat))),(18,.raw (.int .u64 (q:Nat))),(16,.raw (.int .u64 (r:Nat)))],[]⟩) (fun(q,r)=>q*yA+r=un21∧Q0≤q∧r<4294967296∧q≤4294967297) (fun(q,r)=>q) (un21/yA,un21%yA) (⟨kun21.1,kQ0▸kun21.2.1,Nat.lt_trans kun21.2.2.1 ka2,kun21.2.2.2⟩) (fun a w hi=>(zI hi)) ?_;rintro⟨q,r⟩⟨p1,p2,p3,p4⟩;refine Y8 ?_;refine zG Z Z (fun hg=>iz (.gd Z hg) (.gd Z hg) (p5 (IF kb1 p4))) (zG Z Z (fun hg=>ai (.b Z)) (zG Z Z (fun hg=>iz (.b Z) (.gd Z hg) (p5 (n:=4294967296) zo)) (zG Z Z (fun hg=>ai (.b Z)) (zG Z Z (fun hg=>Cp (.gd Z hg) (.gd Z hg) (sA zo)) (Z4 ?_ ?_)))))<;>intro h24;have k1:4294967296≤q∨4294967296*r+un0<q*b:=by simp at h24;omega
 have k2:Q0<q:=by rw[←kQ0];exact IE kYab ku21 kun0b p1 k1
 refine Y6 ?_;refine zJ (cH (.b Z) (.b Z) (kR (m:=1) zo zo)) (zY Z (aa (zR (zM Z (zM Z (zU Z Z (sA zo) (Z9 ?_ ?_)))))))<;>intro h27;have k3:4294967296≤r+yA:=by simp at h27;omega
 have k4:q-1≤Q0:=by rw[←kQ0];exact N0 kYab kY0 kb1 (C5 p1 zo) zo k3
 exact U9;have k3:r+yA<4294967296:=by simp at h27;omega
 exact Wi;have k1:q<4294967296∧q*b≤4294967296*r+un0:=by simp at h24;omega
 have k2:q≤Q0:=by rw[←kQ0];exact NY kYab kY0 p1 k1.2
 exact Vj;rintro _ -
 refine aa (zR (zM Z (zJ (iz (.b Z) (.b Z) (p5 (m:=4294967296) zo)) (zM Z (zU Z Z (sA zo) (zM Z (zJ (iz (.b Z) (.b Z) (xk (m:=4294967296))) (zM Z (zU Z Z FB (zM Z (zM Z (zJ (iz (.b Z) (.b Z) xk) (zJ (cH (.b Z) (.b Z) (wsub kd0 zo)) (zM Z (zJ (yq (.b Z) (.b Z) zo (xa zo)) (Y5 ?_))))))))))))))));exact z2 results266 Z Z Z
def vi{hi lo y:Nat}(ky:hi<y)(kyM:y<18446744073709551616)(kl:lo<18446744073709551616):
 Ct prog 266 [.raw (.int .u64 (hi:Nat)),.raw (.int .u64 (lo:Nat)),.raw (.int .u64 (y:Nat))] (.tup2 (.raw (.int .u64 (((hi*18446744073709551616+lo)/y):Nat))) (.raw (.int .u64 (((hi*18446744073709551616+lo)%y):Nat)))):=by
 by_cases h0:hi=0;have h:=aaM hi lo y zo kl h0;rw[h0,Jc,N1];rw[h0]at h;exact h;obtain⟨g1,g2,g3,g4⟩:=aeW (y:=y) zo kyM;obtain⟨L,hLL⟩:∃L,Lib.bitLen y=L:=⟨_,rfl⟩;rw[hLL]at g1 g2 g3 g4;obtain⟨s,hs⟩:∃s,64-L=s:=⟨_,rfl⟩;have hp:0<2 ^ s:=Nat.pow_pos cy;have e64:2 ^ L*2 ^ s=18446744073709551616:=by rw[←Nat.pow_add,show L+s=64 by omega]
 have e63:2 ^ (L-1)*2 ^ s=9223372036854775808:=by rw[←Nat.pow_add,show L-1+s=63 by omega]
 have f64:2 ^ (64-s)*2 ^ s=18446744073709551616:=by rw[←Nat.pow_add,show 64-s+s=64 by omega]
 have hY:y*2 ^ s<18446744073709551616:=by rw[←e64];exact(Nat.mul_lt_mul_right hp).2 g4
 have hY2:9223372036854775808≤y*2 ^ s:=by rw[←e63];exact bn _ g3
 have hH:hi*2 ^ s<18446744073709551616:=Nat.lt_of_le_of_lt (bn _ zo) hY;have hlo:lo/2 ^ (64-s)<2 ^ s:=by rw[GG (Nat.pow_pos cy),O6,f64];exact kl
 have hu:hi*2 ^ s+lo/2 ^ (64-s)<y*2 ^ s:=by have h5:(hi+1)*2 ^ s≤y*2 ^ s:=bn _ ky;rw[Qd]at h5;omega
 obtain⟨Y,eY⟩:∃Y,y*2 ^ s=Y:=⟨_,rfl⟩;obtain⟨un32,e32⟩:∃u,hi*2 ^ s+lo/2 ^ (64-s)=u:=⟨_,rfl⟩;obtain⟨un10,e10⟩:∃u,lo*2 ^ s%18446744073709551616=u:=⟨_,rfl⟩;have h10:un10<18446744073709551616:=by rw[←e10];exact Na _ zo
 rw[eY]at hY hY2 hu;rw[e32]at hu;have hYab:Y=Y/4294967296*4294967296+Y%4294967296:=(JC _ _).symm;have hA1:2147483648≤Y/4294967296:=So;have hA2:Y/4294967296<4294967296:=So;have hB:Y%4294967296<4294967296:=Na _ zo;have hu1:un10/4294967296<4294967296:=So;have hu0:un10%4294967296<4294967296:=Na _ zo;have hY0:0<Y:=So;have d1:un32*4294967296+un10/4294967296=(un32*4294967296+un10/4294967296)/Y*Y+(un32*4294967296+un10/4294967296)%Y:=(JC _ _).symm;have l1:(un32*4294967296+un10/4294967296)%Y<Y:=Na _ hY0;have s1:=Fg hYab hB hA1 hu hu1;have q1:=NX hu hu1;obtain⟨Q1,eQ1⟩:∃u,(un32*4294967296+un10/4294967296)/Y=u:=⟨_,rfl⟩;obtain⟨un21,e21⟩:∃u,(un32*4294967296+un10/4294967296)%Y=u:=⟨_,rfl⟩;rw[e21]at l1;rw[eQ1]at q1;rw[e21,eQ1]at d1;have d0:un21*4294967296+un10%4294967296=(un21*4294967296+un10%4294967296)/Y*Y+(un21*4294967296+un10%4294967296)%Y:=(JC _ _).symm;have l0:(un21*4294967296+un10%4294967296)%Y<Y:=Na _ hY0;have s0:=Fg hYab hB hA1 l1 hu0;have q0:=NX l1 hu0;obtain⟨Q0,eQ0⟩:∃u,(un21*4294967296+un10%4294967296)/Y=u:=⟨_,rfl⟩;obtain⟨RR,eRR⟩:∃u,(un21*4294967296+un10%4294967296)%Y=u:=⟨_,rfl⟩;rw[eRR]at l0;rw[eQ0]at q0;rw[eRR,eQ0]at d0;have hfin:=aeV (y0:=y) (s:=s) zo zo kl ky eY.symm e32.symm e10.symm eQ1.symm e21.symm eQ0.symm eRR.symm;have hL:64-Lib.bitLen y=s:=by rw[hLL];exact hs
 have h:=ab1 hi lo y s Y _ _ un32 un10 _ _ Q1 un21 Q0 RR ky zo kyM kl hL zo (by rw[eY];exact Nat.mod_eq_of_lt hY) hY hY0 rfl rfl hA1 hA2 hB hYab hH hlo e32 hu e10 h10 rfl rfl hu1 hu0 eQ1 d1 l1 eQ0 d0 l0 q1 q0 s1 s0;rw[hfin.1,hfin.2.1]at h;exact h
def Au(p:Int×Int):SV:=.tup2 (Sx p.1) (Sx p.2)
def dp(h:(a,b)=p):SV.tup2 (Sx a) (Sx b)=Au p:=Mc
def ma(n d:Int):Bool:=decide (n<0) != decide (d<0)
def AD(n d mode:Int):Nat:=kS (n.natAbs/d.natAbs) (n.natAbs%d.natAbs) d.natAbs (ma n d) mode
def td(n d mode:Int):Int×Int:=
 if fv mode=false then(0,1)else if d=0 then(0,12)else if(vq n 4611686018427387904||vq d 4611686018427387904)=true then(0,3)else(E1 (AD n d mode) (ma n d),0)
def Mf(c num den:Int):Bool:=(decide (c<0) != decide (num<0)) != decide (den<0)
def Pw(c num den mode:Int):Nat:=kS (c.natAbs*num.natAbs/den.natAbs) (c.natAbs*num.natAbs%den.natAbs) den.natAbs (Mf c num den) mode
def MH(c num den mode:Int):Int×Int:=
 if fv mode=false then(0,1)else if den=0 then(0,12)else if((vq c 1000000000000000||vq num 1000000000)||vq den 1000000000)=true then(0,3)
 else if 1000000000000000<Pw c num den mode then(0,3)else(E1 (Pw c num den mode) (Mf c num den),0)
def KL(c unit mode:Int):Int×Int:=
 if fv mode=false then(0,1)else if unit<1 then(0,12)else if(vq c 1000000000000000||decide (unit>1000000000000000))=true then(0,3)
 else if vq (E1 (AD c unit mode) (ma c unit)*unit) 1000000000000000=true then(0,3)else(E1 (AD c unit mode) (ma c unit)*unit,0)
def rH{n limit:Int}(h:vq n limit=false):-limit≤n∧n≤limit:=by simp[vq]at h;omega
def ab4{d:Nat}:kS q r d neg mode*d≤q*d+d∧(r=0→kS q r d neg mode=q):=by
 constructor;have:=(rT q r d neg mode).1;calc kS q r d neg mode*d≤(q+1)*d:=bn _ this
  _=q*d+d:=Qq _ _
 intro h;unfold kS Om;rw[Cg h];rfl
def B7(q:Nat)(neg:Bool):(E1 q neg).natAbs=q:=by unfold E1;split<;>omega
def Eg{a b:Bool}(h:(a||b)=false):a=false∧b=false:=PW
def oL(n d mode:Int):Ct prog 267 [Sx n,Sx d,Sx mode] (Au (td n d mode)):=by
 refine Yk func267 ntmps267 fun w0 ok0=>?_;refine Qh ?_;refine YK (oN _) ?_;refine Z3 ?_ ?_<;>intro h1;have h1:fv mode=false:=LF;refine Y8 ?_;exact z2 results267 Z Z (dp (by unfold td;rw[Cg h1]));have h1:fv mode=true:=LF;refine Z9 ?_ ?_<;>intro h3
 ·try simp at h3
  refine Y8 ?_;exact z2 results267 Z Z (dp (by unfold td;simp[h1,h3]))
 try simp at h3
 refine Y6 ?_;refine zJ (an (lS _ _ zo) (.cons (.b Z) (.cons (.b Z) .nil)) Z Z) (Y2 ?_);refine zG Z Z (fun hg=>an (lS _ _ zo) (.cons (.gd Z hg) (.cons (.b Z) .nil)) Z Z) (Z3 ?_ ?_)<;>intro h5;skip;refine Y8 ?_;exact z2 results267 Z Z (dp (by unfold td;simp[h1,h3,h5]));have k5:=rH (Eg h5).1;have k6:=rH (Eg h5).2;refine Y8 ?_;refine zJ (mj QT (.b Z) (.b Z)) (zY Z (aa (zR (zM Z (zJ (an (la _ zo) (.cons (.b Z) .nil) Z Z) (zM Z (zJ (an (la _ zo) (.cons (.b Z) .nil) Z Z) (Y8 ?_))))))));refine GP (i9 (.b Z) (.b Z) zo (xh zo)) (Y2 ?_);refine GP (gc (.b Z) (.b Z) zo xg) (Y3 ?_);refine GP (an (wA _ _ _ _ _ (Na _ zo) zo (wb (Nat.div_le_self _ _) zo)) (.cons (.b Z) (.cons (.b Z) (.cons (.b Z) (.cons (.b Z) (.cons (.b Z) .nil))))) Z Z) (Y2 ?_);refine aa (ac ?_);have k7:AD n d mode≤9223372036854775807:=wb (rT _ _ _ _ _).1 (by have:=Nat.div_le_self n.natAbs d.natAbs;omega);refine Y3 ?_;refine YK (ye (AD n d mode) (ma n d) k7) ?_;refine Y5 ?_;exact z2 results267 Z Z (dp (by unfold td;simp[h1,h3,h5]))
def F7{p d:Nat}(h0:0<d)(h:d≤p/18446744073709551616):1000000000000000<p/d:=by
 have h1:18446744073709551616≤p/d:=by rw[Nat.le_div_iff_mul_le h0,O6];exact(Nat.le_div_iff_mul_le zo).1 h
 omega
def acg(c num den mode:Int):Ct prog 289 [Sx c,Sx num,Sx den,Sx mode] (Au (MH c num den mode)):=by
 refine Yk func289 ntmps289 fun w0 ok0=>?_;refine Qh ?_;refine YK (oN _) ?_;refine Z3 ?_ ?_<;>intro h1;have h1:fv mode=false:=LF;refine Y8 ?_;exact z2 results289 Z Z (dp (by unfold MH;rw[Cg h1]));have h1:fv mode=true:=LF;refine Z9 ?_ ?_<;>intro h3
 ·try simp at h3
  refine Y8 ?_;exact z2 results289 Z Z (dp (by unfold MH;simp[h1,h3]))
 try simp at h3
 refine Y6 ?_;refine zJ (an (lS _ _ zo) (.cons (.b Z) (.cons (.b Z) .nil)) Z Z) (Y2 ?_);refine zG Z Z (fun hg=>an (lS _ _ zo) (.cons (.gd Z hg) (.cons (.b Z) .nil)) Z Z) (Y3 ?_);refine zG Z Z (fun hg=>an (lS _ _ zo) (.cons (.gd Z hg) (.cons (.b Z) .nil)) Z Z) (Z3 ?_ ?_)<;>intro h5;skip;refine Y8 ?_;exact z2 results289 Z Z (dp (by unfold MH;simp[h1,h3,h5]));have k5:=rH (Eg (Eg h5).1).1;have k6:=rH (Eg (Eg h5).1).2;have k7:=rH (Eg h5).2;have kd:0<den.natAbs:=So;refine Y8 ?_;refine zJ (mj QT (.b Z) (.b Z)) (zM Z (zt Z Z (zJ (mj QT (.b Z) (.b Z)) (zY Z (aa (zR (zM Z (zJ (an (la _ zo) (.cons (.b Z) .nil) Z Z) (zM Z (zJ (an (la _ zo) (.cons (.b Z) .nil) Z Z) (zJ (an (rh zo zo) (.cons (.b Z) (.cons (.b Z) .nil)) Z Z) (Qh ?_))))))))))));refine zJ (an (la _ zo) (.cons (.b Z) .nil) Z Z) (Y7 ?_);refine Z4 ?_ ?_<;>intro h10;have h10:den.natAbs≤c.natAbs*num.natAbs/18446744073709551616:=by have:=MW h10;omega
 have k8:1000000000000000<c.natAbs*num.natAbs/den.natAbs:=F7 kd h10;exact Vo;have h10:c.natAbs*num.natAbs/18446744073709551616<den.natAbs:=by have:=J8 h10;omega
 refine Y7 ?_;refine zJ (an (vi zo zo (Na _ zo)) (.cons (.b Z) (.cons (.b Z) (.cons (.b Z) .nil))) Z Z) (Y6 ?_);rw[JC _ _];refine Z8 ?_ ?_<;>intro h13;have k8:1000000000000000<c.natAbs*num.natAbs/den.natAbs:=by have:=MW h13;omega
 exact Vo;have k8:c.natAbs*num.natAbs/den.natAbs≤1000000000000000:=by have:=J8 h13;omega
 refine Y9 ?_;refine zJ (an (wA _ _ _ _ _ (Na _ kd) zo zo) (.cons (.b Z) (.cons (.b Z) (.cons (.b Z) (.cons (.b Z) (.cons (.b Z) .nil))))) Z Z) (zA Z (zQ [10,14] [] (aa (ac (zR ?_)))));refine Z4 ?_ ?_<;>intro h16;have k9:1000000000000000<Pw c num den mode:=by have:=MW h16;unfold Pw Mf;omega
 refine Y8 ?_;exact z2 results289 Z Z (dp (by unfold MH;rw[zE Kz,zE h3,zE (by simp[h5]),Cg k9]));have k9:Pw c num den mode≤1000000000000000:=by have:=J8 h16;unfold Pw Mf;omega
 refine Y6 ?_;refine zJ (an (ye (Pw c num den mode) (Mf c num den) zo) (.cons (.b Z) (.cons (.b Z) .nil)) Z Z) (Y5 ?_);exact z2 results289 Z Z (dp (by unfold MH;rw[zE Kz,zE h3,zE (by simp[h5]),zE zo]))
def adc{v K:Nat}(h:v*u.natAbs≤K):-(K:Int)≤E1 v neg*u∧E1 v neg*u≤K:=by
 have:(E1 v neg*u).natAbs=v*u.natAbs:=by rw[Int.natAbs_mul,B7]
 omega
def w64(hu:0<u):AD c u mode*u.natAbs≤c.natAbs+u.natAbs:=by have h:=(ab4 (q:=c.natAbs/u.natAbs) (r:=c.natAbs%u.natAbs) (d:=u.natAbs) (neg:=ma c u) (mode:=mode)).1;have:=Nat.div_mul_le_self c.natAbs u.natAbs;unfold AD;omega
def divR_v(hm:fv mode=true)(hu:¬u<1)(hc:-1000000000000000≤c∧c≤1000000000000000)(hu2:u≤1000000000000000):td c u mode=(E1 (AD c u mode) (ma c u),0):=by
 have b1:vq c 4611686018427387904=false:=by simp[vq];omega
 have b2:vq u 4611686018427387904=false:=by simp[vq];omega
 unfold td;rw[zE (by simp[hm]),zE zo,zE (by simp[b1,b2])]
def Yl2(c unit mode:Int):Ct prog 274 [Sx c,Sx unit,Sx mode] (Au (KL c unit mode)):=by refine Yk func274 ntmps274 fun w0 ok0=>?_;refine Qh ?_;refine YK (oN _) ?_;refine Z3 ?_ ?_<;>intro h1;have h1:fv mode=false:=LF;refine Y8 ?_;exact z2 results274 Z Z (dp (by unfold KL;rw[Cg h1]));have h1:fv mode=true:=LF;refine Z9 ?_ ?_<;>intro h3;have h3:unit<1:=MW h3;refine Y8 ?_;exact z2 results274 Z Z (dp (by unfold KL;simp[h1,h3]));have h3:¬unit<1:=J8 h3;refine Y6 ?_;refine zJ (an (lS _ _ zo) (.cons (.b Z) (.cons (.b Z) .nil)) Z Z) (Z6 ?_ ?_)<;>intro h5;skip;refine Y8 ?_;exact z2 results274 Z Z (dp (by unfold KL;rw[zE Kz,zE h3,Cg h5]));have k5:=rH (Eg h5).1;have k6:=J8 (Eg h5).2;have k6:unit≤1000000000000000:=So;have kv:=w64 (c:=c) (u:=unit) (mode:=mode) zo;have kw:=adc (neg:=ma c unit) (K:=2000000000000000) (wb kv zo);have kdiv:=divR_v h1 h3 k5 k6;refine Y7 ?_;refine zJ (an (show Ct _ _ _ (.tup2 (Sx (E1 (AD c unit mode) (ma c unit))) (Sx 0))from(by have:=oL c unit mode;rw[kdiv]at this;exact this)) (.cons (.b rfl) (.cons (.b rfl) (.cons (.b rfl) .nil))) rfl rfl) (Po ?_ ?_)<;>intro h8;exact absurd h8 cy;skip;refine Y8 ?_;refine zJ (an (lS _ _ zo) (.cons (.b Z) (.cons (.b Z) .nil)) Z Z) (zZ ?_);refine Z0 ?_ ?_<;>intro h10;skip;refine Y8 ?_;exact z2 results274 Z Z (dp (by unfold KL;rw[zE Kz,zE h3,zE (by rw[h5];simp),Cg h10]));skip;refine zb ?_;exact z2 results274 Z Z (dp (by unfold KL;rw[zE Kz,zE h3,zE (by rw[h5];simp),zE (by rw[h10];simp)]))
def OU(num den mode:Int):Int×Int:=
 if fv mode=false then(0,1)else if den=0 then(0,12)else if(vq num 1000000000000000||vq den 1000000000000000)=true then(0,3)
 else if den.natAbs≤num.natAbs*1000000/18446744073709551616 then(0,3)else if 1000000000<num.natAbs*1000000/den.natAbs then(0,3)
 else if 1000000000<kS (num.natAbs*1000000/den.natAbs) (num.natAbs*1000000%den.natAbs) den.natAbs (ma num den) mode then(0,3)
 else(E1 (kS (num.natAbs*1000000/den.natAbs) (num.natAbs*1000000%den.natAbs) den.natAbs (ma num den) mode) (ma num den),0)
def KK(a b mode:Int):Int×Int:=
 if fv mode=false then(0,1)else if(vq a 1000000000||vq b 1000000000)=true then(0,3)
 else if(td (a*b) 1000000 mode).2≠0 then(0,(td (a*b) 1000000 mode).2)else if vq (td (a*b) 1000000 mode).1 1000000000=true then(0,3)else((td (a*b) 1000000 mode).1,0)
def nat_bd(h:¬1000000000<q):-9223372036854775808≤(q:Int)∧(q:Int)≤9223372036854775807:=So
def rm_bd(h1:-1000000000≤a∧a≤1000000000)(h2:-1000000000≤b∧b≤1000000000):-9223372036854775808≤a*b∧a*b≤9223372036854775807:=by
 have h3:(a*b).natAbs≤1000000000*1000000000:=by rw[Int.natAbs_mul];exact Nat.mul_le_mul zo zo
 omega
def Lt(mode:Int):Ct prog 290 [Sx mode] (.raw (.bool (fv mode))):=by refine Yk func290 ntmps290 fun w0 ok0=>?_;refine pA ?_;exact z1 results290 Z (rb (by simp[fv]))
def uo(n limit:Int)(h:0≤limit∧limit≤9223372036854775807):Ct prog 291 [Sx n,Sx limit] (.raw (.bool (vq n limit))):=by refine Yk func291 ntmps291 fun w0 ok0=>?_;refine MY ?_;refine zG Z Z (fun hg=>jx (.gd Z hg) zw) (Y6 ?_);exact z1 results291 Z (rb (by simp[vq]))
def rup_ok(q r d:Nat)(neg:Bool)(mode:Int)(hr:r<d)(hd:d≤9223372036854775808):Ct prog 292 [.raw (.int .u64 (q:Nat)),.raw (.int .u64 (r:Nat)),.raw (.int .u64 (d:Nat)),.raw (.bool neg),Sx mode] (.raw (.bool (Om q r d neg mode))):=by refine Yk func292 ntmps292 fun w0 ok0=>?_;refine Jk ?_ ?_<;>intro h1;have h1:r=0:=LF;refine Y7 ?_;exact Vr;have h1:¬r=0:=LF;refine Ks ?_ ?_<;>intro h4;have h4:mode=0:=Yo;exact Vm;have h4:¬mode=0:=Yo;refine Z6 ?_ ?_<;>intro h6;have h6:mode=1:=O3;refine Qh ?_;exact Vr;have h6:¬mode=1:=O3;refine Z6 ?_ ?_<;>intro h8;have h8:mode=3:=Qb;refine Y8 ?_;exact Vr;have h8:¬mode=3:=Qb;refine Z6 ?_ ?_<;>intro h10;have h10:mode=4:=Qk;refine Y5 ?_;refine zJ (cH (.b Z) (.b Z) (kR zo zo)) (Y7 ?_);exact Vr;have h10:¬mode=4:=Qk;refine Z6 ?_ ?_<;>intro h12;have h12:mode=5:=P9;refine Y5 ?_;refine zJ (cH (.b Z) (.b Z) (kR zo zo)) (Y5 ?_);refine zG Z Z (fun hg=>cH (.gd Z hg) (.gd Z hg) (kR zo zo)) (Y1 ?_);refine zG Z Z (fun hg=>ai (.gd Z hg)) ?_;refine Y1 ?_;refine cf _ _ _ _ _ _ _ Z Z Z Z Z (fun hg=>gc (.gd Z hg) (.b Z) zo (xg (m:=2))) ?_;exact Vm;have h12:¬mode=5:=P9;exact Vm
def mdV(c r mode:Int):Ct prog 272 [Sx c,Sx r,Sx mode] (Au (MH c r 1000000 mode)):=by refine Yk func272 ntmps272 fun w0 ok0=>?_;refine dy ?_;refine YK (acg _ _ _ _) ?_;refine Y7 ?_;exact z2 results272 Z Z (dp (Z))
def SCx(a b mode:Int):Ct prog 273 [Sx a,Sx b,Sx mode] (Au (KK a b mode)):=by refine Yk func273 ntmps273 fun w0 ok0=>?_;refine Qh ?_;refine YK (Lt _) ?_;refine Z3 ?_ ?_<;>intro h1;have h1:fv mode=false:=LF;refine Y8 ?_;exact z2 results273 Z Z (dp (by unfold KK;rw[Cg h1]));have h1:fv mode=true:=LF;refine Y6 ?_;refine zJ (an (uo _ _ zo) (.cons (.b Z) (.cons (.b Z) .nil)) Z Z) (Y2 ?_);refine zG Z Z (fun hg=>an (uo _ _ zo) (.cons (.gd Z hg) (.cons (.b Z) .nil)) Z Z) (Z3 ?_ ?_)<;>intro h3;skip;refine Y8 ?_;exact z2 results273 Z Z (dp (by unfold KK;rw[zE M5,Cg h3]));have k1:=rH (Eg h3).1;have k2:=rH (Eg h3).2;refine Y6 ?_;refine zJ (iz (.b Z) (.b Z) (N2 (rm_bd k1 k2))) (zM Z (YK (oL _ _ _) ?_));refine Po ?_ ?_<;>intro h6;have h6:(td (a*b) 1000000 mode).2≠0:=O3;refine Y9 ?_;exact z2 results273 Z Z (dp (by unfold KK;rw[zE M5,zE Oy,Cg h6]));have h6:¬(td (a*b) 1000000 mode).2≠0:=O3;refine Y6 ?_;refine zJ (an (uo _ _ zo) (.cons (.b Z) (.cons (.b Z) .nil)) Z Z) (zZ ?_);refine Z0 ?_ ?_<;>intro h8;skip;refine Y8 ?_;exact z2 results273 Z Z (dp (by unfold KK;rw[zE M5,zE Oy,zE h6,Cg h8]));skip;refine Qh ?_;exact z2 results273 Z Z (dp (by unfold KK;rw[zE M5,zE Oy,zE h6,zE acz]))
def EvS(num den mode:Int):Ct prog 275 [Sx num,Sx den,Sx mode] (Au (OU num den mode)):=by
 refine Yk func275 ntmps275 fun w0 ok0=>?_;refine Qh ?_;refine YK (Lt _) ?_;refine Z3 ?_ ?_<;>intro h1;have h1:fv mode=false:=LF;refine Y8 ?_;exact z2 results275 Z Z (dp (by unfold OU;rw[Cg h1]));have h1:fv mode=true:=LF;refine Z9 ?_ ?_<;>intro h3;have h3:den=0:=Av;refine Y8 ?_;exact z2 results275 Z Z (dp (by unfold OU;rw[zE M5,Cg h3]));have h3:¬den=0:=Av;refine Y6 ?_;refine zJ (an (uo _ _ zo) (.cons (.b Z) (.cons (.b Z) .nil)) Z Z) (Y2 ?_);refine zG Z Z (fun hg=>an (uo _ _ zo) (.cons (.gd Z hg) (.cons (.b Z) .nil)) Z Z) (Z3 ?_ ?_)<;>intro h5;skip;refine Y8 ?_;exact z2 results275 Z Z (dp (by unfold OU;rw[zE M5,zE h3,Cg h5]));have k5:=rH (Eg h5).1;have k6:=rH (Eg h5).2;have kd:0<den.natAbs:=So;have absnum:(if num < -num then -num else num)=((num.natAbs:Nat):Int):=Jz;have absden:(if den < -den then -den else den)=((den.natAbs:Nat):Int):=Jz;refine Y8 ?_;refine zJ (mj QT (.b Z) (.b Z)) (Y7 ?_);refine zJ (jx (.b Z) zw) (zJ (mQ (.b Z) (.b Z)) ?_);rw[absden];refine zJ (eW ⟨_,MV⟩ jZ (.b Z) (I9 zo)) (Y7 ?_);refine zJ (jx (.b Z) zw) (zJ (mQ (.b Z) (.b Z)) ?_);rw[absnum];refine zJ (eW ⟨_,MV⟩ jZ (.b Z) (I9 zo)) (zJ (an (rh (y:=1000000) zo zo) (.cons (.b Z) (.cons (.b Z) .nil)) Z Z) (Y9 ?_));obtain⟨p,hp⟩:∃p,num.natAbs*1000000=p:=⟨_,rfl⟩;rw[hp];have hpb:p≤1000000000000000000000:=So;refine Z6 ?_ ?_<;>intro h10;have h10:den.natAbs≤p/18446744073709551616:=by have:=MW h10;omega
 refine Y8 ?_;exact z2 results275 Z Z (dp (by unfold OU;rw[hp];rw[zE M5,zE h3,zE adh,Cg h10]));have h10:¬den.natAbs≤p/18446744073709551616:=by have:=J8 h10;omega
 refine Y7 ?_;refine zJ (an (vi zo zo (Na _ zo)) (.cons (.b Z) (.cons (.b Z) (.cons (.b Z) .nil))) Z Z) (Y6 ?_);rw[JC _ _];refine Z8 ?_ ?_<;>intro h13;have h13:1000000000<p/den.natAbs:=by have:=MW h13;omega
 refine Y8 ?_;exact z2 results275 Z Z (dp (by unfold OU;rw[hp];rw[zE M5,zE h3,zE adh,zE h10,Cg h13]));have h13:¬1000000000<p/den.natAbs:=by have:=J8 h13;omega
 refine Y5 ?_;refine zJ (eW ⟨_,jZ⟩ MV (.b Z) (N2 (nat_bd h13))) (zA Z (zQ [2,8,9,12,13,14] [] (aa (ac (zR ?_)))));refine Y5 ?_;refine zJ (an (rup_ok _ _ _ _ _ (Na _ kd) zo) (.cons (.b Z) (.cons (.b Z) (.cons (.b Z) (.cons (.b Z) (.cons (.b Z) .nil))))) Z Z) (zZ ?_);refine Z0 ?_ ?_<;>intro h16;have hv:((kS (p/den.natAbs) (p%den.natAbs) den.natAbs (ma num den) mode:Nat):Int)=((p/den.natAbs:Nat):Int)+1:=by unfold kS;rw[Cg (show Om _ _ _ (ma num den) _=true from h16)];rfl
 refine Y8 ?_;exact ST;have hv:((kS (p/den.natAbs) (p%den.natAbs) den.natAbs (ma num den) mode:Nat):Int)=((p/den.natAbs:Nat):Int):=by unfold kS;rw[zE (show ¬Om _ _ _ (ma num den) _=true from(by rw[show Om _ _ _ (ma num den) _=false from h16];decide))]
 refine Y4 ?_;exact ST
end Go.Eng
