import Derived.Test.YtehcaebnijlhgaaGreatDoorM7
set_option linter.all false
set_option maxRecDepth 100000
set_option maxHeartbeats 9000000
namespace Go.Eng
open Go.Proofs Tryz
variable{H Q W l out xs:List Int}{d x:Int}{dd:List (List Int)}{e:List aF}{i j k n:Nat}{p:Int→Bool}{s:aL}{seen:List Bool}
def gt(xs:List Int)(k:Nat):Int:=xs.getD k 0
def sw(xs:List Int)(i j:Nat):List Int:=(xs.set i (gt xs j)).set j (gt xs i)
def pL(xs:List Int)(i j:Nat):(sw xs i j).length=xs.length:=by simp[sw]
def uP(h:k<xs.length):gt xs k=xs[k]:=by simp[gt,h]
def vE(hi:i<xs.length)(hj:j<xs.length)(k:Nat):gt (sw xs i j) k=if k=j then gt xs i else if k=i then gt xs j else gt xs k:=by simp only[gt,sw,zy,Ku,QC];by_cases e1:k=j;subst e1;simp[hj];rw[zE (fun e=>e1 e.symm),zE e1];by_cases e2:k=i;subst e2;simp[hi];rw[zE (fun e=>e2 e.symm),zE e2]
def w8(hi:i<xs.length)(hj:j<xs.length):(sw xs i j).Perm xs:=by unfold sw;rw[uP hi,uP hj];exact List.set_set_perm hi hj
def gU(n:Nat)(xs:List Int):Prop:=∀k,0<k→k<n→gt xs ((k-1)/2)≤gt xs k
def KM(xs:List Int)(j:Nat):Prop:=(∀k,0<k→k<xs.length→k≠j→gt xs ((k-1)/2)≤gt xs k)∧(∀k,0<k→k<xs.length→(k-1)/2=j→0<j→gt xs ((j-1)/2)≤gt xs k)
def acS(h:KM xs j)(hj:j<xs.length)(h0:0<j)(hl:gt xs j<gt xs ((j-1)/2)):KM (sw xs ((j-1)/2) j) ((j-1)/2):=by
 obtain⟨h1,h2⟩:=h;have hg:=vE (xs:=xs) (i:=(j-1)/2) (j:=j) zo hj;generalize hi:(j-1)/2=i at *
 have hij:i<j:=So;refine⟨fun k a b c=>?_,fun k a b c d=>?_⟩;rw[pL]at b;rw[hg,hg];by_cases e1:k=j;subst e1;rw[hi,zE zo,Cg rfl,Cg rfl];omega;rw[zE e1,zE c];by_cases e2:(k-1)/2=j;rw[Cg e2];exact h2 k a b e2 zo;rw[zE e2];have:=h1 k a b e1;by_cases e3:(k-1)/2=i;rw[Cg e3];rw[e3]at this;omega;rw[zE e3];exact this;rw[pL]at b;rw[hg,hg];have q:=h1 i d zo zo;rw[zE zo,zE zo];by_cases e1:k=j;rw[Cg e1];exact q;rw[zE e1,zE zo];have:=h1 k a b e1;rw[c]at this;omega
def Z17(h:KM xs 0):gU xs.length xs:=fun k a b=>h.1 k a b zo
def anc(h:KM xs j)(hl:¬gt xs j<gt xs ((j-1)/2)):gU xs.length xs:=fun k a b=>by by_cases e:k=j;subst e;omega;exact h.1 k a b e
def Du(h:gU xs.length xs):KM (xs++[x]) xs.length:=by
 have hg:∀k,k<xs.length→gt (xs++[x]) k=gt xs k:=fun k hk=>by simp[gt,zy,NH hk]
 refine⟨fun k a b c=>?_,fun k a b c d=>?_⟩;simp at b;rw[hg _ zo,hg _ zo];exact h k a zo;simp at b;omega
def QO(n:Nat)(xs:List Int)(i:Nat):Prop:=(∀k,0<k→k<n→(k-1)/2≠i→gt xs ((k-1)/2)≤gt xs k)∧(∀k,0<k→k<n→(k-1)/2=i→0<i→gt xs ((i-1)/2)≤gt xs k)
def SmF(h:QO n xs i)(hn:n≤xs.length)(hj:j<n)(hj0:0<j)(hp:(j-1)/2=i)(hm:∀k,0<k→k<n→(k-1)/2=i→gt xs j≤gt xs k)(hl:gt xs j<gt xs i):QO n (sw xs i j) j:=by obtain⟨h1,h2⟩:=h;have hg:=vE (xs:=xs) (i:=i) (j:=j) zo zo;refine⟨fun k a b c=>?_,fun k a b c d=>?_⟩;rw[hg,hg,zE c];by_cases e1:k=j;subst e1;rw[hp,Cg rfl,Cg rfl];omega;rw[zE e1];by_cases e2:k=i;subst e2;rw[zE zo,Cg rfl];exact h2 j hj0 hj hp a;rw[zE e2];by_cases e3:(k-1)/2=i;rw[Cg e3];exact hm k a b e3;rw[zE e3];exact h1 k a b e3;rw[hg,hg,hp,zE zo,Cg rfl,zE zo,zE zo];have:=h1 k a b zo;rw[c]at this;exact this
def dn_end(h:QO n xs i)(hi:n≤2*i+1):gU n xs:=fun k a b=>h.1 k a b zo
def inB(h:QO n xs i)(hm:∀k,0<k→k<n→(k-1)/2=i→gt xs j≤gt xs k)(hl:¬gt xs j<gt xs i):gU n xs:=fun k a b=>by by_cases e:(k-1)/2=i;rw[e];have:=hm k a b e;omega;exact h.1 k a b e
def Fi(h:gU xs.length xs)(h0:0<xs.length):QO (xs.length-1) (sw xs 0 (xs.length-1)) 0:=by have hg:=vE (xs:=xs) (i:=0) (j:=xs.length-1) zo zo;refine⟨fun k a b c=>?_,fun k a b c d=>So⟩;rw[hg,hg,zE zo,zE c,zE zo,zE zo];exact h k a zo
def rtE(h:gU n xs):∀k,k<n→gt xs 0≤gt xs k:=by
 intro k;induction k using Nat.strongRecOn with
 | _ k ih=>intro hk;rcases afr k with e|e;subst e;omega;have:=ih ((k-1)/2) zo zo;have:=h k e hk;omega
def rtV(h:gU n xs)(hn:n≤xs.length):gU (xs.take n).length (xs.take n):=fun k a b=>by
 simp at b;have hg:∀q,q<n→gt (xs.take n) q=gt xs q:=fun q hq=>by simp[gt,zy,PC,hq]
 rw[hg _ zo,hg _ zo];exact h k a zo
def ofC{ys:List Int}(h0:0<xs.length)(hp:ys.Perm (sw xs 0 (xs.length-1)))(hl:gt ys (xs.length-1)=gt (sw xs 0 (xs.length-1)) (xs.length-1)):xs.Perm (gt xs 0::ys.take (xs.length-1))∧gt ys (xs.length-1)=gt xs 0:=by
 have hlen:ys.length=xs.length:=by rw[hp.length_eq,pL]
 have e:gt ys (xs.length-1)=gt xs 0:=by rw[hl,vE zo zo,Cg rfl]
 refine⟨?_,e⟩;have h1:ys.Perm xs:=hp.trans (w8 zo zo);refine h1.symm.trans ?_;have h2:ys=ys.take (xs.length-1)++[gt xs 0]:=by rw[←e,uP zo,List.take_append_getElem,fV zo]
 rw[h2,N3 QE,LV,Nat.min_self];exact List.perm_append_comm.trans (List.Perm.refl _)
def apS(h:gU xs.length xs)(hx:x∈xs):gt xs 0≤x:=by obtain⟨k,hk,rfl⟩:=Fe.1 hx;rw[←uP hk];exact rtE h k hk
def kq:Ty prog 284 rHd:=by obtain⟨⟨de,hu,hd⟩,i0,hi0,hs⟩:=ty284;exact⟨⟨de,hu,hd⟩,i0,hi0,hs⟩
def Mi:MT prog 283 "Len" 176 false:=abn
def xn:MT prog 283 "Less" 311 false:=abn
def xm:MT prog 283 "Swap" 314 false:=abn
def aeB:MT prog 283 "Push" 313 true:=abn
def mt_pop:MT prog 283 "Pop" 312 true:=abn
def CQ(xs:List Int)(hm:xs.length≤100000):Ct prog 176 [.tv (ag (ay .i64)) xs] (Sx xs.length):=by refine Yk func176 ntmps176 fun w0 ok0=>?_;refine MY ?_;exact z1 results176 Z (Z)
def uN(xs:List Int)(i j:Nat)(hi:i<xs.length)(hj:j<xs.length):Ct prog 311 [.tv (ag (ay .i64)) xs,Sx (i:Nat),Sx (j:Nat)] (.raw (.bool (decide (gt xs i<gt xs j)))):=by refine Yk func311 ntmps311 fun w0 ok0=>?_;refine Ki ?_;refine aa (am ?_);exact z1 results311 Z (rb (by rw[uP hi,uP hj]))
def mB(xs:List Int)(i j:Nat)(hi:i<xs.length)(hj:j<xs.length):CtI prog 314 (ay .i64) (uHead) xs (fun ys=>ys=sw xs i j) [Sx (i:Nat),Sx (j:Nat)] (.raw (.tuple #[])):=by refine lP (Li 100 101 1) (fun _ _ _ _ _=>ER) func314 Z Z Z Z Z ?_;intro w0 ok0 pb po A cap ex;refine je (bL Z (xy Z (.l1 Z)) (ca (ai (.b Z)) (bL Z (xy Z (.l1 Z)) (ca (ai (.b Z)) (bL Z (xy Z (.l1 Z)) (ca (ai (.b Z)) (bL Z (sk Z oy Sj (.b1 Z) (.b Z) Z zh) (ca (ah Sj (.b Z) Z zg (Lens.id _)) (bL Z (xy Z (.l1 Z)) (ca (ai (.b Z)) (bL Z (sk Z oy Sj (.b1 Z) (.b Z) Z zh) (ca (ah Sj (.b Z) Z zg (Lens.id _)) (bL Z (sk Z oy Sj (.b1 Z) (.b Z) Z zh) (LJ Sj Z Z zg (Lens.id _) (.raw (.b Z) Z) (bL Z (sk Z oy Sj (.b1 Z) (.b Z) Z zh) (LJ Sj Z Z zg (Lens.id _) (.raw (.b Z) Z) (je0 ?_)))))))))))))))));exact uJ (s0:=0) results314 Z ER Z Z Sp (by simp only[N1];unfold sw;rw[uP hi,uP hj])
def EX(xs:List Int)(x:Int)(hsm:xs.length≤1000):CtI prog 313 (ay .i64) (uPtr) xs (fun ys=>ys=xs++[x]) [.raw (.iface 3 (.int .i64 x))] (.raw (.tuple #[])):=by
 refine lP (qD 100 101 1) (fun _ _ _ _ _=>oF) func313 Z Z Z Z Z ?_;intro w0 ok0 pb po A cap ex;refine zR (zM Z (zJ (yy MV (.b Z)) (Jk ?_ ?_)))<;>intro h1
 ·try simp at h1
  refine ab (zJ (ai (.l1 Z)) (zJ (ai (.l1 Z)) (zJ (mh (.b Z) (.inr ⟨_,Z⟩)) (zJ (ah kq (.b1 Z) Z Z (Lens.id _)) ?_))));refine jD 0 15 Z Z Z ?_;refine zM Z (zJ (bP (rt:=(ay .i64)) oy Sj z3 Z (.cons (.raw (.b Z) Z) .nil) Z Z) (zV [0,12] oy Sj z3 J7 Z Z (.tv (.b Z)) ?_));refine zJ (mh (.b Z) (.inr ⟨_,Z⟩)) ?_;refine ge 0 18 Z Z (fun A2 cap2=>?_);refine zO (bH (d:=(A2,xs.length + [x].length,cap2)) kq (.b1 Z) Z Z (Lens.id _) (.raw (.b Z) Z)) (aS ?_);exact uJ (s0:=0) (sv:=qD 100 101 1 pb po _ _ _) results313 Z oF Z Z Sp Sp
 cases h1
def Ii(xs:List Int)(hsm:0<xs.length)(hm:xs.length≤1000):CtI prog 312 (ay .i64) (uPtr) xs (fun ys=>ys=xs.take (xs.length-1)) [] (.raw (.iface 3 (.int .i64 (gt xs (xs.length-1))))):=by refine lP (qD 100 101 1) (fun _ _ _ _ _=>oF) func312 Z Z Z Z Z ?_;intro w0 ok0 pb po A cap ex;refine Y7 ?_;refine zJ (ai (.l1 Z)) (zJ (mh (.b Z) (.inr ⟨_,Z⟩)) (zJ (ah kq (.b1 Z) Z Z (Lens.id _)) (zA Z ?_)));refine jD 0 3 Z Z Z ?_;refine Y8 ?_;refine zJ (bk oy Sj (.b Z) (.b Z) (show((xs.length:Nat):Int)-1=((xs.length-1:Nat):Int)from So) zh) ?_;refine bi _ Z _ Z Z (ah Sj (.b Z) Z zg (Lens.id _)) ?_;refine Qh ?_;refine zJ (hJ oy Sj (.b Z) Z ⟨_,_,(.b Z),(show((xs.length:Nat):Int)-1=((xs.length-1:Nat):Int)from So)⟩ zo zo) (zJ (mh (.b rfl) (.inr ⟨_,rfl⟩)) ?_);refine ge 0 19 Z Z (fun A2 cap2=>?_);refine zO (bH (d:=(A2,xs.length-1-0,cap2)) kq (.b1 Z) Z Z (Lens.id _) (.raw (.b Z) Z)) ?_;refine vaD 101 (xs.length-1) Z ?_;refine zZ (zR (zM Z (zJ (ra MV (.b Z)) (zY Z (aa (am ?_))))));exact ru (s0:=0) (sv:=qD 100 101 1 pb po _ _ _) results312 (ar Z) Z (by simp only[N1];rw[uP zo]) rfl oF rfl rfl Sp rfl
def par_eq(j:Nat)(h:j<1000000):IntKind.wrap .i64 (((j:Int)-1).tdiv 2)=(((j-1)/2:Nat):Int):=by
 have e:((j:Int)-1).tdiv 2=(((j-1)/2:Nat):Int):=by
  cases j with
  | zero=>rfl
  | succ n=>rw[show((n+1:Nat):Int)-1=(n:Int)by omega,Int.tdiv_eq_ediv_of_nonneg zo,show n+1-1=n by omega];rfl
 rw[e];exact N2 zo
def Nm(xs:List Int)(j0:Nat)(h0:KM xs j0)(hj0:j0<xs.length)(hm:xs.length≤1001):CtI prog 217 (ay .i64) (O4 283) xs (fun ys=>ys.Perm xs∧gU ys.length ys) [Sx (j0:Nat)] (.raw (.tuple #[])):=by
 refine lP (nB 283 100 101 1) (fun _ _ _ _ _=>dW) func217 Z Z Z Z Z ?_;intro w0 ok0 pb po A cap ex;refine az ?_;refine bf (ι:=(List Int×Nat×Option Addr×Nat)) (fun(ys,j,A,cap)=>⟨[(0,(nB 283 100 101 1 pb po) A ys.length cap),(1,Sx ((j:Nat)))],[(100,⟨rHd,[(A,(ys).length,cap)]⟩),(101,⟨ay .i64,ys⟩)]⟩) (fun(ys,j,A,cap)=>ys.Perm xs∧KM ys j∧j<ys.length) (fun(ys,j,A,cap)=>j) (xs,j0,A,cap) (⟨.refl _,h0,hj0⟩) (fun a w hi=>(zI hi)) ?_;rintro⟨ys,j,A,cap⟩⟨hp,hu,hj⟩;have hlen:=hp.length_eq;refine Y5 ?_;refine zJ (i9 (.b Z) (.b Z) zo (par_eq j zo)) (MY ?_);refine zG Z Z (fun hg=>lF (uN ys j ((j-1)/2) hj zo) xn nt kq (.gd Z hg) dW Z Z Z Z Z (.cons (.gd Z hg) Z (.cons (.gd Z hg) Z .nil)) fh) (Z4 ?_ ?_)<;>intro h1;have hh:gU ys.length ys:=by by_cases e:j=0;subst e;exact Z17 hu;exact anc hu (by simp at h1;rcases h1 with h1|h1;omega;omega)
 refine bq (bv (pp Z (bd (bp ?_))));exact uJ (s0:=0) results217 Z dW Z Z Z ⟨hp,hh⟩;have h1a:0<j:=CY;have h1b:gt ys j<gt ys ((j-1)/2):=CY;refine Y7 ?_;refine jE (c0:=0) (nb:=100) (nm:=101) (pb:=pb) (po:=po) (nB 283 100 101 1 pb po) [] [4] (mB ys ((j-1)/2) j zo hj) Z Z Z (fun _ _ _=>dW) (fun β a w hi=>uM hi (mB ys ((j-1)/2) j zo hj).ent xm nt kq (.b Z) dW Z) Z Z Z Z (.cons (.b Z) (.cons (.b Z) .nil)) Z Z Z Z (.free Z Z (.nil)) ?_;intro ys2 A2 cap2 hq;subst hq;refine Y7 ?_;exact aE (fun a w hi=>⟨(sw ys ((j-1)/2) j,(j-1)/2,A2,cap2),zj,(⟨(w8 zo hj).trans hp,acS hu hj h1a h1b,acL⟩),(zI hi)⟩)
def EY(xs:List Int)(n0:Nat)(h0:QO n0 xs 0)(hn:n0≤xs.length)(hm:xs.length≤1001):CtI prog 218 (ay .i64) (O4 283) xs (fun ys=>ys.Perm xs∧gU n0 ys∧gt ys n0=gt xs n0) [Sx 0,Sx (n0:Nat)] (.tv FY ()):=by
 refine lP (nB 283 100 101 1) (fun _ _ _ _ _=>dW) func218 Z Z Z Z Z ?_;intro w0 ok0 pb po A cap ex;refine MY ?_;refine bf (ι:=(List Int×Nat×Option Addr×Nat)) (fun(ys,i,A,cap)=>⟨[(0,(nB 283 100 101 1 pb po) A ys.length cap),(1,Sx 0),(2,Sx ((n0:Nat))),(7,Sx ((i:Nat)))],[(100,⟨rHd,[(A,(ys).length,cap)]⟩),(101,⟨ay .i64,ys⟩)]⟩) (fun(ys,i,A,cap)=>ys.Perm xs∧QO n0 ys i∧i≤n0∧gt ys n0=gt xs n0) (fun(ys,i,A,cap)=>n0-i) (xs,0,A,cap) (⟨.refl _,h0,P8 _,Z⟩) (fun a w hi=>(zI hi)) ?_;rintro⟨ys,i,A,cap⟩⟨hp,hd,hi0,ht⟩;have hlen:=hp.length_eq;refine Y7 ?_;rw[show(2*(i:Int)+1)=((2*i+1:Nat):Int)from So];refine Po ?_ ?_<;>intro h3;have hh:gU n0 ys:=dn_end hd E4;refine bq (bv (pp Z (zb ?_)));refine yY 6 Z ?_;exact ru (s0:=0) results218 (ar Z) Z Z Z dW Z Z Z ⟨hp,hh,ht⟩;have h3a:2*i+1<n0:=E4;refine Lc ?_;rw[show(((2*i+1:Nat):Int)+1)=((2*i+2:Nat):Int)from So];refine dy ?_;refine zG Z Z (fun hg=>lF (uN ys (2*i+2) (2*i+1) PA zo) xn nt kq (.gd rfl hg) dW rfl rfl rfl rfl rfl (.cons (.gd rfl hg) rfl (.cons (.gd rfl hg) rfl .nil)) fh) (Z3 ?_ ?_)<;>intro h6;obtain⟨jj,hjj⟩:∃jj,jj=2*i+2:=⟨_,rfl⟩;have hjn:jj<n0:=Si;have hj0:0<jj:=So;have hjp:(jj-1)/2=i:=So;have hm:∀k,0<k→k<n0→(k-1)/2=i→gt ys jj≤gt ys k:=fun k a b c=>by have h6:gt ys (2*i+2)<gt ys (2*i+1):=Si;subst hjj;rcases(show k=2*i+1∨k=2*i+2 by omega)with e|e;subst e;omega;subst e;omega
 rw[←hjj];refine dy ?_;refine zJ (lF (uN ys jj i zo zo) xn nt kq (.b Z) dW Z Z Z Z Z (.cons (.b Z) Z (.cons (.b Z) Z .nil)) fh) (Z3 ?_ ?_)<;>intro h8;exact VP;have hl:gt ys jj<gt ys i:=Qb;refine Y7 ?_;refine jE (c0:=0) (nb:=100) (nm:=101) (pb:=pb) (po:=po) (nB 283 100 101 1 pb po) [] [1,2,9] (mB ys i jj zo zo) Z Z Z (fun _ _ _=>dW) (fun β a w hi=>uM hi (mB ys i jj zo zo).ent xm nt kq (.b Z) dW Z) Z Z Z Z (.cons (.b Z) (.cons (.b Z) .nil)) Z Z Z Z (.free Z Z (.free Z Z (.free Z Z (.nil)))) ?_;intro ys2 A2 cap2 hq;subst hq;refine Y7 ?_;exact VI;obtain⟨jj,hjj⟩:∃jj,jj=2*i+1:=⟨_,rfl⟩;have hjn:jj<n0:=So;have hj0:0<jj:=So;have hjp:(jj-1)/2=i:=So;have hm:∀k,0<k→k<n0→(k-1)/2=i→gt ys jj≤gt ys k:=fun k a b c=>by subst hjj;rcases(show k=2*i+1∨k=2*i+2 by omega)with e|e;subst e;omega;subst e;simp at h6;have:=h6 zo;omega
 rw[←hjj];refine Y8 ?_;refine zJ (lF (uN ys jj i zo zo) xn nt kq (.b Z) dW Z Z Z Z Z (.cons (.b Z) Z (.cons (.b Z) Z .nil)) fh) (Z3 ?_ ?_)<;>intro h8;exact VP;have hl:gt ys jj<gt ys i:=Qb;refine Y7 ?_;refine jE (c0:=0) (nb:=100) (nm:=101) (pb:=pb) (po:=po) (nB 283 100 101 1 pb po) [] [1,2,9] (mB ys i jj zo zo) Z Z Z (fun _ _ _=>dW) (fun β a w hi=>uM hi (mB ys i jj zo zo).ent xm nt kq (.b Z) dW Z) Z Z Z Z (.cons (.b Z) (.cons (.b Z) .nil)) Z Z Z Z (.free Z Z (.free Z Z (.free Z Z (.nil)))) ?_;intro ys2 A2 cap2 hq;subst hq;refine zQ [0,1,2,9] [100,101] (aa (ab ?_));refine Y4 ?_;exact VI
def oG(xs:List Int)(x:Int)(hh:gU xs.length xs)(hm:xs.length≤1000):CtI prog 175 (ay .i64) (O4 283) xs (fun ys=>ys.Perm (x::xs)∧gU ys.length ys) [.raw (.iface 3 (.int .i64 x))] (.raw (.tuple #[])):=by refine lP (nB 283 100 101 1) (fun _ _ _ _ _=>dW) func175 Z Z Z Z Z ?_;intro w0 ok0 pb po A cap ex;refine Y4 ?_;refine jE (c0:=0) (nb:=100) (nm:=101) (pb:=pb) (po:=po) (nB 283 100 101 1 pb po) [] [] (EX xs x hm) Z Z Z (fun _ _ _=>dW) (fun β a w hi=>EV hi (EX xs x hm).ent aeB nt (.b Z) dW) Z Z Z Z (.cons (.b Z) .nil) Z Z Z Z (.nil) ?_;intro ys2 A2 cap2 hq;subst hq;refine zZ ?_;have hxl:(xs++[x]).length=xs.length+1:=Sp;refine Y3 ?_;refine zJ (lF (CQ (xs++[x]) (by(try simp);omega)) Mi nt kq (.b rfl) dW rfl rfl rfl rfl rfl .nil fh) (Y1 ?_);rw[show(((xs++[x]).length:Nat):Int)-1=((xs.length:Nat):Int)from Sp];refine jE (c0:=0) (nb:=100) (nm:=101) (pb:=pb) (po:=po) (nB 283 100 101 1 pb po) [] [] (Nm (xs++[x]) xs.length (Du hh) Sp QE) rfl rfl rfl (fun _ _ _=>dW) (fun β a w hi=>EW hi (Nm (xs++[x]) xs.length (Du hh) Sp QE).ent (.b rfl) dW) rfl rfl rfl rfl (.cons (.b rfl) .nil) rfl rfl rfl rfl (.nil) ?_;intro ys3 A3 cap3 hq;refine aS ?_;exact uJ (s0:=0) results175 Z dW Z Z Z ⟨hq.1.trans (List.perm_append_comm.trans (List.Perm.refl _)),hq.2⟩
def zi(xs:List Int)(hh:gU xs.length xs)(h0:0<xs.length)(hm:xs.length≤1000):CtI prog 177 (ay .i64) (O4 283) xs (fun ys=>xs.Perm (gt xs 0::ys)∧gU ys.length ys) [] (.raw (.iface 3 (.int .i64 (gt xs 0)))):=by
 refine lP (nB 283 100 101 1) (fun _ _ _ _ _=>dW) func177 Z Z Z Z Z ?_;intro w0 ok0 pb po A cap ex;refine Y8 ?_;refine zJ (lF (CQ xs (by(try simp);omega)) Mi nt kq (.b rfl) dW rfl rfl rfl rfl rfl .nil fh) (Y2 ?_);rw[show((xs.length:Nat):Int)-1=((xs.length-1:Nat):Int)from So];refine Y6 ?_;rw[show(Value.int IntKind.i64 0)=Value.int IntKind.i64 ((0:Nat):Int)from rfl];refine jE (c0:=0) (nb:=100) (nm:=101) (pb:=pb) (po:=po) (nB 283 100 101 1 pb po) [] [3] (mB xs 0 (xs.length-1) zo zo) Z Z Z (fun _ _ _=>dW) (fun β a w hi=>uM hi (mB xs 0 (xs.length-1) zo zo).ent xm nt kq (.b Z) dW Z) Z Z Z Z (.cons (.b Z) (.cons (.b Z) .nil)) Z Z Z Z (.free Z Z (.nil)) ?_;intro ys2 A2 cap2 hq;subst hq;refine Y6 ?_;refine jE (c0:=0) (nb:=100) (nm:=101) (pb:=pb) (po:=po) (nB 283 100 101 1 pb po) [] [] (EY (sw xs 0 (xs.length-1)) (xs.length-1) (Fi hh h0) acL acL) rfl rfl rfl (fun _ _ _=>dW) (fun β a w hi=>EW hi (EY (sw xs 0 (xs.length-1)) (xs.length-1) (Fi hh h0) acL acL).ent (.b rfl) dW) rfl rfl rfl rfl (.cons (.b rfl) (.cons (.b rfl) .nil)) rfl rfl rfl rfl (.nil) ?_;intro ys3 A3 cap3 hq;obtain⟨hq1,hq2,hq3⟩:=hq;have hl3:ys3.length=xs.length:=by rw[hq1.length_eq,pL]
 obtain⟨pq1,pq2⟩:=ofC h0 hq1 hq3;refine Y5 ?_;refine jE (c0:=0) (nb:=100) (nm:=101) (pb:=pb) (po:=po) (nB 283 100 101 1 pb po) [] [] (Ii ys3 zo zo) Z Z Z (fun _ _ _=>dW) (fun β a w hi=>EV hi (Ii ys3 zo zo).ent mt_pop nt (.b Z) dW) Z Z Z Z .nil Z Z Z Z (.nil) ?_;intro ys4 A4 cap4 hq;subst hq;refine Y4 ?_;exact ru (s0:=0) results177 (ar Z) Z (by rw[hl3,pq2]) Z dW Z Z Z ⟨by rw[hl3];exact pq1,by rw[hl3];exact rtV hq2 zo⟩
section
open Go.Sort
def pc:GM Tryz.prog 76 (fun zs=>zs.mergeSort fun x y=>decide (x≤y)) (fun _=>none) where
 ent:=cJ Tryz.func76 rfl zk
 len zs:=J2 zs
 cut zs n h:=LD
 some_ blk off cap zs w hH hb hz _:=Go.Proofs.Tryz.slices_Sort_int blk off cap zs w hH hb hz
 none_ A cap w:=Go.Proofs.Tryz.slices_Sort_int_none A cap w
def N8(zs:List Int):List Int:=Lib.compact zs++List.replicate (zs.length-(Lib.compact zs).length) 0
def rF(zs:List Int):(N8 zs).length=zs.length:=by have:=Lib.compact_length_le zs;simp[N8];omega
def m5:GM Tryz.prog 77 N8 (fun zs=>some (Lib.compact zs).length) where
 ent:=cJ Tryz.func77 rfl zk
 len:=rF
 cut zs n h:=by injection h with h;subst h;exact Lib.compact_length_le zs
 some_ blk off cap zs w hH hb hz hc:=(Go.Proofs.Tryz.slices_Compact_int blk off cap zs w hH zo hc).mono (by
  rintro e w' ⟨rfl,q,rfl⟩;exact⟨rfl,q,#[],by simp[N8]⟩)
 none_ A cap w:=(Go.Proofs.Tryz.slices_Compact_int_empty A cap w).mono (by rintro e w' ⟨rfl,rfl⟩;exact⟨rfl,rfl⟩)
def Gs(zs:List Int):List Int:=N8 (zs.mergeSort fun x y=>decide (x≤y))
def lU:GM Tryz.prog 89 Gs (fun zs=>some (dX zs).length) where
 ent:=cJ Tryz.func89 rfl zk
 len zs:=by rw[Gs,rF,J2]
 cut zs n h:=by injection h with h;subst h;exact iY zs
 some_ blk off cap zs w hH hb hz hc:=by
  have hsort:=pc.some_ blk off cap zs w hH hb hz hc
  go_enter Tryz.func89,Tryz.ntmps89
  go_wp2_with (first
   | (
    go_at_call 76;refine hsort.mono ?_;rintro e w1 ⟨rfl,nn,os,rfl⟩
    have hl2:(zs.mergeSort fun x y=>decide (x≤y)).length=zs.length:=J2 zs
    have hH2:Holds (Value.int .i64) (grow (putRow (Value.int .i64) (Sort.ahead w nn) blk off (zs.mergeSort fun x y=>decide (x≤y)).toArray) os) blk off (zs.mergeSort fun x y=>decide (x≤y)).toArray:=
     holds_grow _ _ os blk off _ aaC (holds_putRow _ _ blk off _ _ (holds_ahead _ w nn blk off _ hH) Sp)
    have hcomp:=m5.some_ blk off cap (zs.mergeSort fun x y=>decide (x≤y)) _ hH2 Zw zo zo
    rw[hl2]at hcomp
    clear hH2 hsort)
   | (go_at_call 77;refine hcomp.mono ?_;rintro e w3 ⟨rfl,q,os2,rfl⟩))
  go_ret
  exact TI
 none_ A cap w:=by
  have hsort:=pc.none_ A cap w
  have hcomp:=m5.none_ A cap w
  go_enter Tryz.func89,Tryz.ntmps89
  go_wp2_with (first
   | (go_at_call 76;refine hsort.mono ?_;rintro e w1 ⟨rfl,rfl⟩)
   | (go_at_call 77;refine hcomp.mono ?_;rintro e w3 ⟨rfl,rfl⟩))
  go_ret
  exact⟨Z,Z⟩
def qR:GM Tryz.prog 126 Gs (fun zs=>some (dX zs).length) where
 ent:=cJ Tryz.func126 rfl zk
 len zs:=by rw[Gs,rF,J2]
 cut zs n h:=by injection h with h;subst h;exact iY zs
 some_ blk off cap zs w hH hb hz hc:=by
  have hsort:=pc.some_ blk off cap zs w hH hb hz hc
  go_enter Tryz.func126,Tryz.ntmps126
  go_wp2_with (first
   | (
    go_at_call 76;refine hsort.mono ?_;rintro e w1 ⟨rfl,nn,os,rfl⟩
    have hl2:(zs.mergeSort fun x y=>decide (x≤y)).length=zs.length:=J2 zs
    have hH2:Holds (Value.int .i64) (grow (putRow (Value.int .i64) (Sort.ahead w nn) blk off (zs.mergeSort fun x y=>decide (x≤y)).toArray) os) blk off (zs.mergeSort fun x y=>decide (x≤y)).toArray:=
     holds_grow _ _ os blk off _ aaC (holds_putRow _ _ blk off _ _ (holds_ahead _ w nn blk off _ hH) Sp)
    have hcomp:=m5.some_ blk off cap (zs.mergeSort fun x y=>decide (x≤y)) _ hH2 Zw zo zo
    rw[hl2]at hcomp
    clear hH2 hsort)
   | (go_at_call 77;refine hcomp.mono ?_;rintro e w3 ⟨rfl,q,os2,rfl⟩))
  go_ret
  exact TI
 none_ A cap w:=by
  have hsort:=pc.none_ A cap w
  have hcomp:=m5.none_ A cap w
  go_enter Tryz.func126,Tryz.ntmps126
  go_wp2_with (first
   | (go_at_call 76;refine hsort.mono ?_;rintro e w1 ⟨rfl,rfl⟩)
   | (go_at_call 77;refine hcomp.mono ?_;rintro e w3 ⟨rfl,rfl⟩))
  go_ret
  exact⟨Z,Z⟩
end

def Sa(p:Int→Bool)(l:List aF):List Int:=(l.filter (fun d=>p d.1)).map (·.2)
def Oj(op:Int):Bool:=op==7
def fH(op:Int):Bool:=op==8
def pU(op:Int):Bool:=decide (36≤op∧op≤39)
def vK(hk:k<e.length)(h:p e[k].1=true):Sa p (e.take (k+1))=Sa p (e.take k)++[e[k].2]:=by exact W2
def kz(hk:k<e.length)(h:p e[k].1=false):Sa p (e.take (k+1))=Sa p (e.take k):=by exact W2
def un{l:List aF}:(Sa p l).length≤l.length:=by simp only[Sa,QJ];exact FQ _ _
def Fh(zs:List Int):(Gs zs).take (dX zs).length=dX zs:=DZ rfl
def aeC(zs:List Int):(Gs zs).length=zs.length:=lU.len zs
def sv3s(a b c:List Int):SV:=.tup3 (.tv (ag (ay .i64)) a) (.tv (ag (ay .i64)) b) (.tv (ag (ay .i64)) c)
def f5(e:List aF)(hm:e.length≤1000):Ct prog 45 [.tv (ag aZ) e] (sv3s (dX (Sa Oj e)) (dX (Sa fH e)) (dX (Sa pU e))):=by
 refine Yk func45 ntmps45 fun w0 ok0=>?_;refine Y23 ?_;refine jF 70 5 (ay .i64) Z Z Z ?_;refine jF 71 6 (ay .i64) Z Z Z ?_;refine jF 72 7 (ay .i64) Z Z Z ?_;refine bf (ι:=Nat) (fun k=>⟨[(5,.own 70 (ay .i64).n 0 (Sa Oj (e.take k)).length),(6,.own 71 (ay .i64).n 0 (Sa fH (e.take k)).length),(7,.own 72 (ay .i64).n 0 (Sa pU (e.take k)).length),(10,.tv (ag aZ) e),(11,Sx e.length),(12,Sx ((k:Nat)))],[(70,⟨ay .i64,(Sa Oj (e.take k))⟩),(71,⟨ay .i64,(Sa fH (e.take k))⟩),(72,⟨ay .i64,(Sa pU (e.take k))⟩)]⟩) (fun k=>k≤e.length) (fun k=>e.length-k) 0 (P8 _) (fun a w hi=>(zI hi)) ?_;rintro k hk;have l1:=un (p:=Oj) (l:=e.take k);have l2:=un (p:=fH) (l:=e.take k);have l3:=un (p:=pU) (l:=e.take k);have l4:(e.take k).length≤k:=QE;refine Z6 ?_ ?_<;>intro h3
 ·try simp at h3
  refine Z25 ?_ ?_<;>intro h6
  ·try simp at h6
   refine Y4 ?_;refine zJ (bP (rt:=(ay .i64)) bT Sj z3 Z (.cons (.raw (.b Z) Z) .nil) Z Z) (zV [6,7,10,11,12] bT Sj z3 J7 Z Z (.tv (.b Z)) ?_);refine zY Z ?_;have hA:=vK (p:=Oj) (e:=e) (k:=k) zo aba;have hB:=kz (p:=fH) (e:=e) (k:=k) zo abf;exact SY
  try simp at h6
  refine Z6 ?_ ?_<;>intro h8
  ·try simp at h8
   refine Y4 ?_;refine zJ (bP (rt:=(ay .i64)) bT Sj z3 Z (.cons (.raw (.b Z) Z) .nil) Z Z) (zV [5,7,10,11,12] bT Sj z3 J7 Z Z (.tv (.b Z)) ?_);refine zY Z ?_;have hA:=kz (p:=Oj) (e:=e) (k:=k) zo aba;have hB:=vK (p:=fH) (e:=e) (k:=k) zo abf;exact SY
  try simp at h8
  refine Z7 ?_ ?_<;>intro h10;have g10:=h10;have hq:36≤e[k].1∧e[k].1≤39:=by first|omega|(simp at h10;omega)
  refine ak (aa ?_);refine bR Z g10 ?_;exact SQ;have g10:=h10;try simp at h10
  refine Y4 ?_;refine zQ [5,6,7,9,10,11,12,17,32] [9,70,71,72] (aa ?_);refine Z0 ?_ ?_<;>intro h11;have g11:=h11;have hq:36≤e[k].1∧e[k].1≤39:=by first|omega|(simp at h11;omega)
  refine ak (aa ?_);refine bR Z g11 ?_;exact SQ;have g11:=h11;try simp at h11
  refine Z6 ?_ ?_<;>intro h12;have g12:=h12;have hq:36≤e[k].1∧e[k].1≤39:=by first|omega|(simp at h12;omega)
  refine ak (aa ?_);refine bR Z g12 ?_;exact SQ;have g12:=h12;try simp at h12
  refine Z5 ?_ ?_<;>intro h13;have g13:=h13;have hq:36≤e[k].1∧e[k].1≤39:=by first|omega|(simp at h13;omega)
  exact SQ;have g13:=h13;simp at h13;have hA:=kz (p:=Oj) (e:=e) (k:=k) zo aba;have hB:=kz (p:=fH) (e:=e) (k:=k) zo abf;have hC:=kz (p:=pU) (e:=e) (k:=k) zo abg;refine Y8 ?_;exact aE (fun a w hi=>⟨k+1,zo,zo,Sub.inv ⟨Xs,Xn⟩ hi⟩)
 try simp at h3
 refine Y6 ?_;have hke:k=e.length:=So;subst hke;have u1:=iY (Sa Oj (e.take e.length));have u2:=iY (Sa fH (e.take e.length));have u3:=iY (Sa pU (e.take e.length));refine ab (zM Z (zO (uu lU (.b Z) Z (by rfl) zo Z) (zM Z (zO (uu lU (.b Z) Z (by rfl) zo Z) (zM Z (zO (uu lU (.b Z) Z (by rfl) zo Z) (Y6 ?_)))))));refine e8 (rt:=ay .i64) 70 2 (bQ 70 _) Z Z aaR (a6 70 _) (bm 70 _) ?_;refine e8 (rt:=ay .i64) 71 3 (bQ 71 _) Z Z aaR (a6 71 _) (bm 71 _) ?_;refine e8 (rt:=ay .i64) 72 4 (bQ 72 _) Z Z aaR (a6 72 _) (bm 72 _) ?_;exact db results45 (ar Z) (ar Z) (ar Z) ⟨Z,Z,Z⟩ (by simp only[Pv,Fh,fV (Kl _)];rfl)
def R9{P:Program}{cx:Cx}{st:St}{α:Type}{rt:RT α}{t:Nat}(h:bg st.slots t=some (.raw (.slice none 0 0))):xA P cx st (.tmp t) (.tv (ag rt) []):=fun β a w hi=>by exact Wq
abbrev rlD(r:ba):Int:=r.2.1
abbrev rlG(r:ba):List aF:=r.2.2.2.2.2.1
abbrev rlV(r:ba):List aF:=r.2.2.2.2.2.2.1
abbrev Sn(s:aL):List ba:=s.2.2.2.2
abbrev scN(s:aL):Nat:=s.2.2.2.1.length
def Ql(n:Nat)(d:Int):Bool:=decide (0≤d)&&decide (d<n)
def QV(n:Nat)(r:ba):List Int:=(dX (Sa fH (rlG r))).filter (Ql n)++(dX (Sa fH (rlV r))).filter (Ql n)
def gf(n:Nat)(l:List ba)(d:Int):List Int:=(l.filter (fun r=>rlD r==d)).flatMap (QV n)
def pF(s:aL)(d:Int):List Int:=if Ql (scN s) d=true then dX (gf (scN s) (Sn s) d)else[]
def OG(r:ba):Prop:=(rlG r).length≤60∧(rlV r).length≤60
def tf(s:aL):Prop:=scN s≤14∧(Sn s).length≤100∧∀r∈Sn s,OG r
def vz(p:Int→Bool)(e:List aF):(dX (Sa p e)).length≤e.length:=wb (iY _) un
def RH(h:k<l.length)(hp:p l[k]=true):(l.take (k+1)).filter p=(l.take k).filter p++[l[k]]:=by rw[px h,NZ];simp[hp]
def RJ(h:k<l.length)(hp:p l[k]=false):(l.take (k+1)).filter p=(l.take k).filter p:=by rw[px h,NZ];simp[hp]
def It(p:Int→Bool)(l:List Int)(k:Nat):((l.take k).filter p).length≤l.length:=wb (FQ _ _) QE
def Hy{r:ba}(h:OG r):(QV n r).length≤120:=by have h1:=vz fH (rlG r);have h2:=vz fH (rlV r);have h3:=FQ (Ql n) (dX (Sa fH (rlG r)));have h4:=FQ (Ql n) (dX (Sa fH (rlV r)));unfold QV;rw[Yl];have:=h.1;have:=h.2;omega
def OD{l:List ba}(h:k<l.length)(hd:rlD l[k]=d):gf n (l.take (k+1)) d=gf n (l.take k) d++QV n l[k]:=by exact WN
def GL{l:List ba}(h:k<l.length)(hd:rlD l[k]≠d):gf n (l.take (k+1)) d=gf n (l.take k) d:=by exact WN
def FC{l:List ba}(h:∀r∈l,OG r):∀k,k≤l.length→(gf n (l.take k) d).length≤120*k:=by
 intro k;induction k with
 | zero=>intro _;simp[gf]
 | succ k ih=>intro hk;have hk':k<l.length:=So;have:=ih zo;by_cases e:rlD l[k]=d;rw[OD hk' e,Yl];have:=Hy (n:=n) (h l[k] (aA hk'));omega;rw[GL hk' e];omega
def aeD(r:ba)(n:Nat)(hr:OG r)(hn:n≤1000):Ct prog 174 [.tv ct r,Sx (n:Nat)] (.tv (ag (ay .i64)) (QV n r)):=by
 refine Yk func174 ntmps174 fun w0 ok0=>?_;obtain⟨hr1,hr2⟩:=hr;have hr3:r.2.2.2.2.2.1.length≤60:=hr1;have hr4:r.2.2.2.2.2.2.1.length≤60:=hr2;refine Qy ?_;refine zJ (an (f5 _ zo) (.cons (.b Z) .nil) Z Z) (zM Z (zJ (eS (.b Z)) (zJ (eR (.b Z)) (zJ (eQ (.b Z)) (Y9 ?_)))));refine zJ (an (f5 _ zo) (.cons (.b Z) .nil) Z Z) (zM Z (zJ (eS (.b Z)) (zJ (eR (.b Z)) (zJ (eQ (.b Z)) (Lc ?_)))));refine jF 70 5 (ay .i64) Z Z Z ?_;refine bf (ι:=Nat) (fun k=>⟨[(1,Sx ((n:Nat))),(5,.own 70 (ay .i64).n 0 (((dX (Sa fH (rlG r))).take k).filter (Ql n)).length),(10,.tv (ag (ay .i64)) (dX (Sa fH (rlV r)))),(30,.tv (ag (ay .i64)) (dX (Sa fH (rlG r)))),(31,Sx ((dX (Sa fH (rlG r))).length)),(32,Sx ((k:Nat)))],[(70,⟨ay .i64,(((dX (Sa fH (rlG r))).take k).filter (Ql n))⟩)]⟩) (fun k=>k≤(dX (Sa fH (rlG r))).length) (fun k=>(dX (Sa fH (rlG r))).length-k) 0 (P8 _) (fun a w hi=>(zI hi)) ?_;rintro k hk;have hl1:=vz fH (rlG r);have hl2:=vz fH (rlV r);have hf1:=It (Ql n) (dX (Sa fH (rlG r))) k;refine Z6 ?_ ?_<;>intro h5;have h5:k<(dX (Sa fH (rlG r))).length:=Ob;refine Z22 ?_ ?_<;>intro h7;have hs:=RH (p:=Ql n) h5 (by simp at h7;simp[Ql];omega);refine ab (zM Z (zM Z (zJ (bP (rt:=(ay .i64)) bT Sj z3 Z (.cons (.raw (.b Z) Z) .nil) Z Z) (zV [1,10,30,31,32] bT Sj z3 J7 Z Z (.tv (.b Z)) ?_))));exact Xg;have hs:=RJ (p:=Ql n) h5 (by simp at h7;simp[Ql];omega);exact Xe;have hke:k=(dX (Sa fH (rlG r))).length:=Ob;subst hke;rw[FR];refine Lc ?_;refine bf (ι:=Nat) (fun k=>⟨[(1,Sx ((n:Nat))),(5,.own 70 (ay .i64).n 0 ((dX (Sa fH (rlG r))).filter (Ql n)++((dX (Sa fH (rlV r))).take k).filter (Ql n)).length),(48,.tv (ag (ay .i64)) (dX (Sa fH (rlV r)))),(49,Sx ((dX (Sa fH (rlV r))).length)),(50,Sx ((k:Nat)))],[(70,⟨ay .i64,((dX (Sa fH (rlG r))).filter (Ql n)++((dX (Sa fH (rlV r))).take k).filter (Ql n))⟩)]⟩) (fun k=>k≤(dX (Sa fH (rlV r))).length) (fun k=>(dX (Sa fH (rlV r))).length-k) 0 (P8 _) (fun a w hi=>Sub.inv ⟨(by repeat(first|exact au|refine ap rfl (by first|rfl|(simp;done)|assumption|(refine congrArg (SV.own 70 (ay .i64).n 0) ?_;first|rfl|(simp;done))) ?_)),(by repeat(first|exact aw|refine ao rfl (by first|rfl|(simp;done)|assumption|(refine congrArg (HB.mk (ay .i64)) ?_;first|rfl|(simp;done))) ?_))⟩ hi) ?_;rintro k hk;have hl1:=vz fH (rlG r);have hl2:=vz fH (rlV r);have hf2:=It (Ql n) (dX (Sa fH (rlV r))) k;have hf1:=FQ (Ql n) (dX (Sa fH (rlG r)));have hf3:((dX (Sa fH (rlG r))).filter (Ql n)++((dX (Sa fH (rlV r))).take k).filter (Ql n)).length≤120:=by rw[Yl];omega
 refine Z6 ?_ ?_<;>intro h11;have h11:k<(dX (Sa fH (rlV r))).length:=by simp at h11;omega
 refine Z22 ?_ ?_<;>intro h13;have hs:=RH (p:=Ql n) h11 (by simp at h13;simp[Ql];omega);refine ab (zM Z (zM Z (zJ (bP (rt:=(ay .i64)) bT Sj z3 Z (.cons (.raw (.b Z) Z) .nil) Z Z) (zV [1,48,49,50] bT Sj z3 J7 Z Z (.tv (.b Z)) ?_))));refine zA Z (zQ [1,5,48,49,50] [70] (aJ (aa (ab ?_))));refine Y3 ?_;exact Tm;have hs:=RJ (p:=Ql n) h11 (by simp at h13;simp[Ql];omega);refine Y7 ?_;exact Tm;have hke:k=(dX (Sa fH (rlV r))).length:=by simp at h11;omega
 subst hke;rw[FR];refine zb ?_;refine e8 (rt:=ay .i64) 70 4 (bQ 70 _) Z Z Sp (a6 70 _) (bm 70 _) ?_;exact z1 results174 Z (congrArg (SV.tv (ag (ay .i64))) aaD)
def aeE(h:Ql (scN s) d=false):pF s d=[]:=by unfold pF;rw[zE (by rw[h];simp)]
def IK(h:Ql (scN s) d=true):pF s d=dX (gf (scN s) (Sn s) d):=by unfold pF;rw[Cg h]
def aeF(zs:List Int):(Gs zs).length=zs.length:=qR.len zs
def abh(h:tf s)(hk:k<(Sn s).length):OG (Sn s)[k]:=h.2.2 _ (aA hk)
def Sd:Ty prog 37 rHd:=Zu
def abN:ZR rHd [.slice none 0 0] (none,0,0):=fun _ _=>rfl
def zH37:TyZero prog 37 rHd (none,0,0):=eK zk abN
def R5(s:aL):List (List Int):=(List.range (scN s)).map (fun(d:Nat)=>pF s (d:Int))
def qK(s:aL)(k:Nat):List (List Int):=(List.range (scN s)).map (fun(d:Nat)=>gf (scN s) ((Sn s).take k) (d:Int))
def ul(s:aL)(k:Nat):List (List Int):=(List.range (scN s)).map (fun(d:Nat)=>if d<k then pF s (d:Int)else gf (scN s) (Sn s) (d:Int))
def Ba(s:aL):qK s 0=List.replicate (scN s) []:=by apply Lv;intro y;unfold qK;rw[Oq];by_cases hy:y<scN s;simp[hy,gf];simp[hy]
def yj(s:aL)(k:Nat):(qK s k).length=scN s:=by simp[qK]
def DY(s:aL)(k:Nat):(ul s k).length=scN s:=by simp[ul]
def Hu{x:Nat}(h:x<scN s):(qK s k)[x]?=some (gf (scN s) ((Sn s).take k) (x:Int)):=by simp[qK,h]
def Ht{x:Nat}(h:x<scN s)(hk:k≤x):(ul s k)[x]?=some (gf (scN s) (Sn s) (x:Int)):=by have:¬x<k:=So;simp[ul,h,this]
def rowA_t{x:Nat}(hk:k<(Sn s).length)(hx:x<scN s)(hd:rlD (Sn s)[k]=(x:Int)):qK s (k+1)=(qK s k).set x (gf (scN s) ((Sn s).take k) (x:Int)++QV (scN s) (Sn s)[k]):=by unfold qK;rw[oS (f:=fun(d:Nat)=>gf (scN s) ((Sn s).take k) (d:Int)) hx (fun y _ hy=>GL hk (by rw[hd];intro e;exact hy zo)),OD hk hd]
def rowA_f(hk:k<(Sn s).length)(hd:Ql (scN s) (rlD (Sn s)[k])=false):qK s (k+1)=qK s k:=by unfold qK;refine Kp fun d hm=>?_;rw[Lb]at hm;exact GL hk (by intro e;rw[e]at hd;simp[Ql]at hd;omega)
def AZ(s:aL):ul s 0=qK s (Sn s).length:=by unfold qK ul;rw[FR];simp
def adp(s:aL):ul s (scN s)=R5 s:=by unfold ul R5;refine Kp fun d hm=>?_;rw[Lb]at hm;rw[Cg hm]
def rowB_t(hk:k<scN s):ul s (k+1)=(ul s k).set k (dX (gf (scN s) (Sn s) (k:Int))):=by unfold ul;rw[oS (f:=fun(d:Nat)=>if d<k then pF s (d:Int)else gf (scN s) (Sn s) (d:Int)) hk (fun y _ hy=>?_)];rw[Cg zo,IK (by simp[Ql];omega)];by_cases e:y<k;rw[Cg e,Cg zo];rw[zE e,zE zo]
def vv(s:aL)(hL:tf s):Ct prog 125 [.tv bw s] (.tv (ag (ag (ay .i64))) (R5 s)):=by
 refine Yk func125 ntmps125 fun w0 ok0=>?_;have hN:scN s=s.2.2.2.1.length:=rfl;have hN2:=hL.1;refine dy ?_;refine zO (fM (rt:=rHd) pK Sd zH37 Z by37 (.b Z) (.b Z) zo Kw rfl rfl rfl) (zY rfl ?_);refine H6 3 1000 (scN s) [1] [1,11] (ay .i64) Z Z (.cons Z .nil) Z (.cons Z (.cons Z .nil)) Z ?_;refine Y9 ?_;refine dT (b:=1000) [3,13,14,15] [11] (.cons rfl (.cons rfl (.cons rfl (.cons rfl .nil)))) Cj (.cons rfl .nil) ?_;refine aa (az ?_);refine bf (ι:=(Nat×List (Option Addr×Nat×Nat))) (fun(k,hs)=>⟨[(3,.fam (.own 11 1 0 (scN s)) 1000 1 (hs.map some)),(13,.tv (ag ct) (Sn s)),(14,Sx ((Sn s).length)),(15,Sx ((k:Nat)))],(11,⟨rHd,hs⟩)::iW (ay .i64) 1000 (qK s k)⟩) (fun(k,hs)=>k≤(Sn s).length∧HdOK hs (qK s k)) (fun(k,hs)=>(Sn s).length-k) (0,List.replicate (scN s) (none,0,0)) (⟨P8 _,by rw[Ba];exact HdOK.zero _⟩) (fun a w hi=>(Sub.inv ⟨(by repeat(first|exact au|refine ap rfl (by first|rfl|(simp;done)|assumption|(refine congrArg (SV.fam (SV.own 11 1 0 (scN s)) 1000 1) ?_;rw[List.map_replicate];done)) ?_)),(by repeat(first|refine ao rfl KG ?_|exact dU Cj (by rw[Ba])))⟩ hi)) ?_;rintro⟨k,hs⟩⟨hk,hq⟩;have hN:scN s=s.2.2.2.1.length:=rfl;have hN2:=hL.1;have hR2:=hL.2.1;refine Y4 ?_;refine dT (b:=1000) [3,13,14,15,16] [11] (.cons rfl (.cons rfl (.cons rfl (.cons rfl (.cons rfl .nil))))) Cj (.cons rfl .nil) ?_;refine aa (ac ?_);refine Z0 ?_ ?_<;>intro h3;have h3:k<(Sn s).length:=E4;have hrl:=abh hL h3;refine Y7 ?_;refine zD dh Z (zO (fR _ kN Z Z (xE Z)) (Y2 ?_));refine dT (b:=1000) [3,5,13,14,15] [5,11] (.cons rfl (.cons rfl (.cons rfl (.cons rfl (.cons rfl .nil))))) Cj (.cons rfl (.cons rfl .nil)) ?_;refine Y9 ?_;refine zG Z Z (fun hg=>ai (.f1 Z)) (Y4 ?_);refine dT (b:=1000) [3,5,13,14,15,28] [5,11] (.cons rfl (.cons rfl (.cons rfl (.cons rfl (.cons rfl (.cons rfl .nil)))))) Cj (.cons rfl (.cons rfl .nil)) ?_;refine aa ?_;refine Z0 ?_ ?_<;>intro h5;have h5:0≤rlD (Sn s)[k]∧rlD (Sn s)[k]<scN s:=by by_cases e:0≤rlD (Sn s)[k];simp[e]at h5;exact⟨e,h5⟩;simp[e]at h5
 obtain⟨x,hxe⟩:∃x:Nat,rlD (Sn s)[k]=(x:Int):=⟨(rlD (Sn s)[k]).toNat,So⟩;have hxn:x<scN s:=So;have hst:=rowA_t h3 hxn hxe;have hx0:=hq.at (Hu (k:=k) hxn);obtain⟨A,cap,hget⟩:=hx0;have hx1:(hs.map some)[x]?=some (some (A,(gf (scN s) ((Sn s).take k) (x:Int)).length,cap)):=aaS;have hx2:=(Hu (k:=k) hxn);have hxl:x<hs.length:=(Y0.1 hget).1;have hx3:((hs.map some).set x none)[x]?=some none:=aab;have hx4:((qK s k).set x [])[x]?=some []:=by rw[pw (by rw[yj];exact hxn)]
 have hal:=FC (n:=scN s) (d:=(x:Int)) hL.2.2 k zo;have hrl2:=Hy (n:=scN s) hrl;refine lh (stB:=⟨[(41,.own 60 1 0 ((gf (scN s) ((Sn s).take k) (x:Int)).length+(QV (scN s) (Sn s)[k]).length)),(3,.fam (.own 11 1 0 (scN s)) 1000 1 ((hs.map some).set x none)),(5,Sy 5 ct),(13,.tv (ag ct) (Sn s)),(14,Sx ((Sn s).length:Nat)),(15,Sx (k:Nat))],(60,⟨ay .i64,((gf (scN s) ((Sn s).take k) (x:Int)).drop 0).take (gf (scN s) ((Sn s).take k) (x:Int)).length++QV (scN s) (Sn s)[k]⟩)::(11,⟨rHd,hs⟩)::(5,⟨ct,[(Sn s)[k]]⟩)::iW (ay .i64) 1000 ((qK s k).set x [])⟩) 3 12 mo zk zk cy cy Z Z (zS (ai (.f1 Z)) (zS (aj fC (.b Z)) (zS (ah Sj (.b Z) Z Z fZ) (zS (ai (.f1 Z)) (zS (aj fC (.b Z)) (zS (ah Sj (.b Z) Z Z fZ) (zS (bk pK Sd (.b Z) (.b Z) hxe hxn) (zS (ah Sd (.b Z) Z GF (Lens.id _)) (zS (ah dh (.b rfl) rfl rfl (Lens.id _)) (zS (ai (.f1 rfl)) (zS (cb pK (.b rfl)) (zS (an (aeD (Sn s)[k] (scN s) hrl zo) (.cons (.b rfl) (.cons (.b rfl) .nil)) rfl rfl) (AS.nil))))))))))))) ?_ (zS (ai (.f1 rfl)) (zS (aj fC (.b rfl)) (zS (ah Sj (.b rfl) rfl rfl fZ) (AS.nil)))) ?_;intro bs hbs a w hi Q;rcases bs with _|⟨b0,_|⟨b1,_|⟨b2,_|⟨b3,br⟩⟩⟩⟩;simp at hbs;simp at hbs;simp at hbs;cases b0<;>cases b1<;>cases b2;exact cK (fun a w hi=>jV (rt:=ay .i64) (xs:=(gf (scN s) ((Sn s).take k) (x:Int))) (i:=3) (j:=36) (c:=60) (x:=x) (m:=(gf (scN s) ((Sn s).take k) (x:Int)).length) (A:=A) (cap:=cap) (ks:=[5,13,14,15,40]) (hs:=[5,11]) rfl rfl hx1 hx2 rfl rfl (.cons rfl (.cons rfl (.cons rfl (.cons rfl (.cons rfl .nil))))) rfl rfl rfl Cj (.cons rfl (.cons rfl .nil)) rfl rfl hi) (bX [3,5,13,14,15] bT Sj z3 rfl J7 (.b rfl) rfl zo (.tv (.b rfl)) Kw zo rfl (.cons rfl (.cons rfl (.cons rfl (.cons rfl (.cons rfl .nil))))) rfl) ⟨YV,Yr⟩ a w hi Q;exact cK (fun a w hi=>jV (rt:=ay .i64) (xs:=(gf (scN s) ((Sn s).take k) (x:Int))) (i:=3) (j:=36) (c:=60) (x:=x) (m:=(gf (scN s) ((Sn s).take k) (x:Int)).length) (A:=A) (cap:=cap) (ks:=[5,13,14,15,31,40]) (hs:=[5,11]) rfl rfl hx1 hx2 rfl rfl (.cons rfl (.cons rfl (.cons rfl (.cons rfl (.cons rfl (.cons rfl .nil)))))) rfl rfl rfl Cj (.cons rfl (.cons rfl .nil)) rfl rfl hi) (bX [3,5,13,14,15,31] bT Sj z3 rfl J7 (.b rfl) rfl zo (.tv (.b rfl)) Kw zo rfl (.cons rfl (.cons rfl (.cons rfl (.cons rfl (.cons rfl (.cons rfl .nil)))))) rfl) ⟨YV,Yr⟩ a w hi Q;exact cK (fun a w hi=>jV (rt:=ay .i64) (xs:=(gf (scN s) ((Sn s).take k) (x:Int))) (i:=3) (j:=36) (c:=60) (x:=x) (m:=(gf (scN s) ((Sn s).take k) (x:Int)).length) (A:=A) (cap:=cap) (ks:=[5,13,14,15,30,40]) (hs:=[5,11]) rfl rfl hx1 hx2 rfl rfl (.cons rfl (.cons rfl (.cons rfl (.cons rfl (.cons rfl (.cons rfl .nil)))))) rfl rfl rfl Cj (.cons rfl (.cons rfl .nil)) rfl rfl hi) (bX [3,5,13,14,15,30] bT Sj z3 rfl J7 (.b rfl) rfl zo (.tv (.b rfl)) Kw zo rfl (.cons rfl (.cons rfl (.cons rfl (.cons rfl (.cons rfl (.cons rfl .nil)))))) rfl) ⟨YV,Yr⟩ a w hi Q;exact cK (fun a w hi=>jV (rt:=ay .i64) (xs:=(gf (scN s) ((Sn s).take k) (x:Int))) (i:=3) (j:=36) (c:=60) (x:=x) (m:=(gf (scN s) ((Sn s).take k) (x:Int)).length) (A:=A) (cap:=cap) (ks:=[5,13,14,15,30,31,40]) (hs:=[5,11]) rfl rfl hx1 hx2 rfl rfl (.cons rfl (.cons rfl (.cons rfl (.cons rfl (.cons rfl (.cons rfl (.cons rfl .nil))))))) rfl rfl rfl Cj (.cons rfl (.cons rfl .nil)) rfl rfl hi) (bX [3,5,13,14,15,30,31] bT Sj z3 rfl J7 (.b rfl) rfl zo (.tv (.b rfl)) Kw zo rfl (.cons rfl (.cons rfl (.cons rfl (.cons rfl (.cons rfl (.cons rfl (.cons rfl .nil))))))) rfl) ⟨YV,Yr⟩ a w hi Q;exact cK (fun a w hi=>jV (rt:=ay .i64) (xs:=(gf (scN s) ((Sn s).take k) (x:Int))) (i:=3) (j:=36) (c:=60) (x:=x) (m:=(gf (scN s) ((Sn s).take k) (x:Int)).length) (A:=A) (cap:=cap) (ks:=[5,13,14,15,29,40]) (hs:=[5,11]) rfl rfl hx1 hx2 rfl rfl (.cons rfl (.cons rfl (.cons rfl (.cons rfl (.cons rfl (.cons rfl .nil)))))) rfl rfl rfl Cj (.cons rfl (.cons rfl .nil)) rfl rfl hi) (bX [3,5,13,14,15,29] bT Sj z3 rfl J7 (.b rfl) rfl zo (.tv (.b rfl)) Kw zo rfl (.cons rfl (.cons rfl (.cons rfl (.cons rfl (.cons rfl (.cons rfl .nil)))))) rfl) ⟨YV,Yr⟩ a w hi Q;exact cK (fun a w hi=>jV (rt:=ay .i64) (xs:=(gf (scN s) ((Sn s).take k) (x:Int))) (i:=3) (j:=36) (c:=60) (x:=x) (m:=(gf (scN s) ((Sn s).take k) (x:Int)).length) (A:=A) (cap:=cap) (ks:=[5,13,14,15,29,31,40]) (hs:=[5,11]) rfl rfl hx1 hx2 rfl rfl (.cons rfl (.cons rfl (.cons rfl (.cons rfl (.cons rfl (.cons rfl (.cons rfl .nil))))))) rfl rfl rfl Cj (.cons rfl (.cons rfl .nil)) rfl rfl hi) (bX [3,5,13,14,15,29,31] bT Sj z3 rfl J7 (.b rfl) rfl zo (.tv (.b rfl)) Kw zo rfl (.cons rfl (.cons rfl (.cons rfl (.cons rfl (.cons rfl (.cons rfl (.cons rfl .nil))))))) rfl) ⟨YV,Yr⟩ a w hi Q;exact cK (fun a w hi=>jV (rt:=ay .i64) (xs:=(gf (scN s) ((Sn s).take k) (x:Int))) (i:=3) (j:=36) (c:=60) (x:=x) (m:=(gf (scN s) ((Sn s).take k) (x:Int)).length) (A:=A) (cap:=cap) (ks:=[5,13,14,15,29,30,40]) (hs:=[5,11]) rfl rfl hx1 hx2 rfl rfl (.cons rfl (.cons rfl (.cons rfl (.cons rfl (.cons rfl (.cons rfl (.cons rfl .nil))))))) rfl rfl rfl Cj (.cons rfl (.cons rfl .nil)) rfl rfl hi) (bX [3,5,13,14,15,29,30] bT Sj z3 rfl J7 (.b rfl) rfl zo (.tv (.b rfl)) Kw zo rfl (.cons rfl (.cons rfl (.cons rfl (.cons rfl (.cons rfl (.cons rfl (.cons rfl .nil))))))) rfl) ⟨YV,Yr⟩ a w hi Q;exact cK (fun a w hi=>jV (rt:=ay .i64) (xs:=(gf (scN s) ((Sn s).take k) (x:Int))) (i:=3) (j:=36) (c:=60) (x:=x) (m:=(gf (scN s) ((Sn s).take k) (x:Int)).length) (A:=A) (cap:=cap) (ks:=[5,13,14,15,29,30,31,40]) (hs:=[5,11]) rfl rfl hx1 hx2 rfl rfl (.cons rfl (.cons rfl (.cons rfl (.cons rfl (.cons rfl (.cons rfl (.cons rfl (.cons rfl .nil)))))))) rfl rfl rfl Cj (.cons rfl (.cons rfl .nil)) rfl rfl hi) (bX [3,5,13,14,15,29,30,31] bT Sj z3 rfl J7 (.b rfl) rfl zo (.tv (.b rfl)) Kw zo rfl (.cons rfl (.cons rfl (.cons rfl (.cons rfl (.cons rfl (.cons rfl (.cons rfl (.cons rfl .nil)))))))) rfl) ⟨YV,Yr⟩ a w hi Q;simp at hbs;refine kF _ _ Z Z Z Z zk (bk pK Sd (.b Z) (.b Z) hxe hxn) ?_;refine opd (rt:=ay .i64) 3 41 60 x [13,14,15,42] [5,11] rfl rfl hx3 hx4 rfl Sp rfl rfl (.cons rfl (.cons rfl (.cons rfl (.cons rfl .nil)))) rfl rfl rfl Cj (.cons rfl (.cons rfl .nil)) rfl rfl (fun A2 cap2=>?_);refine oE _ Z Z zk (bH (d:=(A2,(gf (scN s) ((Sn s).take k) (x:Int)).length+(QV (scN s) (Sn s)[k]).length,cap2)) Sd (.b Z) Z GF (Lens.id _) (.raw (.b rfl) rfl)) ?_;refine oW Z ?_;refine dT (b:=1000) [3,13,14,15] [11] (.cons rfl (.cons rfl (.cons rfl (.cons rfl .nil)))) Cj (.cons rfl .nil) ?_;refine Y6 ?_;exact SK;have e2:rlD (Sn s)[k]=(Sn s)[k].2.1:=rfl;have h5:Ql (scN s) (rlD (Sn s)[k])=false:=by by_cases e:0≤rlD (Sn s)[k];simp[e]at h5;simp[Ql];omega;simp[Ql];omega
 have hs0:=rowA_f h3 h5;refine Y7 ?_;exact SK;have hke:k=(Sn s).length:=E4;subst hke;refine Y8 ?_;refine zJ (ai (.f1 Z)) (Y3 ?_);refine dT (b:=1000) [3,44,45,46] [11] (.cons rfl (.cons rfl (.cons rfl (.cons rfl .nil)))) Cj (.cons rfl .nil) ?_;refine aa (az ?_);refine bf (ι:=(Nat×List (Option Addr×Nat×Nat))) (fun(k,hs)=>⟨[(3,.fam (.own 11 1 0 (scN s)) 1000 1 (hs.map some)),(44,.own 11 1 0 (scN s)),(45,Sx ((scN s:Nat))),(46,Sx ((k:Nat)))],(11,⟨rHd,hs⟩)::iW (ay .i64) 1000 (ul s k)⟩) (fun(k,hs)=>k≤scN s∧HdOK hs (ul s k)) (fun(k,hs)=>scN s-k) (0,hs) (⟨P8 _,by rw[AZ];exact hq⟩) (fun a w hi=>(Sub.inv ⟨XR,(by repeat(first|refine ao rfl KG ?_|exact dU Cj (by rw[AZ])))⟩ hi)) ?_;rintro⟨k,hs⟩⟨hk,hq⟩;have hN:scN s=s.2.2.2.1.length:=rfl;have hN2:=hL.1;have hR2:=hL.2.1;refine Y4 ?_;refine dT (b:=1000) [3,44,45,46,47] [11] (.cons rfl (.cons rfl (.cons rfl (.cons rfl (.cons rfl .nil))))) Cj (.cons rfl .nil) ?_;refine aa (ac ?_);refine Z0 ?_ ?_<;>intro h9;have hxn:k<scN s:=NG;have hst:=rowB_t hxn;have hx0:=hq.at (Ht (k:=k) hxn (Kl _));obtain⟨A,cap,hget⟩:=hx0;have hx1:(hs.map some)[k]?=some (some (A,(gf (scN s) (Sn s) (k:Int)).length,cap)):=aaS;have hx2:=(Ht (k:=k) hxn (Kl _));have hxl:k<hs.length:=(Y0.1 hget).1;have hx3:((hs.map some).set k none)[k]?=some none:=aab;have hx4:((ul s k).set k [])[k]?=some []:=by rw[pw (by rw[DY];exact hxn)]
 have hal:=FC (n:=scN s) (d:=(k:Int)) hL.2.2 (Sn s).length (Kl _);rw[FR]at hal;refine Y7 ?_;refine zJ (bk pK Sd (.b Z) (.b Z) Z hxn) (zJ (ah Sd (.b Z) Z GF (Lens.id _)) (zA rfl (zY rfl ?_)));refine dT (b:=1000) [3,6,7,44,45,46] [11] (.cons rfl (.cons rfl (.cons rfl (.cons rfl (.cons rfl (.cons rfl .nil)))))) Cj (.cons rfl .nil) ?_;refine aa (ab (zJ (ai (.f1 Z)) (zM Z (zM Z ?_))));refine EC (rt:=ay .i64) (xs:=(gf (scN s) (Sn s) (k:Int))) (m:=(gf (scN s) (Sn s) (k:Int)).length) (A:=A) (cap:=cap) 3 53 60 k [44,45,46,51,52] [11] rfl rfl hx1 hx2 rfl rfl (.cons rfl (.cons rfl (.cons rfl (.cons rfl (.cons rfl .nil))))) rfl rfl rfl Cj (.cons rfl .nil) rfl rfl ?_;refine zO (uu qR (.b Z) Z (by rfl) zo Z) (zJ (bk pK Sd (.b Z) (.b Z) Z hxn) ?_);refine EE (rt:=ay .i64) 3 54 60 k [44,45,46,55] [11] rfl rfl hx3 hx4 rfl (by rw[aeF];exact iY _) rfl rfl (.cons rfl (.cons rfl (.cons rfl (.cons rfl .nil)))) rfl rfl rfl Cj (.cons rfl .nil) rfl rfl (fun A2 cap2=>?_);refine zO (bH (d:=(A2,(dX (gf (scN s) (Sn s) (k:Int))).length,cap2)) Sd (.b Z) Z GF (Lens.id _) (.raw (.b rfl) rfl)) (aS ?_);refine dT (b:=1000) [3,44,45,46] [11] (.cons rfl (.cons rfl (.cons rfl (.cons rfl .nil)))) Cj (.cons rfl .nil) ?_;refine Y6 ?_;refine dT (b:=1000) [3,44,45,46] [11] (.cons rfl (.cons rfl (.cons rfl (.cons rfl .nil)))) Cj (.cons rfl .nil) ?_;exact aE (fun a w hi=>⟨(k+1,hs.set k (A2,(dX (gf (scN s) (Sn s) (k:Int))).length,cap2)),zj,(⟨So,by rw[hst];exact hq.set (by rw[DY];exact hxn) rfl⟩),Sub.inv ⟨XP,(by repeat(first|refine ao rfl KG ?_|exact dU Cj (by rw[hst,Fh];simp)))⟩ hi⟩);have hke:k=scN s:=NG;subst hke;refine Y6 ?_;refine Ie (b:=1000) (rt:=ay .i64) 3 11 [] [] rfl hq.1 hq.2 rfl rfl rfl .nil rfl Cj .nil rfl rfl ?_;rw[adp];refine Y6 ?_;refine e8 (rt:=ag (ay .i64)) 11 2 (bQ 11 _) Z Z (by simp[R5]) (a6 11 _) (bm 11 _) ?_;exact z1 results125 Z (congrArg (SV.tv (ag (ag (ay .i64)))) (by rw[Pv,fV (by simp[R5])]))
def rw(dd:List (List Int))(x:Int):List Int:=dd.getD x.toNat []
structure WFd(n:Nat)(dd:List (List Int)):Prop where
 len:dd.length=n
 ent:∀x e,e∈rw dd x→0≤e∧e<n
 srt:∀x,(rw dd x).Pairwise (· < ·)
def Rl(h:x.toNat<dd.length):dd[x.toNat]=rw dd x:=by simp[rw,h]
def yb:∀(l:List Int) (a n:Int),l.Pairwise (· < ·)→(∀e∈l,a≤e∧e<n)→(l.length:Int)≤max 0 (n-a)
 | [],a,n,_,_=>by simp;omega
 | x::l,a,n,hp,hb=>by rw[Jb]at hp;have h1:=yb l (x+1) n hp.2 (fun e he=>⟨by have:=hp.1 e he;omega,(hb e (by simp[he])).2⟩);have h2:=hb x Sp;simp only[NK];omega
def WFd.rlen(h:WFd n dd)(x:Int):(rw dd x).length≤n:=by have:=yb (rw dd x) 0 n (h.srt x) (fun e he=>h.ent x e he);omega
inductive Rp(dd:List (List Int)):Int→Int→Prop
 | one {x y:Int} (h:y∈rw dd x):Rp dd x y
 | step {x y z:Int} (h:Rp dd x y) (h2:z∈rw dd y):Rp dd x z
def sn(seen:List Bool)(e:Int):Bool:=seen.getD e.toNat false
def qP(seen:List Bool):Nat:=seen.countP (fun b=>!b)
def Ll{e:Int}(h:e.toNat<seen.length):seen[0+e.toNat]?=some (sn seen e):=by simp[sn,h]
def Lk{e z:Int}(he:0≤e)(hz:0≤z)(h:e.toNat<seen.length):sn (seen.set e.toNat true) z=if z=e then true else sn seen z:=by unfold sn;exact Wd
def xW{e:Int}(h:e.toNat<seen.length)(hs:sn seen e=false):qP (seen.set e.toNat true)+1=qP seen:=by refine mW _ _ ?_;unfold sn at hs;rw[zy,RY h]at hs;rw[RY h];simpa using hs
structure RI(n:Nat)(dd:List (List Int))(d:Int)(seen:List Bool)(Q Y:List Int):Prop where
 len:seen.length=n
 snd:∀e,0≤e→sn seen e=true→Rp dd d e
 rng:∀x∈Q,0≤x∧x<n
 src:∀x∈Q,x=d∨sn seen x=true
 cls:∀x,0≤x→(x=d∨sn seen x=true)→x∈Q∨x∈Y∨∀e∈rw dd x,sn seen e=true
 mes:Q.length+qP seen≤n+1
def RI.start(h0:0≤d)(hn:d<n):RI n dd d (List.replicate n false) [d] []:=by
 have hf:∀e,sn (List.replicate n false) e=false:=fun e=>by unfold sn;rw[zy,Oq];split<;>rfl
 refine⟨Sp,fun e _ h=>?_,fun x hx=>?_,fun x hx=>.inl ade,fun x _ h=>?_,?_⟩;rw[hf]at h;cases h;simp at hx;subst hx;exact⟨h0,hn⟩;rcases h with h|h;exact .inl Ph;rw[hf]at h;cases h;simp[qP,List.countP_replicate];omega
def RI.pop{y:Int}(h:RI n dd d seen (y::Q) []):RI n dd d seen Q [y]:=by refine⟨h.len,h.snd,fun x hx=>h.rng x K8,fun x hx=>h.src x K8,fun x h0 hx=>?_,?_⟩;rcases h.cls x h0 hx with h1|h1|h1;rcases L5.1 h1 with h2|h2;exact .inr (.inl (by simp[h2]));exact .inl h2;cases h1;exact .inr (.inr h1);have:=h.mes;simp at this;omega
def RI.push{y e:Int}(w:WFd n dd)(h:RI n dd d seen Q [y])(hy:y=d∨sn seen y=true)(hy0:0≤y)(he:e∈rw dd y)(hs:sn seen e=false):RI n dd d (seen.set e.toNat true) (Q++[e]) [y]:=by
 obtain⟨e0,en⟩:=w.ent y e he;have hel:e.toNat<seen.length:=by rw[h.len];omega
 have hset:∀z,0≤z→sn (seen.set e.toNat true) z=if z=e then true else sn seen z:=fun z hz=>Lk e0 hz hel
 have hup:∀z,0≤z→sn seen z=true→sn (seen.set e.toNat true) z=true:=fun z hz hzs=>by rw[hset z hz];split<;>simp[hzs]
 refine⟨by simp[h.len],fun z hz hzs=>?_,fun x hx=>?_,fun x hx=>?_,fun x h0 hx=>?_,?_⟩;rw[hset z hz]at hzs;split at hzs;rename_i e1;subst e1;rcases hy with rfl|hy;exact .one he;exact .step (h.snd y hy0 hy) he;exact h.snd z hz hzs;rcases Nx.1 hx with hx|hx;exact h.rng x hx;simp at hx;subst hx;exact⟨e0,en⟩;rcases Nx.1 hx with hx|hx;rcases h.src x hx with h1|h1;exact .inl h1;exact .inr (hup x (h.rng x hx).1 h1);simp at hx;subst hx;exact .inr (by rw[hset x e0,Cg rfl]);by_cases e1:x=e;subst e1;exact .inl Sp;have hx':x=d∨sn seen x=true:=by rcases hx with hx|hx;exact .inl hx;rw[hset x h0,zE e1]at hx;exact .inr hx
 rcases h.cls x h0 hx' with h1|h1|h1;exact .inl Kz;exact .inr (.inl h1);exact .inr (.inr fun z hz=>hup z (w.ent x z hz).1 (h1 z hz));have h1:=h.mes;have h2:=xW hel hs;simp;omega
def RI.close{y:Int}(h:RI n dd d seen Q [y])(hc:∀e∈rw dd y,sn seen e=true):RI n dd d seen Q []:=by refine⟨h.len,h.snd,h.rng,h.src,fun x h0 hx=>?_,h.mes⟩;rcases h.cls x h0 hx with h1|h1|h1;exact .inl h1;simp at h1;subst h1;exact .inr (.inr hc);exact .inr (.inr h1)
def RI.done(w:WFd n dd)(hd:0≤d)(h:RI n dd d seen [] [])(e:Int)(he:0≤e):sn seen e=true↔Rp dd d e:=by
 refine⟨h.snd e he,fun hr=>?_⟩;induction hr with
 | one h1=>rcases h.cls d hd (.inl rfl)with h2|h2|h2;cases h2;cases h2;exact h2 _ h1
 | @step y z h1 h2 ih=>
  have hy:0≤y:=by
   cases h1 with
   | one q=>exact(w.ent _ _ q).1
   | step _ q=>exact(w.ent _ _ q).1
  rcases h.cls y hy (.inr (ih hy))with h3|h3|h3;cases h3;cases h3;exact h3 _ h2
open Classical in
noncomputable def nG (n:Nat) (dd:List (List Int)) (d:Int):List Int:=((List.range n).filter (fun k=>decide (Rp dd d ((k:Nat):Int)))).map (fun(k:Nat)=>(k:Int))
def qE(seen:List Bool)(k:Nat):List Int:=((List.range k).filter (fun j=>sn seen ((j:Nat):Int))).map (fun(j:Nat)=>(j:Int))
def adq(h:sn seen ((k:Nat):Int)=true):qE seen (k+1)=qE seen k++[(k:Int)]:=Zc
def exG(h:sn seen ((k:Nat):Int)=false):qE seen (k+1)=qE seen k:=Zc
def z52(seen:List Bool)(k:Nat):(qE seen k).length≤k:=by unfold qE;rw[QJ];exact wb (FQ _ _) Sp
def RI.list(w:WFd n dd)(hd:0≤d)(h:RI n dd d seen [] []):qE seen n=nG n dd d:=by unfold qE nG;congr 1;refine List.filter_congr fun k _=>?_;have:=h.done w hd (k:Int) zo;by_cases e:sn seen ((k:Nat):Int)=true;rw[e];simp[this.1 e];have e2:sn seen ((k:Nat):Int)=false:=Lm;rw[e2];simp;exact fun q=>e (this.2 q)
def pM:∀(n:Nat),(List.range n).Pairwise (· < ·):=fun n=>List.pairwise_lt_range
def nF(w:WFd n dd){e:Int}:e∈nG n dd d↔Rp dd d e:=by
 unfold nG;rw[Nr];constructor;rintro⟨k,hk,rfl⟩;simpa using(Sq.1 hk).2;intro h;have hb:0≤e∧e<n:=by cases h with
  | one q=>exact w.ent _ _ q
  | step _ q=>exact w.ent _ _ q
 exact⟨e.toNat,Sq.2 ⟨Lb.2 zo,by rw[show((e.toNat:Nat):Int)=e by omega];simpa using h⟩,So⟩
def mS:∀{l:List Nat},l.Pairwise (· < ·)→(l.map (fun(k:Nat)=>(k:Int))).Pairwise (· < ·):=fun h=>List.pairwise_map.2 (h.imp (by intro a b h;exact Int.ofNat_lt.2 h))
def nmB(n:Nat)(dd:List (List Int))(d:Int):(nG n dd d).Pairwise (· < ·):=mS ((pM n).sublist List.filter_sublist)
def WfL(n:Nat)(dd:List (List Int))(d:Int)(w:WFd n dd)(hn14:n≤14)(h0:0≤d)(hd:d<n):Ct prog 124 [.tv (ag (ag (ay .i64))) dd,Sx d] (.tv (ag (ay .i64)) (nG n dd d)):=by
 refine Yk func124 ntmps124 fun w0 ok0=>?_;have hn:=hn14;refine Y6 ?_;rw[←w.len]at hn;have hdl:=w.len;refine Y3 ?_;refine zO (fM gG Gf z4 Z Cz (.b Z) (.b Z) zo Kw rfl rfl rfl) (zY rfl (aa (zR (zM rfl (zO (kC (rt:=ay .i64) bT Sj z3 rfl (.cons (.raw (.b rfl) rfl) .nil) rfl rfl rfl rfl rfl) (Y5 ?_))))));refine bf (ι:=(List Bool×List Int×Nat)) (fun(seen,xs,off)=>⟨[(0,.tv (ag (ag (ay .i64))) dd),(5,.own 15 cq.n 0 n),(6,.own 17 (ay .i64).n off (xs.length-off))],[(15,⟨cq,seen⟩),(17,⟨ay .i64,xs⟩)]⟩) (fun(seen,xs,off)=>RI n dd d seen (xs.drop off) []∧off≤xs.length) (fun(seen,xs,off)=>2*qP seen+(xs.length-off)) (List.replicate n false,[d],0) (⟨by exact RI.start h0 hd,P8 _⟩) (fun a w hi=>Sub.inv ⟨(by repeat(first|exact au|refine ap rfl (by first|rfl|(simp;done)|assumption|(refine congrArg (SV.own 15 cq.n 0) ?_;exact hdl;done)) ?_)),(by repeat(first|exact aw|refine ao rfl (by first|rfl|(simp;done)|assumption|(refine congrArg (HB.mk cq) ?_;rw[hdl];done)) ?_))⟩ hi) ?_;rintro⟨seen,xs,off⟩⟨hi,hoff⟩;refine Z8 ?_ ?_<;>intro h3;have h3:off<xs.length:=E4;have hml:=hi.len;have hms:=hi.mes;refine Y6 ?_;refine zJ (bk bT Sj (.b Z) (.b Z) (show(0:Int)=((0:Nat):Int)from Z) zh) ?_;refine bi _ Z _ Z Z (ah Sj (.b Z) Z zg (Lens.id _)) ?_;refine zA Z ?_;obtain⟨y,hy⟩:∃y,y=xs[off+0]:=⟨_,rfl⟩;rw[←hy];have hQ:xs.drop off=y::xs.drop (off+1):=by rw[hy];exact qv h3
 have hi1:RI n dd d seen (y::xs.drop (off+1)) []:=by rw[←hQ];exact hi
 obtain⟨hy0,hyn⟩:=hi1.rng y Sp;have hys:=hi1.src y Sp;have hi2:=hi1.pop;have hyl:y.toNat<dd.length:=by rw[w.len];omega
 have hyc:y=((y.toNat:Nat):Int):=So;have hrl:=w.rlen y;obtain⟨mu0,hmu0⟩:∃mu0,mu0=2*qP seen+(xs.length-off):=⟨_,rfl⟩;refine zZ (zR (zM Z (zJ (hJ bT Sj (.b Z) ⟨_,_,(.b Z),(show(1:Int)=((1:Nat):Int)from Z)⟩ Z zo zo) (Y7 ?_))));refine bi _ Z _ Z Z (av pK kr (.b Z) (.b Z) hyc zg) ?_;refine Y3 ?_;rw[Rl hyl];refine zZ (az ?_);refine bf (ι:=(List Bool×List Int×Nat×Nat)) (fun(seen,xs,off,j)=>⟨[(0,.tv (ag (ag (ay .i64))) dd),(5,.own 15 cq.n 0 n),(6,.own 17 (ay .i64).n off (xs.length-off)),(29,.tv (ag (ay .i64)) (rw dd y)),(30,Sx ((rw dd y).length)),(31,Sx ((j:Nat)))],[(15,⟨cq,seen⟩),(17,⟨ay .i64,xs⟩)]⟩) (fun(seen,xs,off,j)=>j≤(rw dd y).length∧RI n dd d seen (xs.drop off) [y]∧(y=d∨sn seen y=true)∧off≤xs.length∧(∀i,(hi:i<j)→(hj:i<(rw dd y).length)→sn seen (rw dd y)[i]=true)∧2*qP seen+(xs.length-off)<mu0) (fun(seen,xs,off,j)=>(rw dd y).length-j) (seen,xs,off+1,0) (⟨P8 _,hi2,hys,So,fun i hi=>So,So⟩) (fun a w hi=>Sub.inv ⟨(by repeat(first|exact au|refine ap rfl (by first|rfl|(simp;done)|assumption|(refine congrArg (SV.own 17 (ay .i64).n (off+1)) ?_;omega;done)) ?_)),YW⟩ hi) ?_;rintro⟨seen,xs,off,j⟩⟨hj,hi',hys,hoff,hcl',hmes⟩;have hml:=hi'.len;have hms:=hi'.mes;have hdrl:(xs.drop off).length=xs.length-off:=Sp;refine Z6 ?_ ?_<;>intro h7;have h7:j<(rw dd y).length:=Od;refine Y9 ?_;obtain⟨e,hee⟩:∃e,e=(rw dd y)[j]:=⟨_,rfl⟩;rw[←hee];have hem:e∈rw dd y:=by rw[hee];exact aA h7
 obtain⟨he0,hen⟩:=w.ent y e hem;have hel:e.toNat<seen.length:=So;have hec:e=((e.toNat:Nat):Int):=So;refine Y6 ?_;refine zJ (bk gG Gf (.b Z) (.b Z) hec zh) (zJ (ah Gf (.b Z) Z (Ll hel) (Lens.id _)) (zJ (co (.b Z)) (zZ ?_)));refine Z0 ?_ ?_<;>intro h9;have h9:sn seen e=false:=Qz;have hpush0:=hi'.push w hys hy0 hem h9;have hpush:RI n dd d (seen.set e.toNat true) (((xs.drop off).take (xs.length-off)++[e]).drop 0) [y]:=by rw[Pv,fV Sp];exact hpush0
 have hss:∀z,0≤z→sn (seen.set e.toNat true) z=if z=e then true else sn seen z:=fun z hz=>Lk he0 hz hel
 have hpys:y=d∨sn (seen.set e.toNat true) y=true:=by rcases hys with q|q;exact .inl q;exact .inr (by rw[hss y hy0];split<;>simp[q])
 have hpcl:∀i,(hi:i<j+1)→(hj:i<(rw dd y).length)→sn (seen.set e.toNat true) (rw dd y)[i]=true:=fun i hi hj=>by rw[hss _ (w.ent y _ (aA hj)).1];by_cases q:i=j;subst q;rw[Cg hee.symm];rw[hcl' i zo hj];split<;>rfl
 have hpu:=xW hel h9;have hpm:2*qP (seen.set e.toNat true)+(((xs.drop off).take (xs.length-off)++[e]).length-0)<mu0:=QE;refine zR (zM Z (zM Z (zJ (bk gG Gf (.b Z) (.b Z) hec zh) ?_)));refine gV _ Z (bH Gf (.b Z) Z zg (Lens.id _) (.raw (.b Z) Z)) ?_;refine Y5 ?_;refine zJ (bP (rt:=(ay .i64)) bT Sj z3 Z (.cons (.raw (.b Z) Z) .nil) Z Z) (zV [0,5,29,30,31] bT Sj z3 J7 Z Z (.tv (.b Z)) ?_);refine Y8 ?_;exact S4;have h9:sn seen e=true:=Qz;have hsame:∀i,(hi:i<j+1)→(hj:i<(rw dd y).length)→sn seen (rw dd y)[i]=true:=fun i hi hj=>by by_cases q:i=j;subst q;rw[←hee];exact h9;exact hcl' i zo hj
 refine Y7 ?_;exact S4;have h7:j=(rw dd y).length:=Od;have hcl:∀e∈rw dd y,sn seen e=true:=fun e he=>by obtain⟨i,hi,rfl⟩:=Fe.1 he;exact hcl' i zo hi
 refine Y5 ?_;exact aE (fun a w hi=>⟨(seen,xs,off),(by rw[hmu0]at hmes;exact hmes),⟨hi'.close hcl,hoff⟩,zI hi⟩);have h3:off=xs.length:=E4;have hend:RI n dd d seen [] []:=by rw[h3,List.drop_length]at hi;exact hi
 refine J4 ?_;refine zQ [10,48,49,50] [15] (aa (az ?_));refine jF 70 10 (ay .i64) Z Z Z ?_;refine bf (ι:=Nat) (fun k=>⟨[(10,.own 70 (ay .i64).n 0 (qE seen k).length),(48,.own 15 cq.n 0 n),(49,Sx ((n:Nat))),(50,Sx ((k:Nat)))],[(15,⟨cq,seen⟩),(70,⟨ay .i64,qE seen k⟩)]⟩) (fun k=>k≤n) (fun k=>n-k) 0 (P8 _) (fun a w hi=>(zI hi)) ?_;rintro k hk;have hsl:=z52 seen k;have hml:=hend.len;refine Z6 ?_ ?_<;>intro h15;have h15:k<n:=abB;refine Y8 ?_;refine zJ (ah Gf (.b Z) Z (Ll (e:=((k:Nat):Int)) QE) (Lens.id _)) (Z9 ?_ ?_)<;>intro h17;have hs:=adq h17;refine ab (zM Z (zM Z (zJ (bP (rt:=(ay .i64)) bT Sj z3 Z (.cons (.raw (.b Z) Z) .nil) Z Z) (zV [48,49,50] bT Sj z3 J7 Z Z (.tv (.b Z)) ?_))));exact Xg;have hs:=exG Gt;exact Xe;have h15:k=n:=abB;subst h15;refine zb ?_;refine e8 (rt:=ay .i64) 70 4 (bQ 70 _) Z Z Sp (a6 70 _) (bm 70 _) ?_;exact z1 results124 Z (congrArg (SV.tv (ag (ay .i64))) (by rw[Pv,FR];exact hend.list w h0))


section
variable(dd:List (List Int))(dst:List Int)(L start:Int)
end
section
variable{dst:List Int}{L start:Int}
end

def J9(dd:List (List Int))(n k:Nat)(l:List Int):List (List Int):=
 (List.range n).map (fun(x:Nat)=>((List.range k).filter (fun(d:Nat)=>decide ((x:Int)∈rw dd (d:Int)))).map (fun(d:Nat)=>(d:Int))++(if(x:Int)∈l then[(k:Int)]else[]))
def u7(n:Nat)(dd:List (List Int)):List (List Int):=J9 dd n n []
def lV(dd:List (List Int))(n k:Nat)(l:List Int):(J9 dd n k l).length=n:=by simp[J9]
def yh{x:Nat}(h:x<n):(J9 dd n k l)[x]?=some (((List.range k).filter (fun(d:Nat)=>decide ((x:Int)∈rw dd (d:Int)))).map (fun(d:Nat)=>(d:Int))++(if(x:Int)∈l then[(k:Int)]else[])):=by simp[J9,h]
def DR(dd:List (List Int))(n:Nat):J9 dd n 0 []=List.replicate n []:=by apply Lv;intro y;rw[Oq];by_cases hy:y<n;rw[yh hy,Cg hy];simp;rw[jp uD,zE hy]
def tfB{e:Int}(h0:0≤e)(hn:e<n)(he:e∉l):J9 dd n k (l++[e])=(J9 dd n k l).set e.toNat ((J9 dd n k l).getD e.toNat []++[(k:Int)]):=by
 have hx:e.toNat<n:=So;have hc:((e.toNat:Nat):Int)=e:=So;rw[zy,yh hx,YM,hc,zE he,Nk];conv=>lhs;unfold J9
 rw[oS (x:=e.toNat) (f:=fun(x:Nat)=>((List.range k).filter (fun(d:Nat)=>decide ((x:Int)∈rw dd (d:Int)))).map (fun(d:Nat)=>(d:Int))++(if(x:Int)∈l then[(k:Int)]else[])) hx (fun y _ hy=>?_)];rw[hc,Cg Sp];rfl;have hne:(y:Int)≠e:=fun q=>hy zo;congr 1;by_cases q:(y:Int)∈l;rw[Cg q,Cg (by simp[q])];rw[zE q,zE (by simp[q,hne])]
def DS(dd:List (List Int))(n k:Nat):J9 dd n k (rw dd (k:Int))=J9 dd n (k+1) []:=by unfold J9;refine Kp fun x _=>?_;rw[Jp,NZ,ll];by_cases q:(x:Int)∈rw dd (k:Int);simp[q];simp[q]
def Ls(h0:0≤x)(hn:x<n):rw (u7 n dd) x=((List.range n).filter (fun(d:Nat)=>decide (x∈rw dd (d:Int)))).map (fun(d:Nat)=>(d:Int)):=by unfold rw u7;rw[zy,yh zo,YM,show((x.toNat:Nat):Int)=x by omega];simp[rw]
def Cd(h0:0≤x)(hn:x<n):d∈rw (u7 n dd) x↔(0≤d∧d<n∧x∈rw dd d):=by rw[Ls h0 hn,Nr];constructor;rintro⟨k,hk,rfl⟩;obtain⟨h1,h2⟩:=Sq.1 hk;have:=Lb.1 h1;exact⟨So,So,J3⟩;rintro⟨h1,h2,h3⟩;exact⟨d.toNat,Sq.2 ⟨Lb.2 zo,by rw[show((d.toNat:Nat):Int)=d by omega];simpa using h3⟩,So⟩
def Cb(hl:dd.length=n)(h:¬x.toNat<n):rw dd x=[]:=by unfold rw;rw[zy,jp zo];rfl
def Cc(dd:List (List Int))(x:Int):rw dd x=rw dd ((x.toNat:Nat):Int):=by unfold rw;rw[K4]
def rvs_wf(dd:List (List Int)):WFd n (u7 n dd):=by refine⟨lV _ _ _ _,fun x e he=>?_,fun x=>?_⟩;by_cases hx:x.toNat<n;rw[Cc,Cd zo zo]at he;exact⟨he.1,he.2.1⟩;rw[Cb (dd:=u7 n dd) (lV _ _ _ _) hx]at he;cases he;by_cases hx:x.toNat<n;rw[Cc,Ls zo zo];exact mS ((pM n).sublist List.filter_sublist);rw[Cb (dd:=u7 n dd) (lV _ _ _ _) hx];exact .nil
section
variable(n:Nat)(dd:List (List Int))
end
def xQ(s:aL)(h0:0≤x)(hn:x<scN s):rw (R5 s) x=pF s x:=by unfold rw R5;rw[zy,cr,List.getElem?_range zo];simp[show((x.toNat:Nat):Int)=x by omega,h0]
def aeG{e:Int}(h:e∈pF s x):0≤e∧e<scN s:=by unfold pF at h;split at h;rw[(kP _).2]at h;unfold gf at h;rw[List.mem_flatMap]at h;obtain⟨r,_,hr⟩:=h;unfold QV at hr;rw[Nx]at hr;rcases hr with hr|hr<;>(have:=(Sq.1 hr).2;simp[Ql]at this;exact this);cases h
def aeH(s:aL)(x:Int):(pF s x).Pairwise (· < ·):=by unfold pF;split;exact(kP _).1;exact .nil
def xP(s:aL):WFd (scN s) (R5 s):=by
 have hl:(R5 s).length=scN s:=by simp[R5]
 refine⟨hl,fun x e he=>?_,fun x=>?_⟩;by_cases hx:x.toNat<scN s;rw[Cc,xQ s zo zo]at he;exact aeG he;rw[Cb hl hx]at he;cases he;by_cases hx:x.toNat<scN s;rw[Cc,xQ s zo zo];exact aeH _ _;rw[Cb hl hx];exact .nil
def yB(h:l.Pairwise (· < ·))(hj:j<l.length):l[j]∉l.take j:=fun hm=>by obtain⟨i,hi,e⟩:=Fe.1 hm;simp at hi e;have:=Nb.1 h i j zo hj zo;omega
def aeI{x:Nat}(h:x<n):((J9 dd n k l).getD x []).length≤k+1:=by rw[zy,yh h,YM,Yl,QJ];have:=FQ (fun(d:Nat)=>decide ((x:Int)∈rw dd (d:Int))) (List.range k);simp only[List.length_range]at this;split<;>simp<;>omega
def aeJ(R:List Int)(a:Int):((R.drop 0).take R.length++[a]).take (R.length + [a].length)=R++[a]:=by rw[Pv,FR];exact fV Sp
def Hl{x:Nat}(h:x<n):(J9 dd n k l)[x]?=some ((J9 dd n k l).getD x []):=by rw[zy,yh h];rfl
def D2(dd:List (List Int))(out:List Int)(x:Int):Bool:=decide (x∉out)&&(rw dd x).all (fun e=>decide (e∈out))
def Sl(n:Nat)(dd:List (List Int))(out:List Int):Option Int:=((List.range n).map (fun(k:Nat)=>(k:Int))).find? (D2 dd out)
def fL(n:Nat)(dd:List (List Int)):Nat→List Int
 | 0=>[]
 | k+1=>match Sl n dd (fL n dd k)with|some d=>fL n dd k++[d]|none=>fL n dd k
def cT(n:Nat)(dd:List (List Int)):List Int×Int:=if(fL n dd n).length<n then([],9)else(fL n dd n,0)
def nH:D2 dd out x=true↔x∉out∧∀e∈rw dd x,e∈out:=by unfold D2;simp
def mn:x∈(List.range n).map (fun(k:Nat)=>(k:Int))↔0≤x∧x<n:=by rw[Nr];constructor;rintro⟨k,h,rfl⟩;have:=Lb.1 h;omega;rintro⟨h1,h2⟩;exact⟨x.toNat,Lb.2 zo,So⟩
def xL(h:i<((List.range n).map (fun(k:Nat)=>(k:Int))).length):((List.range n).map (fun(k:Nat)=>(k:Int)))[i]=(i:Int):=Sp
def yz:Sl n dd out=some d↔(0≤d∧d<n∧D2 dd out d=true∧∀x:Int,0≤x→x<d→D2 dd out x=false):=by unfold Sl;rw[List.find?_eq_some_iff_getElem];constructor;rintro⟨h1,i,hi,h2,h3⟩;rw[xL]at h2;have hin:i<n:=Dq;refine⟨So,So,h1,fun x hx hxd=>?_⟩;have:=h3 x.toNat zo;rw[xL]at this;rw[show((x.toNat:Nat):Int)=x by omega]at this;simpa using this;rintro⟨h0,h1,h2,h3⟩;refine⟨h2,d.toNat,QE,by rw[xL];omega,fun j hj=>?_⟩;rw[xL,h3 (j:Int) zo zo];rfl
def El:Sl n dd out=none↔∀x:Int,0≤x→x<n→D2 dd out x=false:=by unfold Sl;rw[List.find?_eq_none];constructor;intro h x h0 h1;have:=h x (mn.2 ⟨h0,h1⟩);simpa using this;intro h x hx;obtain⟨h0,h1⟩:=mn.1 hx;rw[h x h0 h1];simp
structure OK(n:Nat)(dd:List (List Int))(out:List Int):Prop where
 nd:out.Nodup
 rng:∀x∈out,0≤x∧x<n
 cls:∀x∈out,∀e∈rw dd x,e∈out
def OK.nil(n:Nat)(dd:List (List Int)):OK n dd []:=⟨.nil,fun x h=>LD,fun x h=>LD⟩
def OK.add(h:OK n dd out)(hd:Sl n dd out=some d):OK n dd (out++[d]):=by obtain⟨h0,h1,h2,_⟩:=yz.1 hd;obtain⟨g1,g2⟩:=nH.1 h2;refine⟨?_,fun x hx=>?_,fun x hx e he=>?_⟩;rw[List.nodup_append];exact⟨h.nd,Sp,fun a ha b hb=>by simp at hb;subst hb;intro e;subst e;exact g1 ha⟩;rcases Nx.1 hx with q|q;exact h.rng x q;simp at q;subst q;exact⟨h0,h1⟩;rcases Nx.1 hx with q|q;exact afk _ (h.cls x q e he);simp at q;subst q;exact afk _ (g2 e he)
def lX(n:Nat)(dd:List (List Int)):∀k,OK n dd (fL n dd k)
 | 0=>OK.nil n dd
 | k+1=>by
  rw[fL];cases h:Sl n dd (fL n dd k)with
  | none=>exact lX n dd k
  | some d=>exact(lX n dd k).add h
def OK.len(h:OK n dd out):out.length≤n:=by have:=h.nd.length_le_of_subset (l₂:=(List.range n).map (fun(k:Nat)=>(k:Int))) (fun x hx=>mn.2 (h.rng x hx));simpa using this
def ab6(h:Sl n dd (fL n dd k)=none):∀m,k≤m→fL n dd m=fL n dd k:=by
 intro m hm;induction m with
 | zero=>have:k=0:=So;subst this;rfl
 | succ m ih=>by_cases e:k=m+1;subst e;rfl;have h1:=ih zo;rw[fL,h1,h]
def tX(out l:List Int):Nat:=(l.filter (fun e=>decide (e∉out))).length
def sr:tX out l=0↔∀e∈l,e∈out:=by unfold tX;rw[jC,List.filter_eq_nil_iff];simp
def Fq(l:List Int):tX [] l=l.length:=by unfold tX;simp
def acb(out l:List Int):tX out l≤l.length:=FQ _ _
def ace(hd:d∉out):∀{l:List Int},l.Pairwise (· < ·)→tX out l=tX (out++[d]) l+(if d∈l then 1 else 0):=by
 intro l;induction l with
 | nil=>intro _;rfl
 | cons e r ih=>
  intro hp;rw[Jb]at hp;have h1:=ih hp.2;unfold tX at h1⊢;by_cases e1:e=d;subst e1;have hn:e∉r:=fun q=>by have:=hp.1 e q;omega
  rw[zE hn]at h1;simp[hd];simpa using h1;have e2:¬d=e:=fun q=>e1 q.symm;by_cases q:e∈out;simp[q,e2];simpa using h1;simp[q,e1,e2];simp at h1;omega
def wv(W:List Int)(u:Int):Int:=W.getD u.toNat 0
def KY{u:Int}(h:u.toNat<W.length):W[0+u.toNat]?=some (wv W u):=by simp[wv,h]
def FF{e z v:Int}(he:0≤e)(hz:0≤z)(h:e.toNat<W.length):wv (W.set e.toNat v) z=if z=e then v else wv W z:=by unfold wv;exact Wd
structure K0(n:Nat)(dd:List (List Int))(k:Nat)(W H:List Int):Prop where
 len:W.length=n
 wt:∀u:Int,0≤u→u<k→wv W u=(((rw dd u).length:Nat):Int)
 hp:∀x,x∈H↔(0≤x∧x<k∧rw dd x=[])
 nd:H.Nodup
def K0.start(n:Nat)(dd:List (List Int)):K0 n dd 0 (List.replicate n 0) []:=⟨Sp,fun u h0 h1=>So,fun x=>QE,.nil⟩
def K0.hlen(h:K0 n dd k W H):H.length≤k:=by have:=h.nd.length_le_of_subset (l₂:=(List.range k).map (fun(k:Nat)=>(k:Int))) (fun x hx=>mn.2 ⟨((h.hp x).1 hx).1,((h.hp x).1 hx).2.1⟩);simpa using this
def K0.next(h:K0 n dd k W H)(hk:k<n)(hr:rw dd (k:Int)≠[]):K0 n dd (k+1) (W.set k (((rw dd (k:Int)).length:Nat):Int)) H:=by
 have hs:∀u:Int,0≤u→wv (W.set k (((rw dd (k:Int)).length:Nat):Int)) u=if u=(k:Int)then(((rw dd (k:Int)).length:Nat):Int)else wv W u:=fun u hu=>by exact VS
 refine⟨by simp[h.len],fun u h0 h1=>?_,fun x=>?_,h.nd⟩;rw[hs u h0];split;rename_i e;subst e;rfl;exact h.wt u h0 zo;rw[h.hp];constructor;rintro⟨a,b,c⟩;exact⟨a,So,c⟩;rintro⟨a,b,c⟩;refine⟨a,?_,c⟩;by_cases e:x=(k:Int);subst e;exact absurd c hr;omega
def K0.push{H2:List Int}(h:K0 n dd k W H)(hk:k<n)(hr:rw dd (k:Int)=[])(hp:H2.Perm ((k:Int)::H)):K0 n dd (k+1) (W.set k (((rw dd (k:Int)).length:Nat):Int)) H2:=by
 have hs:∀u:Int,0≤u→wv (W.set k (((rw dd (k:Int)).length:Nat):Int)) u=if u=(k:Int)then(((rw dd (k:Int)).length:Nat):Int)else wv W u:=fun u hu=>by exact VS
 refine⟨by simp[h.len],fun u h0 h1=>?_,fun x=>?_,?_⟩;rw[hs u h0];split;rename_i e;subst e;rfl;exact h.wt u h0 zo;rw[hp.mem_iff,L5,h.hp];constructor;rintro(rfl|⟨a,b,c⟩);exact⟨So,So,hr⟩;exact⟨a,So,c⟩;rintro⟨a,b,c⟩;by_cases e:x=(k:Int);exact .inl e;exact .inr ⟨a,So,c⟩;refine hp.symm.nodup (FU.2 ⟨fun q=>?_,h.nd⟩);have:=((h.hp _).1 q).2.1;omega
structure KI(n:Nat)(dd:List (List Int))(out W H:List Int):Prop where
 ok:OK n dd out
 od:out=fL n dd out.length
 len:W.length=n
 wt:∀u:Int,0≤u→u<n→wv W u=((tX out (rw dd u):Nat):Int)
 hp:∀x,x∈H↔(0≤x∧x<n∧x∉out∧tX out (rw dd x)=0)
 nd:H.Nodup
def K0.done(h:K0 n dd n W H):KI n dd [] W H:=by refine⟨OK.nil n dd,Z,h.len,fun u h0 h1=>by rw[h.wt u h0 h1,Fq],fun x=>?_,h.nd⟩;rw[h.hp,Fq,jC];simp
def KI.hlen(h:KI n dd out W H):H.length+out.length≤n:=by exact TZ
structure KJ(n:Nat)(dd:List (List Int))(out:List Int)(d:Int)(W H S:List Int):Prop where
 ok:OK n dd out
 od:out=fL n dd out.length
 len:W.length=n
 nu:∀u:Int,d∈rw dd u→u∉out
 wt:∀u:Int,0≤u→u<n→wv W u=((tX out (rw dd u):Nat):Int)+(if d∈rw dd u∧u∉S then 1 else 0)
 hp:∀x,x∈H↔(0≤x∧x<n∧x∉out∧tX out (rw dd x)=0∧(d∉rw dd x∨x∈S))
 nd:H.Nodup
def KI.next(h:KI n dd out W H)(hd:d∈H)(hm:∀x∈H,d≤x):Sl n dd out=some d:=by
 obtain⟨h0,h1,h2,h3⟩:=(h.hp d).1 hd;refine yz.2 ⟨h0,h1,nH.2 ⟨h2,sr.1 h3⟩,fun x hx hxd=>?_⟩;cases e:D2 dd out x with
 | false=>rfl
 | true=>obtain⟨q1,q2⟩:=nH.1 e;have:=hm x ((h.hp x).2 ⟨hx,So,q1,sr.2 q2⟩);omega
def KI.stop(h:KI n dd out W []):Sl n dd out=none:=by
 refine El.2 fun x hx hxn=>?_;cases e:D2 dd out x with
 | false=>rfl
 | true=>obtain⟨q1,q2⟩:=nH.1 e;have:=(h.hp x).2 ⟨hx,hxn,q1,sr.2 q2⟩;cases this
def KI.pop{H':List Int}(w:WFd n dd)(h:KI n dd out W H)(hp:H.Perm (d::H'))(hm:∀x∈H,d≤x):KJ n dd (out++[d]) d W H' []:=by
 have hd:d∈H:=hp.mem_iff.2 Sp;have hnx:=h.next hd hm;obtain⟨h0,h1,h2,h3⟩:=(h.hp d).1 hd;have hnd:=hp.nodup h.nd;rw[FU]at hnd;have hadd:∀u,tX out (rw dd u)=tX (out++[d]) (rw dd u)+(if d∈rw dd u then 1 else 0):=fun u=>ace h2 (w.srt u);refine⟨h.ok.add hnx,?_,h.len,fun u hu hm'=>?_,fun u a b=>?_,fun x=>?_,hnd.2⟩;rw[Yl,Ja,fL,←h.od,hnx];rcases Nx.1 hm' with q|q;exact h2 (h.ok.cls u q d hu);simp at q;subst q;exact h2 ((sr.1 h3) u hu);rw[h.wt u a b,hadd u];by_cases e:d∈rw dd u<;>simp[e];have hx:x∈H'↔x∈H∧x≠d:=by rw[hp.mem_iff,L5];constructor;intro q;exact⟨.inr q,fun e=>by subst e;exact hnd.1 q⟩;rintro⟨q|q,r⟩;exact absurd q r;exact q
 rw[hx,h.hp,hadd x];constructor;rintro⟨⟨a,b,c,e⟩,f⟩;refine⟨a,b,by simp[c,f],So,.inl fun q=>?_⟩;rw[Cg q]at e;omega;rintro⟨a,b,c,e,f⟩;simp at c f;refine⟨⟨a,b,c.1,?_⟩,c.2⟩;rw[zE f];omega
def KJ.hlen{S:List Int}(h:KJ n dd out d W H S):H.length+out.length≤n:=by exact TZ
def KJ.step{H2 S:List Int}{u:Int}(h:KJ n dd out d W H S)(hu0:0≤u)(hun:u<n)(hd:d∈rw dd u)(hS:u∉S)(hp:if wv W u-1=0 then H2.Perm (u::H)else H2=H):KJ n dd out d (W.set u.toNat (wv W u-1)) H2 (S++[u]):=by
 have hw:=h.wt u hu0 hun;rw[Cg ⟨hd,hS⟩]at hw;have hs:∀z,0≤z→wv (W.set u.toNat (wv W u-1)) z=if z=u then wv W u-1 else wv W z:=fun z hz=>FF hu0 hz (by rw[h.len];omega)
 have hmem:∀x,x∈H2↔(x∈H∨(x=u∧tX out (rw dd u)=0)):=fun x=>by split at hp;rw[hp.mem_iff,L5];constructor;rintro(q|q);exact .inr ⟨q,So⟩;exact .inl q;rintro(q|q);exact .inr q;exact .inl q.1;rw[hp];constructor;exact .inl;rintro(q|⟨_,q⟩);exact q;omega
 refine⟨h.ok,h.od,by simp[h.len],h.nu,fun z a b=>?_,fun x=>?_,?_⟩;rw[hs z a];by_cases e:z=u;subst e;rw[Cg rfl,hw,zE Sp];omega;rw[zE e,h.wt z a b];have:(d∈rw dd z∧z∉S++[u])↔(d∈rw dd z∧z∉S):=by simp[e]
 by_cases q:d∈rw dd z∧z∉S;rw[Cg q,Cg (this.2 q)];rw[zE q,zE (fun r=>q (this.1 r))];rw[hmem,h.hp];by_cases e:x=u;subst e;constructor;rintro(⟨a,b,c,f,g⟩|⟨_,g⟩);exact⟨a,b,c,f,.inr Sp⟩;exact⟨hu0,hun,h.nu x hd,g,.inr Sp⟩;rintro⟨a,b,c,f,g⟩;exact .inr ⟨rfl,f⟩;constructor;rintro(⟨a,b,c,f,g⟩|⟨g,_⟩);exact⟨a,b,c,f,g.imp id (fun q=>afk _ q)⟩;exact absurd g e;rintro⟨a,b,c,f,g⟩;refine .inl ⟨a,b,c,f,g.imp id (fun q=>?_)⟩;rcases Nx.1 q with r|r;exact r;simp at r;exact absurd r e;split at hp;refine hp.symm.nodup (FU.2 ⟨fun q=>?_,h.nd⟩);have:=((h.hp u).1 q).2.2.2.2;exact this.elim (fun r=>r hd) hS;rw[hp];exact h.nd
def KJ.done{S:List Int}(h:KJ n dd out d W H S)(hS:∀u:Int,0≤u→u<n→d∈rw dd u→u∈S):KI n dd out W H:=by refine⟨h.ok,h.od,h.len,fun u a b=>?_,fun x=>?_,h.nd⟩;rw[h.wt u a b,zE (fun q=>q.2 (hS u a b q.1))];omega;rw[h.hp];constructor;rintro⟨a,b,c,e,_⟩;exact⟨a,b,c,e⟩;rintro⟨a,b,c,e⟩;refine⟨a,b,c,e,?_⟩;by_cases q:d∈rw dd x;exact .inr (hS x a b q);exact .inl q
def KI.fin(h:KI n dd out W []):out=fL n dd n:=by have h1:=h.stop;rw[h.od]at h1;rw[ab6 h1 n (h.ok.len)];exact h.od
def hR_fam{hp:List (Nat×HB)}{xss:List (List Int)}{nm nb:Nat}(R0:List Nat)(h0:(R0.all fun k=>!Nat.beq k nm&&!Nat.beq k nb&&(aG hp k).isSome)=true)(hT:Tl 1000 (iW (ay .i64) 1000 xss) hp)(hn:n≤xss.length)(h1:Nat.blt nm 1000=true)(h2:Nat.blt nb 1000=true):
 ((R0++(List.range n).map (fun(x:Nat)=>x+1000)).all fun k=>!Nat.beq k nm&&!Nat.beq k nb&&(aG hp k).isSome)=true:=by
 have h1:=oZ h1;have h2:=oZ h2;rw[List.all_append,h0,Bool.true_and,Qe];intro k hk;obtain⟨x,hx,rfl⟩:=Nr.1 hk;have hx:=Lb.1 hx;have e1:Nat.beq (x+1000) nm=false:=by
  cases e:Nat.beq (x+1000) nm with
  | false=>rfl
  | true=>have:=OR e;omega
 have e2:Nat.beq (x+1000) nb=false:=by
  cases e:Nat.beq (x+1000) nb with
  | false=>rfl
  | true=>have:=OR e;omega
 rw[e1,e2,hT.look zo,C1,RY zo];rfl
def acy{nm sz off m s:Nat}{ds:List (Option (Option Addr×Nat×Nat))}(R0:List Nat)(h:R0.contains nm=true)(hd:ds.length≤n):(SV.fam (.own nm sz off m) 1000 s ds).within (R0++(List.range n).map (fun(x:Nat)=>x+1000))=true:=by simp only[SV.within,YC,Qe];refine⟨?_,fun x hx=>?_⟩;simp only[List.contains_iff_mem,Nx]at h⊢;exact .inl h;have:=Lb.1 hx;simp only[List.contains_iff_mem,Nx,Nr,Lb];exact .inr ⟨x,So,rfl⟩
def vf(s:aL)(hL:tf s):Ct prog 127 [.tv bw s] (.tup2 (.tv (ag (ay .i64)) (cT (scN s) (R5 s)).1) (.raw (.int .i64 (cT (scN s) (R5 s)).2))):=by
 refine Yk func127 ntmps127 fun w0 ok0=>?_;refine Qh ?_;refine YK (vv s hL) ?_;refine zY Z (aa (ac ?_));obtain⟨n,hnn⟩:∃n,n=scN s:=⟨_,rfl⟩;obtain⟨dd,hdd⟩:∃dd,dd=R5 s:=⟨_,rfl⟩;have w:WFd n dd:=by rw[hnn,hdd];exact xP s
 have hn14:n≤14:=by rw[hnn];exact hL.1
 rw[←hdd];have hdl:=w.len;have hdl14:dd.length≤14:=So;refine Y3 ?_;refine zO (fM (rt:=rHd) pK Sd zH37 Z by37 (.b Z) (.b Z) zo Kw rfl rfl rfl) (zY rfl ?_);rw[hdl];refine H6 5 1000 n [4] [21] (ay .i64) Z Z (.cons Z .nil) Z (.cons Z .nil) Z ?_;refine Y5 ?_;rw[hdl];refine zO (fM bT Sj z3 Z J7 (.b Z) (.b Z) zo Kw rfl rfl (xE rfl)) (zY rfl ?_);refine dT (b:=1000) [4,5,6] [21,24] (.cons rfl (.cons rfl (.cons rfl .nil))) Cj (.cons rfl (.cons rfl .nil)) ?_;refine aa (zR (zO (kC (rt:=ay .i64) (ds:=[]) oy Sj z3 Z .nil Z Z Z Z (xE Z)) ?_));refine ge 4 25 Z Z (fun A0 cap0=>?_);refine zO (F5 (rt:=rHd) (z:=(A0,0,cap0)) (.raw (.b Z) Z) Z Z (xE Z)) ?_;refine aco 26 26 Z (fun pb po=>?_);refine abJ 4 26 Z Z Z ?_;refine zY Z ?_;refine dT (b:=1000) [4,5,6,7] [21,24,25,26] (.cons rfl (.cons rfl (.cons rfl (.cons rfl .nil)))) Cj (.cons rfl (.cons rfl (.cons rfl (.cons rfl .nil)))) ?_;refine Y7 ?_;rw[hdl];refine aS ?_;refine dT (b:=1000) [4,5,6,7,27,28,29] [21,24,25,26] (.cons rfl (.cons rfl (.cons rfl (.cons rfl (.cons rfl (.cons rfl (.cons rfl .nil))))))) Cj (.cons rfl (.cons rfl (.cons rfl (.cons rfl .nil)))) ?_;refine aa (az ?_);refine bf (ι:=(Nat×List (Option Addr×Nat×Nat)×List Int×List Int×Option Addr×Nat)) (fun(k,hs,W,H,A,cap)=>⟨[(4,.tv (ag (ag (ay .i64))) dd),(5,.fam (.own 21 1 0 n) 1000 1 (hs.map some)),(6,.own 24 (ay .i64).n 0 n),(7,(qD 26 25 1 pb po) A (H).length cap),(27,.tv (ag (ag (ay .i64))) dd),(28,Sx ((n:Nat))),(29,Sx ((k:Nat)))],(21,⟨rHd,hs⟩)::(24,⟨ay .i64,W⟩)::(26,⟨rHd,[(A,(H).length,cap)]⟩)::(25,⟨ay .i64,H⟩)::iW (ay .i64) 1000 (J9 dd n k [])⟩) (fun(k,hs,W,H,A,cap)=>k≤n∧HdOK hs (J9 dd n k [])∧K0 n dd k W H∧gU H.length H) (fun(k,hs,W,H,A,cap)=>n-k) (0,List.replicate n (none,0,0),List.replicate n 0,[],A0,cap0) (⟨P8 _,by rw[DR];exact HdOK.zero _,K0.start n dd,fun k h0 h1=>by simp at h1⟩) (fun a w hi=>(Sub.inv ⟨(by repeat(first|exact au|refine ap rfl (by first|rfl|(simp;done)|assumption|(refine congrArg (SV.fam (SV.own 21 1 0 n) 1000 1) ?_;rw[List.map_replicate];done)) ?_)),(by repeat(first|refine ao rfl KG ?_|exact dU Cj (by rw[DR])))⟩ hi)) ?_;rintro⟨k,hs,W,H,A,cap⟩⟨hk,hq0,hk0,hho⟩;have hhl:=hk0.hlen;have hwl:=hk0.len;refine Y4 ?_;refine dT (b:=1000) [4,5,6,7,27,28,29,30] [21,24,25,26] (.cons rfl (.cons rfl (.cons rfl (.cons rfl (.cons rfl (.cons rfl (.cons rfl (.cons rfl .nil)))))))) Cj (.cons rfl (.cons rfl (.cons rfl (.cons rfl .nil)))) ?_;refine aa (ac ?_);refine Z0 ?_ ?_<;>intro h6;have h6:k<n:=Si;have hrl:=w.rlen (k:Int);refine Y7 ?_;refine zX pK kr Z Z Z (show dd[k]?=some (rw dd (k:Int))by simp[rw,show k<dd.length by omega]) (Y4 ?_);refine dT (b:=1000) [4,5,6,7,8,9,27,28,29] [21,24,25,26] (.cons rfl (.cons rfl (.cons rfl (.cons rfl (.cons rfl (.cons rfl (.cons rfl (.cons rfl (.cons rfl .nil))))))))) Cj (.cons rfl (.cons rfl (.cons rfl (.cons rfl .nil)))) ?_;refine Y8 ?_;refine gV _ Z (bH Sj (.b Z) Z zg (Lens.id _) (.raw (.b Z) Z)) ?_;refine aS ?_;refine dT (b:=1000) [4,5,6,7,8,9,27,28,29] [21,24,25,26] (.cons rfl (.cons rfl (.cons rfl (.cons rfl (.cons rfl (.cons rfl (.cons rfl (.cons rfl (.cons rfl .nil))))))))) Cj (.cons rfl (.cons rfl (.cons rfl (.cons rfl .nil)))) ?_;refine Y8 ?_;refine dT (b:=1000) [4,5,6,7,8,9,27,28,29,39,40,41] [21,24,25,26] (.cons rfl (.cons rfl (.cons rfl (.cons rfl (.cons rfl (.cons rfl (.cons rfl (.cons rfl (.cons rfl (.cons rfl (.cons rfl (.cons rfl .nil)))))))))))) Cj (.cons rfl (.cons rfl (.cons rfl (.cons rfl .nil)))) ?_;refine aa (az ?_);refine bf (ι:=(Nat×List (Option Addr×Nat×Nat))) (fun(j,hs)=>⟨[(4,.tv (ag (ag (ay .i64))) dd),(5,.fam (.own 21 1 0 n) 1000 1 (hs.map some)),(6,.own 24 (ay .i64).n 0 n),(7,(qD 26 25 1 pb po) A (H).length cap),(8,Sx ((k:Nat))),(9,.tv (ag (ay .i64)) (rw dd (k:Int))),(27,.tv (ag (ag (ay .i64))) dd),(28,Sx ((n:Nat))),(29,Sx ((k:Nat))),(39,.tv (ag (ay .i64)) (rw dd (k:Int))),(40,Sx ((rw dd (k:Int)).length)),(41,Sx ((j:Nat)))],(21,⟨rHd,hs⟩)::(24,⟨ay .i64,W.set (0+k) (((rw dd (k:Int)).length:Nat):Int)⟩)::(26,⟨rHd,[(A,(H).length,cap)]⟩)::(25,⟨ay .i64,H⟩)::iW (ay .i64) 1000 (J9 dd n k ((rw dd (k:Int)).take j))⟩) (fun(j,hs)=>j≤(rw dd (k:Int)).length∧HdOK hs (J9 dd n k ((rw dd (k:Int)).take j))) (fun(j,hs)=>(rw dd (k:Int)).length-j) (0,hs) (⟨P8 _,hq0⟩) (fun a w hi=>(Sub.inv ⟨XS,(by repeat(first|refine ao rfl KG ?_|exact dU Cj (rfl)))⟩ hi)) ?_;rintro⟨j,hs⟩⟨hj,hq⟩;refine Y4 ?_;refine dT (b:=1000) [4,5,6,7,8,9,27,28,29,39,40,41,42] [21,24,25,26] (.cons rfl (.cons rfl (.cons rfl (.cons rfl (.cons rfl (.cons rfl (.cons rfl (.cons rfl (.cons rfl (.cons rfl (.cons rfl (.cons rfl (.cons rfl .nil))))))))))))) Cj (.cons rfl (.cons rfl (.cons rfl (.cons rfl .nil)))) ?_;refine aa (ac ?_);refine Z0 ?_ ?_<;>intro h10;have h10:j<(rw dd (k:Int)).length:=Re;refine Y9 ?_;obtain⟨e,hee⟩:∃e,e=(rw dd (k:Int))[j]:=⟨_,rfl⟩;rw[←hee];obtain⟨he0,hen⟩:=w.ent (k:Int) e (by rw[hee];exact aA h10);have hec:e=((e.toNat:Nat):Int):=So;have hen2:e.toNat<n:=So;have hst:(J9 dd n k ((rw dd (k:Int)).take (j+1)))=(J9 dd n k ((rw dd (k:Int)).take j)).set e.toNat (((J9 dd n k ((rw dd (k:Int)).take j)).getD e.toNat [])++[(k:Int)]):=by rw[px h10,←hee,tfB he0 hen (by rw[hee];exact yB (w.srt _) h10)]
 obtain⟨A,cap,hget⟩:=hq.at (Hl (dd:=dd) (k:=k) (l:=(rw dd (k:Int)).take j) hen2);have hx1:(hs.map some)[e.toNat]?=some (some (A,((J9 dd n k ((rw dd (k:Int)).take j)).getD e.toNat []).length,cap)):=aaS;have hx2:=(Hl (dd:=dd) (k:=k) (l:=(rw dd (k:Int)).take j) hen2);have hxl:e.toNat<hs.length:=(Y0.1 hget).1;have hx3:((hs.map some).set e.toNat none)[e.toNat]?=some none:=aab;have hx4:(((J9 dd n k ((rw dd (k:Int)).take j))).set e.toNat [])[e.toNat]?=some []:=by rw[pw uD]
 have hset:(((J9 dd n k ((rw dd (k:Int)).take j)).set e.toNat []).set e.toNat (((((J9 dd n k ((rw dd (k:Int)).take j)).getD e.toNat []).drop 0).take ((J9 dd n k ((rw dd (k:Int)).take j)).getD e.toNat []).length++[(k:Int)]).take (((J9 dd n k ((rw dd (k:Int)).take j)).getD e.toNat []).length + [(k:Int)].length)))=(J9 dd n k ((rw dd (k:Int)).take (j+1))):=by rw[aeJ,List.set_set,hst]
 have hal:=aeI (dd:=dd) (k:=k) (l:=(rw dd (k:Int)).take j) hen2;refine aS ?_;refine dT (b:=1000) [4,5,6,7,8,9,11,27,28,29,39,40,41] [21,24,25,26] (.cons rfl (.cons rfl (.cons rfl (.cons rfl (.cons rfl (.cons rfl (.cons rfl (.cons rfl (.cons rfl (.cons rfl (.cons rfl (.cons rfl (.cons rfl .nil))))))))))))) Cj (.cons rfl (.cons rfl (.cons rfl (.cons rfl .nil)))) ?_;refine aa (ab (zJ (ai (.f1 Z)) (zM Z (zJ (ai (.f1 Z)) (zM Z (zJ (bk pK Sd (.b Z) (.b Z) hec hen2) (zJ (ah Sd (.b Z) Z GF (Lens.id _)) (zM rfl (zJ (bP (rt:=(ay .i64)) bT Sj z3 rfl (.cons (.raw (.b rfl) rfl) .nil) rfl rfl) ?_)))))))));refine EC (rt:=ay .i64) (xs:=((J9 dd n k ((rw dd (k:Int)).take j)).getD e.toNat [])) (m:=((J9 dd n k ((rw dd (k:Int)).take j)).getD e.toNat []).length) (A:=A) (cap:=cap) 5 50 60 e.toNat [4,6,7,8,9,27,28,29,39,40,41,45,46,52] [21,24,26,25] rfl rfl hx1 hx2 rfl rfl (.cons rfl (.cons rfl (.cons rfl (.cons rfl (.cons rfl (.cons rfl (.cons rfl (.cons rfl (.cons rfl (.cons rfl (.cons rfl (.cons rfl (.cons rfl (.cons rfl .nil)))))))))))))) rfl rfl rfl Cj (.cons rfl (.cons rfl (.cons rfl (.cons rfl .nil)))) rfl rfl ?_;refine zO (bX [4,5,6,7,8,9,27,28,29,39,40,41,45,46] bT Sj z3 Z J7 (.b Z) Z zo (.tv (.b Z)) (by unfold maxLen;(try simp only[NK,FV]);omega) (by(try simp only[NK,FV]);omega) rfl (.cons rfl (.cons rfl (.cons rfl (.cons rfl (.cons rfl (.cons rfl (.cons rfl (.cons rfl (.cons rfl (.cons rfl (.cons rfl (.cons rfl (.cons rfl (.cons rfl .nil)))))))))))))) rfl) (zJ (bk pK Sd (.b rfl) (.b rfl) hec hen2) ?_);refine EE (rt:=ay .i64) 5 53 60 e.toNat [4,6,7,8,9,27,28,29,39,40,41,54] [21,24,26,25] rfl rfl hx3 hx4 rfl Sp rfl rfl (.cons rfl (.cons rfl (.cons rfl (.cons rfl (.cons rfl (.cons rfl (.cons rfl (.cons rfl (.cons rfl (.cons rfl (.cons rfl (.cons rfl .nil)))))))))))) rfl rfl rfl Cj (.cons rfl (.cons rfl (.cons rfl (.cons rfl .nil)))) rfl rfl (fun A2 cap2=>?_);refine zO (bH (d:=(A2,((J9 dd n k ((rw dd (k:Int)).take j)).getD e.toNat []).length + [(k:Int)].length,cap2)) Sd (.b Z) Z GF (Lens.id _) (.raw (.b rfl) rfl)) (aS ?_);refine dT (b:=1000) [4,5,6,7,8,9,27,28,29,39,40,41] [21,24,25,26] (.cons rfl (.cons rfl (.cons rfl (.cons rfl (.cons rfl (.cons rfl (.cons rfl (.cons rfl (.cons rfl (.cons rfl (.cons rfl (.cons rfl .nil)))))))))))) Cj (.cons rfl (.cons rfl (.cons rfl (.cons rfl .nil)))) ?_;refine Y6 ?_;refine dT (b:=1000) [4,5,6,7,8,9,27,28,29,39,40,41] [21,24,25,26] (.cons rfl (.cons rfl (.cons rfl (.cons rfl (.cons rfl (.cons rfl (.cons rfl (.cons rfl (.cons rfl (.cons rfl (.cons rfl (.cons rfl .nil)))))))))))) Cj (.cons rfl (.cons rfl (.cons rfl (.cons rfl .nil)))) ?_;exact aE (fun a w hi=>⟨(j+1,hs.set e.toNat (A2,((J9 dd n k ((rw dd (k:Int)).take j)).getD e.toNat []).length + [(k:Int)].length,cap2)),(by show(rw dd (k:Int)).length-(j+1)<(rw dd (k:Int)).length-j;omega),⟨So,by rw[hst];exact hq.set uD Sp⟩,Sub.inv ⟨(by repeat(first|exact au|refine ap rfl (by first|rfl|(simp;done)|assumption|(refine congrArg (SV.fam (SV.own 21 1 0 n) 1000 1) ?_;simp[List.map_set];done)) ?_)),(by repeat(first|refine ao rfl KG ?_|exact dU Cj (hset)))⟩ hi⟩);have hjl:j=(rw dd (k:Int)).length:=Re;have hqn:HdOK hs (J9 dd n (k+1) []):=by rw[←DS];rw[hjl,FR]at hq;exact hq
 have hrvn:(J9 dd n k ((rw dd (k:Int)).take j))=J9 dd n (k+1) []:=by rw[hjl,FR,DS]
 refine dy ?_;refine dT (b:=1000) [4,5,6,7,8,27,28,29,58] [21,24,25,26] (.cons rfl (.cons rfl (.cons rfl (.cons rfl (.cons rfl (.cons rfl (.cons rfl (.cons rfl (.cons rfl .nil))))))))) Cj (.cons rfl (.cons rfl (.cons rfl (.cons rfl .nil)))) ?_;refine aa ?_;refine Z0 ?_ ?_<;>intro h14;have h14:(rw dd (k:Int))=[]:=by simp at h14;exact h14
 refine ab (zJ (ai (.l1 Z)) (zJ (q9 nt (.b2 Z Z)) (zM Z (zJ (ra MV (.b Z)) ?_))));refine jE (c0:=7) (nb:=26) (nm:=25) (pb:=pb) (po:=po) (qD 26 25 1 pb po) ([21,24]++(List.range n).map (fun(x:Nat)=>x+1000)) [4,5,6,27,28,29] (oG H (k:Int) hho zo) rfl rfl rfl (fun _ _ _=>oF) (fun β a w hi=>xx (oG H (k:Int) hho zo).ent (hi.raw (.b rfl))) rfl rfl rfl rfl (.cons (.b rfl) .nil) rfl rfl rfl (hR_fam [21,24] rfl Cj uD rfl rfl) (.free rfl rfl (.free rfl (acy [21,24] rfl (by have:=hq.1;rw[lV]at this;simp;omega)) (.free rfl rfl (.free rfl rfl (.free rfl rfl (.free rfl rfl .nil)))))) ?_;intro ys A2 cap2 hpq;refine aS ?_;refine dT (b:=1000) [4,5,6,7,27,28,29] [21,24,25,26] (.cons rfl (.cons rfl (.cons rfl (.cons rfl (.cons rfl (.cons rfl (.cons rfl .nil))))))) Cj (.cons rfl (.cons rfl (.cons rfl (.cons rfl .nil)))) ?_;refine Y6 ?_;exact SH;have h14:(rw dd (k:Int))≠[]:=by simp at h14;exact h14
 refine Y7 ?_;exact SH;have h6:k=n:=Si;refine Y6 ?_;subst h6;refine Ie (b:=1000) (rt:=ay .i64) 5 21 [4,6,7] [24,26,25] rfl hq0.1 hq0.2 rfl rfl rfl (.cons rfl (.cons rfl (.cons rfl .nil))) rfl Cj (.cons rfl (.cons rfl (.cons rfl .nil))) rfl rfl ?_;refine nZ (rt:=ag (ay .i64)) 21 5 (bQ 21 _) Z Z uD (a6 21 _) (bm 21 _) ?_;rw[Pv,fV uD,show J9 dd k k []=u7 k dd from rfl];have hki:=hk0.done;have wr:=rvs_wf (n:=k) dd;refine Y6 ?_;refine jF 70 12 (ay .i64) Z Z Z ?_;refine bf (ι:=(List Int×List Int×List Int×Option Addr×Nat)) (fun(out,W,H,A,cap)=>⟨[(4,.tv (ag (ag (ay .i64))) dd),(5,.tv (ag (ag (ay .i64))) (u7 k dd)),(6,.own 24 (ay .i64).n 0 k),(7,(qD 26 25 1 pb po) A (H).length cap),(12,.own 70 (ay .i64).n 0 out.length)],[(24,⟨ay .i64,W⟩),(26,⟨rHd,[(A,(H).length,cap)]⟩),(25,⟨ay .i64,H⟩),(70,⟨ay .i64,out⟩)]⟩) (fun(out,W,H,A,cap)=>KI k dd out W H∧gU H.length H) (fun(out,W,H,A,cap)=>k-out.length) ([],W,H,A,cap) (⟨hki,hho⟩) (fun a w hi=>(zI hi)) ?_;rintro⟨out,W,H,A,cap⟩⟨hi0,hho⟩;have hhl:=hi0.hlen;have hwl:=hi0.len;refine ac (zR (zJ (ai (.l1 Z)) (zJ (mh (.b Z) (.inr ⟨_,Z⟩)) (zJ (ah kq (.b1 Z) Z Z (Lens.id _)) ?_))));refine Y13 7 67 Z oF Z ?_;refine zJ (rc (CQ _ QE) (.own (.b rfl) rfl zo .nil) fh) ?_;rw[Pv,FR];refine Z3 ?_ ?_<;>intro h18;have h18:0<H.length:=by simp at h18;omega
 obtain⟨d,hd⟩:∃d,d=gt H 0:=⟨_,rfl⟩;have hdm:∀x∈H,d≤x:=fun x hx=>by rw[hd];exact apS hho hx
 refine ak (aa (az (zR (zJ (ai (.l1 Z)) (zJ (q9 nt (.b2 Z Z)) ?_)))));refine jE (c0:=7) (nb:=26) (nm:=25) (pb:=pb) (po:=po) (qD 26 25 1 pb po) [24,70] [4,5,6,12] (zi H hho h18 zo) Z Z Z (fun _ _ _=>oF) (fun β a w hi=>xx (zi H hho h18 zo).ent (hi.raw (.b Z))) Z Z Z Z .nil Z Z Z Z (.free Z Z (.free Z Z (.free Z Z (.free Z Z .nil)))) ?_;intro ys A2 cap2 hpq;rw[←hd]at hpq;rw[←hd];have hj1:=hi0.pop w hpq.1 hdm;have hds:=(hi0.hp d).1 (hpq.1.mem_iff.2 Sp);have hdc:d=((d.toNat:Nat):Int):=So;have hdl2:d.toNat<(u7 k dd).length:=by rw[wr.len];omega
 have hrl:=wr.rlen d;have hal:(out++[d]).length=out.length+1:=Sp;refine zJ (yy MV (.b Z)) (dy ?_);refine zJ (bP (rt:=(ay .i64)) bT Sj z3 Z (.cons (.raw (.b Z) Z) .nil) Z Z) (zV [4,5,6,7,13] bT Sj z3 J7 Z Z (.tv (.b Z)) ?_);refine Y7 ?_;refine bi _ Z _ Z Z (av pK kr (.b Z) (.b Z) hdc zg) ?_;refine Y3 ?_;rw[Rl hdl2];refine zZ (az ?_);refine bf (ι:=(Nat×List Int×List Int×Option Addr×Nat)) (fun(j,W,H,A,cap)=>⟨[(4,.tv (ag (ag (ay .i64))) dd),(5,.tv (ag (ag (ay .i64))) (u7 k dd)),(6,.own 24 (ay .i64).n 0 k),(7,(qD 26 25 1 pb po) A (H).length cap),(12,.own 70 (ay .i64).n 0 (out++[d]).length),(84,.tv (ag (ay .i64)) (rw (u7 k dd) d)),(85,Sx ((rw (u7 k dd) d).length)),(86,Sx ((j:Nat)))],[(24,⟨ay .i64,W⟩),(26,⟨rHd,[(A,(H).length,cap)]⟩),(25,⟨ay .i64,H⟩),(70,⟨ay .i64,out++[d]⟩)]⟩) (fun(j,W,H,A,cap)=>j≤(rw (u7 k dd) d).length∧KJ k dd (out++[d]) d W H ((rw (u7 k dd) d).take j)∧gU H.length H) (fun(j,W,H,A,cap)=>(rw (u7 k dd) d).length-j) (0,W,ys,A2,cap2) (⟨P8 _,hj1,hpq.2⟩) (fun a w hi=>Sub.inv ⟨(by repeat(first|exact au|refine ap rfl (by first|rfl|(simp;done)|assumption|(refine congrArg (SV.own 70 (ay .i64).n 0) ?_;simp;done)) ?_)),(by repeat(first|exact aw|refine ao rfl (by first|rfl|(simp;done)|assumption|(refine congrArg (HB.mk (ay .i64)) ?_;rw[Pv,FR];done)) ?_))⟩ hi) ?_;rintro⟨j,W,H,A,cap⟩⟨hj,hj0,hho⟩;have hhl2:=hj0.hlen;have hwl2:=hj0.len;refine Z6 ?_ ?_<;>intro h22;have h22:j<(rw (u7 k dd) d).length:=abE;refine Y9 ?_;obtain⟨u,huu⟩:∃u,u=(rw (u7 k dd) d)[j]:=⟨_,rfl⟩;rw[←huu];obtain⟨hu0,hun,hud⟩:=(Cd hds.1 hds.2.1).1 (show u∈(rw (u7 k dd) d)by rw[huu];exact aA h22);have huc:u=((u.toNat:Nat):Int):=So;have hul:u.toNat<W.length:=So;have hus:u∉(rw (u7 k dd) d).take j:=by rw[huu];exact yB (wr.srt _) h22
 have htk:(rw (u7 k dd) d).take (j+1)=(rw (u7 k dd) d).take j++[u]:=by rw[px h22,←huu]
 have hwu:=hj0.wt u hu0 hun;rw[Cg ⟨hud,hus⟩]at hwu;have hcu:=acb (out++[d]) (rw dd u);have hru:=w.rlen u;refine Y6 ?_;refine zJ (bk bT Sj (.b Z) (.b Z) huc zh) (zJ (ah Sj (.b Z) Z (KY hul) (Lens.id _)) (zJ (cH (.b Z) (.b Z) zw) (zJ (bk bT Sj (.b Z) (.b Z) huc zh) (zC Sj Z Z (KY hul) (Lens.id _) (.raw (.b Z) Z) (zZ (zR (zM Z (zM Z (zJ (bk bT Sj (.b Z) (.b Z) huc zh) ?_)))))))));refine bi _ Z _ Z Z (ah Sj (.b Z) Z (show(W.set (0+u.toNat) (wv W u-1))[0+u.toNat]?=some (wv W u-1)by rw[pw zo]) (Lens.id _)) ?_;refine Z3 ?_ ?_<;>intro h25;have h25:wv W u-1=0:=Ew;refine ab (zJ (ai (.l1 Z)) (zJ (q9 nt (.b2 Z Z)) (zM Z (zJ (ra MV (.b Z)) ?_))));refine jE (c0:=7) (nb:=26) (nm:=25) (pb:=pb) (po:=po) (qD 26 25 1 pb po) [24,70] [4,5,6,12,84,85,86] (oG H u hho zo) Z Z Z (fun _ _ _=>oF) (fun β a w hi=>xx (oG H u hho zo).ent (hi.raw (.b Z))) Z Z Z Z (.cons (.b Z) .nil) Z Z Z Z (.free Z Z (.free Z Z (.free Z Z (.free Z Z (.free Z Z (.free Z Z (.free Z Z .nil))))))) ?_;intro ys A2 cap2 hpq;exact SR;have h25:¬wv W u-1=0:=Ew;exact SR;have h22:j=(rw (u7 k dd) d).length:=abE;have hjd:∀u:Int,0≤u→u<k→d∈rw dd u→u∈(rw (u7 k dd) d).take j:=fun u a b c=>by rw[h22,FR];exact(Cd hds.1 hds.2.1).2 ⟨a,b,c⟩
 refine Y5 ?_;exact aE (fun a w hi=>⟨(out++[d],W,H,A,cap),(by show k-(out++[d]).length<k-out.length;omega),⟨hj0.done hjd,hho⟩,zI hi⟩);have h18:H=[]:=E2;subst h18;have hfin:=hi0.fin;refine MY ?_;rw[hdl];refine zZ ?_;refine Z0 ?_ ?_<;>intro h28;have h28:out.length<k:=by simp at h28;omega
 refine zR (zA Z (zA Z (zQ [2,3] [] (aa (am (al ?_))))));exact aI results127 (R9 Z) (ar Z) ⟨Z,Z⟩ (by unfold cT;rw[←hnn,←hfin,Cg h28]);have h28:¬out.length<k:=by simp at h28;omega
 refine Qh ?_;refine e8 (rt:=ay .i64) 70 2 (bQ 70 _) Z Z Sp (a6 70 _) (bm 70 _) ?_;exact z2 results127 Z Z (by unfold cT;rw[←hnn,←hfin,zE h28,Pv,FR])
noncomputable def As (s:aL) (d:Int):List Int:=if Ql (scN s) d=true then nG (scN s) (R5 s) d else[]
def Gi(h0:0≤d)(h1:d<n):Ql n d=true:=by simp[Ql];omega
def acX(s:aL)(d:Int)(hL:tf s):Ct prog 90 [.tv bw s,Sx d] (.tv (ag (ay .i64)) (As s d)):=by
 refine Yk func90 ntmps90 fun w0 ok0=>?_;have hN:scN s=s.2.2.2.1.length:=rfl;refine GJ ?_ ?_<;>intro h1;have h1:Ql (scN s) d=false:=by by_cases e1:d<0;simp[Ql];omega;simp[e1]at h1;simp[Ql];omega
 refine Y7 ?_;exact cQ results90 (R9 Z) Z (congrArg (SV.tv (ag (ay .i64))) (by unfold As;rw[zE M5]));have h1:Ql (scN s) d=true:=by by_cases e1:d<0;simp[e1]at h1;simp[e1]at h1;simp[Ql];omega
 have hd0:0≤d∧d<scN s:=by simp[Ql]at h1;omega
 have w:=xP s;have hN2:=hL.1;refine Y5 ?_;refine YK (vv s hL) ?_;refine zM Z (zJ (an (WfL (scN s) (R5 s) d w zo zo zo) (.cons (.b Z) (.cons (.b Z) .nil)) Z Z) (zY Z (aa (am ?_))));exact z1 results90 Z (congrArg (SV.tv (ag (ay .i64))) (by unfold As;rw[Cg h1]))

def qp{n:Int}{l:List ce}{s:bG}(h:(dS n l s).2=0):aP (dS n l s).1 s.1=true:=by unfold dS at h⊢;split at h;simp at h;split at h;simp at h;rename_i a b;rw[zE a,zE b];simpa using b
def ac3{d:aF}{l:List ce}{s:bG}(hv:∀t∈l,aP t s.1=true)(h:(cn d l s).2=0):aP (cn d l s).1 s.1=true:=by
 unfold cn at h⊢;by_cases c1:1≤d.1∧d.1≤5;rw[Cg c1]at h⊢;unfold fS at h⊢;split at h;simp at h;rename_i c;rw[zE c];simp[aP,c1];rw[zE c1]at h⊢;by_cases c2:d.1=6;rw[Cg c2]at h⊢;unfold ke at h⊢;split at h;simp at h;split at h;simp at h;rename_i a b;rw[zE a,zE b];simp[aP];omega;rw[zE c2]at h⊢;by_cases c3:d.1=7;rw[Cg c3]at h⊢;exact qp h;rw[zE c3]at h⊢;by_cases c4:d.1=8;rw[Cg c4]at h⊢;exact qp h;rw[zE c4]at h⊢;by_cases c5:d.1=9;rw[Cg c5];simp[aP];rw[zE c5]at h⊢;by_cases c6:d.1=33∨d.1=34;rw[Cg c6]at h⊢;unfold fG at h⊢;split at h;simp at h;split at h;simp at h;split at h;simp at h;rename_i a b c;rw[zE a,zE b,zE c];simp only[not_or,Bool.not_eq_false]at c;split at h;rename_i e;rw[Cg e];split at h;simp at h;rename_i m;rw[zE m];exact c.1;rename_i e;rw[zE e];exact c.2.1;rw[zE c6]at h⊢;by_cases c7:35≤d.1∧d.1≤39;rw[Cg c7]at h⊢;unfold cp at h⊢;split at h;simp at h;split at h;rename_i a b;rw[zE a,Cg b];simp[aP];split at h;rename_i a;exact absurd h a;split at h;rename_i a b c e;rw[zE a,zE b,zE c,Cg e];exact qp Ff;simp at h;rw[zE c7]at h⊢;by_cases c8:(14≤d.1∧d.1≤16)∧iX d.2=false;rw[Cg c8]at h;simp at h;rw[zE c8]at h⊢;by_cases c9:(aR d.1 l).2=false;rw[Cg c9]at h;simp at h;rw[zE c9];simp only;have c9:(aR d.1 l).2=true:=by simpa using c9
 clear h c1 c2 c3 c4 c5 c6 c7 c8;unfold aR at c9⊢;match l,hv,c9 with
 | [],_,c9=>simp at c9
 | [a],hv,c9=>simp at c9 hv⊢;(repeat' split at c9)<;>simp_all [aP]
 | [a,b],hv,c9=>
  simp only[L5,List.not_mem_nil,or_false,forall_eq_or_imp,forall_eq]at hv;simp only at c9⊢;split at c9;rename_i e;rw[Cg e];exact hv.1;rename_i e;rw[zE e];split at c9
  ·rename_i e;rw[Cg e];unfold ei at c9⊢;(repeat' split at c9)<;>simp_all [aP]<;>omega
  rename_i e;rw[zE e];(repeat' split at c9)<;>simp_all [aP]
 | [a,b,c],hv,c9=>simp at c9 hv⊢;split at c9<;>simp_all
 | _::_::_::_::_,_,c9=>simp at c9
abbrev Sg:=List aF×ce
def ja:Nat→List Sg→List Int
 | _,[]=>[]
 | a,x::r=>(a:Int)::ja (a+x.1.length) r
def flat:List Sg→List aF
 | []=>[]
 | x::r=>x.1++flat r
def Good(s:bG)(p:Nat)(x:Sg):Prop:=x.1≠[]∧
 (∀(L:Int) (r:List aF) (i:Nat) (stack starts:List Int),stack.length≤p→∃ss,ss.length=x.1.length∧iq L (x.1++r) i stack starts=iq L r (i+x.1.length) (stack++[(i:Int)]) (starts++ss))∧
 (∀(r:List aF) (i:Nat) (st:List ce),nz s (x.1++r) i st=nz s r (i+x.1.length) (st++[x.2]))
def rM(s:bG):Nat→List Sg→Prop
 | _,[]=>True
 | p,x::r=>Good s p x∧rM s (p+1) r
def jy:∀(a:Nat) (l:List Sg),(ja a l).length=l.length
 | _,[]=>rfl
 | a,x::r=>by simp[ja,jy]
def kL:∀(x y:List Sg),flat (x++y)=flat x++flat y
 | [],y=>rfl
 | a::x,y=>by simp[flat,kL x y]
def oB:∀(a:Nat) (x y:List Sg),ja a (x++y)=ja a x++ja (a+(flat x).length) y
 | a,[],y=>by simp[ja,flat]
 | a,b::x,y=>by simp[ja,flat,oB _ x y,qx]
def qt{s:bG}:∀(p:Nat) (x y:List Sg),rM s p (x++y)↔rM s p x∧rM s (p+x.length) y
 | p,[],y=>by simp[rM]
 | p,a::x,y=>by simp only[C7,rM,qt (p+1) x y,NK,and_assoc];rw[show p+1+x.length=p+(x.length+1)by omega]
def zn{s:bG}:∀(p:Nat) (l:List Sg),rM s p l→∀(L:Int) (r:List aF) (i:Nat) (stack starts:List Int),stack.length≤p→∃ss,ss.length=(flat l).length∧iq L (flat l++r) i stack starts=iq L r (i+(flat l).length) (stack++ja i l) (starts++ss)
 | p,[],_,L,r,i,stack,starts,_=>⟨[],rfl,by simp[flat,ja]⟩
 | p,x::l,⟨h1,h2⟩,L,r,i,stack,starts,hp=>by obtain⟨s1,l1,e1⟩:=h1.2.1 L (flat l++r) i stack starts hp;obtain⟨s2,l2,e2⟩:=zn (p+1) l h2 L r (i+x.1.length) (stack++[(i:Int)]) (starts++s1) QE;refine⟨s1++s2,by simp[flat,l1,l2],?_⟩;rw[flat,F3,e1,e2];simp[ja,qx]
def zm{s:bG}:∀(p:Nat) (l:List Sg),rM s p l→∀(r:List aF) (i:Nat) (st:List ce),nz s (flat l++r) i st=nz s r (i+(flat l).length) (st++l.map (·.2))
 | p,[],_,r,i,st=>by simp[flat]
 | p,x::l,⟨h1,h2⟩,r,i,st=>by rw[flat,F3,h1.2.2,zm (p+1) l h2];simp[qx]
def z63{s:bG}{p:Nat}{l:List Sg}{d:aF}(h:rM s p l)(ha:aW d.1=l.length)(hp:p+1≤12)(h2:¬(d.2≠0∧fd d.1=false))(h3:(cn d (l.map (·.2)) s).2=0):
 Good s p (flat l++[d],(cn d (l.map (·.2)) s).1):=by
 refine⟨Sp,fun L r i stack starts hs=>?_,fun r i st=>?_⟩;obtain⟨ss,l1,e1⟩:=zn p l h L (d::r) i stack starts hs;have el:(((stack++ja i l).length:Int)-aW d.1).toNat=stack.length:=by rw[ha];simp[jy]
 have ef:(if 0<aW d.1 then(stack++ja i l)[stack.length]?.getD 0 else((i+(flat l).length:Nat):Int))=(i:Int):=by
  cases l with
  | nil=>rw[ha];simp[flat]
  | cons x l=>rw[ha];rw[Cg Sp];simp[ja]
 refine⟨ss++[(i:Int)],by simp[l1],?_⟩;rw[show((flat l++[d],(cn d (l.map (·.2)) s).1):Sg).1=flat l++[d]from rfl,F3,List.singleton_append,e1,iq,zE (by rw[ha];omega),zE (by rw[ha];simp[jy];omega),el,
  DZ rfl,zE zo,ef]
 simp[qx,F3];rw[show((flat l++[d],(cn d (l.map (·.2)) s).1):Sg).1=flat l++[d]from rfl,F3,List.singleton_append,zm p l h,nz,zE h2];have eb:nA d (st++l.map (·.2))=st.length:=by unfold nA;rw[ha];simp
 rw[eb,List.drop_left' rfl,DZ rfl,zE (by simp[h3])];simp[qx]
def Run(e:List aF)(s:bG)(k:Nat)(l:List Sg):Prop:=∃starts:List Int,ir starts k (ja 0 l).reverse∧starts.length=k∧iq e.length (e.drop k) k (ja 0 l) starts=bK e∧
 nz s (e.drop k) k (l.map (·.2))=fF e s∧flat l=e.take k∧rM s 0 l∧∀x∈l,aP x.2 s.1=true
def DT{s:bG}{l:List Sg}(h:Run e s k l)(hk:k<e.length)(hs:(bK e).2.2=0)(ht:(fF e s).2.2=0):
 0≤aW e[k].1∧aW e[k].1≤l.length∧¬(e[k].2≠0∧fd e[k].1=false)∧(cn e[k] ((l.drop (l.length-(aW e[k].1).toNat)).map (·.2)) s).2=0∧Run e s (k+1) (l.take (l.length-(aW e[k].1).toNat)++[(flat (l.drop (l.length-(aW e[k].1).toNat))++[e[k]],(cn e[k] ((l.drop (l.length-(aW e[k].1).toNat)).map (·.2)) s).1)]):=by
 obtain⟨starts,hc,hl,h1,h2,h3,h4,h5⟩:=h;rw[qv hk,iq]at h1;rw[qv hk,nz]at h2;have a0:0≤aW e[k].1:=by refine Int.not_lt.1 fun c=>?_;rw[Cg c]at h1;rw[←h1]at hs;simp at hs
 rw[zE zo]at h1;have a1:aW e[k].1≤(ja 0 l).length:=by refine Int.not_lt.1 fun c=>?_;rw[Cg c]at h1;rw[←h1]at hs;simp at hs
 rw[zE zo]at h1;have a2:¬12<((ja 0 l).take ((ja 0 l).length-aW e[k].1).toNat).length+1:=fun c=>by rw[Cg c]at h1;rw[←h1]at hs;simp at hs
 rw[zE a2]at h1;have b0:¬(e[k].2≠0∧fd e[k].1=false):=fun c=>by rw[Cg c]at h2;rw[←h2]at ht;simp at ht
 rw[zE b0]at h2;have em:nA e[k] (l.map (·.2))=l.length-(aW e[k].1).toNat:=by unfold nA;simp;omega
 rw[jy]at a1;rw[em]at h2;have emo:(((ja 0 l).length:Int)-aW e[k].1).toNat=l.length-(aW e[k].1).toNat:=by rw[jy];omega
 rw[emo]at h1 a2;generalize hm:l.length-(aW e[k].1).toNat=m at h1 h2 a2 em emo⊢;rw[←List.map_drop]at h2;have b1:(cn e[k] ((l.drop m).map (·.2)) s).2=0:=Classical.byContradiction fun c=>by rw[Cg c]at h2;rw[←h2]at ht;exact c ht
 rw[zE (fun c=>c b1)]at h2;have hml:m≤l.length:=So;have hsp:l=l.take m++l.drop m:=(N4 m l).symm;have hof:ja 0 l=ja 0 (l.take m)++ja (0+(flat (l.take m)).length) (l.drop m):=by rw[←oB,←hsp]
 have hot:(ja 0 l).take m=ja 0 (l.take m):=by rw[hof];exact DZ (by rw[jy];simp;omega)
 have hfl:(flat (l.take m)).length+(flat (l.drop m)).length=k:=by rw[←Yl,←kL,←hsp,h3];simp;omega
 have hfr:(if 0<aW e[k].1 then(ja 0 l)[m]?.getD 0 else(k:Int))=((flat (l.take m)).length:Int):=by
  by_cases c:0<aW e[k].1;rw[Cg c,hof,l9 (by rw[jy];simp;omega),jy];have:l.drop m≠[]:=by intro q;have:=congrArg List.length q;simp at this;omega
  cases hd:l.drop m with
  | nil=>exact absurd hd this
  | cons x r=>simp[ja,Mh hml]
  rw[zE c];have:l.drop m=[]:=List.drop_eq_nil_of_le zo;rw[this]at hfl;simp[flat]at hfl;omega
 have hof2:ja 0 (l.take m++[(flat (l.drop m)++[e[k]],(cn e[k] ((l.drop m).map (·.2)) s).1)])=(ja 0 l).take m++[if 0<aW e[k].1 then(ja 0 l)[m]?.getD 0 else(k:Int)]:=by rw[oB,hot,hfr];simp[ja]
 refine⟨a0,a1,b0,b1,starts++[if 0<aW e[k].1 then(ja 0 l)[m]?.getD 0 else(k:Int)],?_,by simp[hl],?_,?_,?_,?_,?_⟩;have:=t7 (n:=aW e[k].1) hc hl a0 (by rw[jy];exact a1);rw[emo]at this;rw[hof2];exact this;rw[hof2];exact h1;rw[ll,List.map_take];exact h2;rw[kL,flat,flat,Nk,←F3,←kL,←hsp,h3];exact List.take_append_getElem hk;rw[hsp,qt]at h4;rw[qt];refine⟨h4.1,z63 h4.2 QE (by simp[jy]at a2⊢;omega) b0 b1,trivial⟩;intro x hx;rcases Nx.1 hx with hx|hx;exact h5 x (JU hx);obtain rfl:=J0.1 hx;exact ac3 (fun t ht=>by obtain⟨y,hy,rfl⟩:=Nr.1 ht;exact h5 y (List.mem_of_mem_drop hy)) b1
def Hm{e:List aF}{s:bG}(hs:(bK e).2.2=0)(ht:(fF e s).2.2=0):∀k,k≤e.length→∃l,Run e s k l
 | 0,_=>by
  have:=ep hs
  refine⟨[],[],Z,Z,?_,?_,Z,trivial,Sp⟩
  ·unfold bK;rw[zE zo,zE zo];rfl
  unfold fF;rw[zE (by simp[hs])];rfl
 | k+1,hk=>by
  obtain⟨l,hl⟩:=Hm hs ht k zo
  exact⟨_,(DT hl zo hs ht).2.2.2.2⟩
def mF:Nat→List Sg→List Int
 | _,[]=>[]
 | a,x::r=>(((a+x.1.length:Nat):Int)-1)::mF (a+x.1.length) r
def pC:∀(a:Nat) (l:List Sg),(mF a l).length=l.length
 | _,[]=>rfl
 | a,x::r=>by simp[mF,pC]
def oK:∀(a:Nat) (x y:List Sg),mF a (x++y)=mF a x++mF (a+(flat x).length) y
 | a,[],y=>by simp[mF,flat]
 | a,b::x,y=>by simp[mF,flat,oK _ x y,qx]
def Ei{R:List Int}:∀(n:Nat) (l:List Sg),l.length=n→ir R ((flat l).length:Nat) (ja 0 l).reverse→MO R n ((flat l).length:Nat)=mF 0 l∧
 ∀i,i<l.length→(mF 0 l)[i]?=some (((flat (l.take (i+1))).length:Int)-1)∧R[(((flat (l.take (i+1))).length:Int)-1).toNat]?=some ((flat (l.take i)).length:Int)
 | 0,l,hl,_=>by
  obtain rfl:=jC.1 hl
  exact⟨Z,fun i hi=>absurd hi Sp⟩
 | n+1,l,hl,hc=>by
  rcases List.eq_nil_or_concat l with rfl|⟨l',x,rfl⟩
  ·simp at hl
  have hl':l'.length=n:=FM
  rw[List.concat_eq_append]at hc⊢
  have er:(ja 0 (l'++[x])).reverse=((flat l').length:Int)::(ja 0 l').reverse:=by rw[oB,List.reverse_append];simp[ja]
  rw[er]at hc
  obtain⟨h1,h2⟩:=Ei n l' hl' hc.2.2.2
  have h3:=hc.2.2.1
  have ee:mF 0 (l'++[x])=mF 0 l'++[((flat (l'++[x])).length:Int)-1]:=by rw[oK,kL];simp[mF,flat]
  refine⟨?_,fun i hi=>?_⟩
  ·rw[MO,h3,YM,h1,ee]
  by_cases c:i<l'.length
  ·rw[ee,NH (by rw[pC];exact c),N3 zo,N3 zo]
   exact h2 i c
  have:i=l'.length:=by simp at hi;omega
  subst this
  rw[ee,l9 (by rw[pC];omega),pC,fV Sp,DZ rfl]
  simp;simpa using h3
def im{s:bG}(h:(fF e s).2.2=0):(bK e).2.2=0:=by unfold fF at h;split at h;exact h;rename_i c;simpa using c
def ins:Nat→List ce→List Sg
 | _,[]=>[]
 | a,t::r=>([(7,(a:Int))],t)::ins (a+1) r
end Go.Eng
