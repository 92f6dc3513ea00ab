import Derived.KernelRfl
import Derived.Below
import Derived.Tactics
import Derived.Laws.Entries
import Derived.Laws.AppendOwn
set_option linter.all false
set_option maxRecDepth 100000
set_option maxHeartbeats 9000000
namespace Go.Eng
variable{B off:Nat}{γ:Type}{ex:Nat→Prop}{p:Prop}{v:Value}{w w':World}
def zE:type_of% @if_neg:=@if_neg
def Cg:type_of% @if_pos:=@if_pos
def RY:type_of% @List.getElem?_eq_getElem:=@List.getElem?_eq_getElem
def P8:type_of% @Nat.zero_le:=@Nat.zero_le
def aA:type_of% @List.getElem_mem:=@List.getElem_mem
def Pv:type_of% @List.drop_zero:=@List.drop_zero
def Kl:type_of% @Nat.le_refl:=@Nat.le_refl
def fV:type_of% @List.take_of_length_le:=@List.take_of_length_le
def N1:type_of% @Nat.zero_add:=@Nat.zero_add
def YM:type_of% @Option.getD_some:=@Option.getD_some
def YC:type_of% @Bool.and_eq_true:=@Bool.and_eq_true
def Y0:type_of% @List.getElem?_eq_some_iff:=@List.getElem?_eq_some_iff
def Yl:type_of% @List.length_append:=@List.length_append
def FR:type_of% @List.take_length:=@List.take_length
def Nx:type_of% @List.mem_append:=@List.mem_append
def wb:type_of% @Nat.le_trans:=@Nat.le_trans
def K4:type_of% @Int.toNat_natCast:=@Int.toNat_natCast
def Qe:type_of% @List.all_eq_true:=@List.all_eq_true
def F3:type_of% @List.append_assoc:=@List.append_assoc
def Qd:type_of% @Nat.add_mul:=@Nat.add_mul
def MZ:type_of% @Bool.eq_iff_iff:=@Bool.eq_iff_iff
def L5:type_of% @List.mem_cons:=@List.mem_cons
def Qa:type_of% @Nat.lt_or_ge:=@Nat.lt_or_ge
def J1:type_of% @Int.toNat_of_nonneg:=@Int.toNat_of_nonneg
def Lb:type_of% @List.mem_range:=@List.mem_range
def J0:type_of% @List.mem_singleton:=@List.mem_singleton
def MW:type_of% @of_decide_eq_true:=@of_decide_eq_true
def J8:type_of% @of_decide_eq_false:=@of_decide_eq_false
def F2:type_of% @Nat.lt_of_lt_of_le:=@Nat.lt_of_lt_of_le
def Ek:type_of% @decide_eq_true_eq:=@decide_eq_true_eq
def NK:type_of% @List.length_cons:=@List.length_cons
def jp:type_of% @List.getElem?_eq_none:=@List.getElem?_eq_none
def ll:type_of% @List.map_append:=@List.map_append
def px:type_of% @List.take_succ_eq_append_getElem:=@List.take_succ_eq_append_getElem
def qv:type_of% @List.drop_eq_getElem_cons:=@List.drop_eq_getElem_cons
def cr:type_of% @List.getElem?_map:=@List.getElem?_map
def bn:type_of% @Nat.mul_le_mul_right:=@Nat.mul_le_mul_right
def qx:type_of% @Nat.add_assoc:=@Nat.add_assoc
def l9:type_of% @List.getElem?_append_right:=@List.getElem?_append_right
def QC:type_of% @List.length_set:=@List.length_set
def rD:type_of% @List.getElem?_take_of_lt:=@List.getElem?_take_of_lt
def zy:type_of% @List.getD_eq_getElem?_getD:=@List.getD_eq_getElem?_getD
def zr:type_of% @List.map_cons:=@List.map_cons
def NH:type_of% @List.getElem?_append_left:=@List.getElem?_append_left
def pw:type_of% @List.getElem?_set_self:=@List.getElem?_set_self
def Na:type_of% @Nat.mod_lt:=@Nat.mod_lt
def Nr:type_of% @List.mem_map:=@List.mem_map
def M6:type_of% @Nat.add_zero:=@Nat.add_zero
def Kf:type_of% @Nat.le_of_eq:=@Nat.le_of_eq
def Gm:type_of% @Array.getElem?_eq_some_iff:=@Array.getElem?_eq_some_iff
def jC:type_of% @List.length_eq_zero_iff:=@List.length_eq_zero_iff
def Fe:type_of% @List.mem_iff_getElem:=@List.mem_iff_getElem
def nL:type_of% @List.mem_of_getElem?:=@List.mem_of_getElem?
def KC:type_of% @List.length_take:=@List.length_take
def KD:type_of% @List.drop_of_length_le:=@List.drop_of_length_le
def KE:type_of% @List.getElem?_drop:=@List.getElem?_drop
def Ot:type_of% @List.getElem?_set_ne:=@List.getElem?_set_ne
def Nk:type_of% @List.append_nil:=@List.append_nil
def LW:type_of% @List.getElem_of_mem:=@List.getElem_of_mem
def Lf:type_of% @Option.map_some:=@Option.map_some
def Jp:type_of% @List.range_succ:=@List.range_succ
def FQ:type_of% @List.length_filter_le:=@List.length_filter_le
def JC:type_of% @Nat.div_add_mod':=@Nat.div_add_mod'
def JO:type_of% @Bool.or_eq_true:=@Bool.or_eq_true
def f9:type_of% @List.mem_cons_of_mem:=@List.mem_cons_of_mem
def PN:type_of% @Bool.false_eq_true:=@Bool.false_eq_true
def C7:type_of% @List.cons_append:=@List.cons_append
def Ku:type_of% @List.getElem?_set:=@List.getElem?_set
def QJ:type_of% @List.length_map:=@List.length_map
def Kp:type_of% @List.map_congr_left:=@List.map_congr_left
def N4:type_of% @List.take_append_drop:=@List.take_append_drop
def Fk:type_of% @List.getElem_cons_zero:=@List.getElem_cons_zero
def Lv:type_of% @List.ext_getElem?:=@List.ext_getElem?
def Sq:type_of% @List.mem_filter:=@List.mem_filter
def Km:type_of% @List.nil_append:=@List.nil_append
def Qq:type_of% @Nat.succ_mul:=@Nat.succ_mul
def FV:type_of% @List.length_nil:=@List.length_nil
def Oq:type_of% @List.getElem?_replicate:=@List.getElem?_replicate
def Oo:type_of% @List.any_eq_true:=@List.any_eq_true
def Ja:type_of% @List.length_singleton:=@List.length_singleton
def PS:type_of% @List.length_drop:=@List.length_drop
def O6:type_of% @Nat.mul_comm:=@Nat.mul_comm
def OR:type_of% @Nat.eq_of_beq_eq_true:=@Nat.eq_of_beq_eq_true
def Jc:type_of% @Nat.zero_mul:=@Nat.zero_mul
def Jb:type_of% @List.pairwise_cons:=@List.pairwise_cons
def NZ:type_of% @List.filter_append:=@List.filter_append
def Fx:type_of% @List.map_nil:=@List.map_nil
def PT:type_of% @List.mem_cons_self:=@List.mem_cons_self
def PC:type_of% @List.getElem?_take:=@List.getElem?_take
def PB:type_of% @Array.getElem?_eq_getElem:=@Array.getElem?_eq_getElem
def Jd:type_of% @List.drop_drop:=@List.drop_drop
def GG:type_of% @Nat.div_lt_iff_lt_mul:=@Nat.div_lt_iff_lt_mul
def N9:type_of% @List.length_pos_iff:=@List.length_pos_iff
def N3:type_of% @List.take_append_of_le_length:=@List.take_append_of_le_length
def O5:type_of% @Nat.sub_self:=@Nat.sub_self
def LV:type_of% @List.take_take:=@List.take_take
def DZ:type_of% @List.take_left':=@List.take_left'
def FU:type_of% @List.nodup_cons:=@List.nodup_cons
def Oa:type_of% @List.getElem_range:=@List.getElem_range
def LO:type_of% @List.all_cons:=@List.all_cons
def Lq:type_of% @Array.length_toList:=@Array.length_toList
def Jq:type_of% @List.getElem?_toArray:=@List.getElem?_toArray
def Gn:type_of% @Array.getElem?_append_left:=@Array.getElem?_append_left
def Mh:type_of% @Nat.min_eq_left:=@Nat.min_eq_left
def Nb:type_of% @List.pairwise_iff_getElem:=@List.pairwise_iff_getElem
def J2:type_of% @List.length_mergeSort:=@List.length_mergeSort
def JQ:type_of% @Option.isNone_iff_eq_none:=@Option.isNone_iff_eq_none
def JU:type_of% @List.mem_of_mem_take:=@List.mem_of_mem_take
def Qo:type_of% @List.getElem_map:=@List.getElem_map
def MF:type_of% @decide_eq_false_iff_not:=@decide_eq_false_iff_not
def afk:type_of% @List.mem_append_left:=@List.mem_append_left
def afl:type_of% @List.size_toArray:=@List.size_toArray
def afm:type_of% @Bool.and_eq_false_iff:=@Bool.and_eq_false_iff
def afn:type_of% @Bool.or_eq_false_iff:=@Bool.or_eq_false_iff
def afo:type_of% @Bool.not_eq_true':=@Bool.not_eq_true'
def afp:type_of% @List.set_append_right:=@List.set_append_right
def afq:type_of% @List.any_eq_false:=@List.any_eq_false
def afr:type_of% @Nat.eq_zero_or_pos:=@Nat.eq_zero_or_pos
def afs:type_of% @List.getElem?_cons_zero:=@List.getElem?_cons_zero
def afu:type_of% @List.getElem?_cons_succ:=@List.getElem?_cons_succ
def afv:type_of% @List.length_replicate:=@List.length_replicate
def afw:type_of% @Array.getElem?_setIfInBounds_ne:=@Array.getElem?_setIfInBounds_ne
def afx:type_of% @List.findIdx?_eq_some_iff_getElem:=@List.findIdx?_eq_some_iff_getElem
def afy:type_of% @Int.ofNat_natAbs_of_nonpos:=@Int.ofNat_natAbs_of_nonpos
def afz:type_of% @List.getElem_append_left:=@List.getElem_append_left
def afA:type_of% @List.getElem_append_right:=@List.getElem_append_right
def Sz(h:p:=by have ha2:=rI.1 (show e[i].1=23∨e[i].1=24 by omega);have hsp:=rG (n:=n) (b:=code.length) h (show e[i].1=23∨e[i].1=24 by omega);rw[List.getElem?_eq_getElem (show 0<(bV e (i:Int)).length by omega),List.getElem?_eq_getElem (show 1<(bV e (i:Int)).length by omega),Option.getD_some,Option.getD_some]at hsp;unfold FA at hsp;have hsl:=congrArg List.length hsp;simp only[List.length_append,List.length_cons]at hsl;refine Ks ?_ ?_<;>intro h6;have h6:e[i].1=24:=O3;have hop:(if e[i].1=23 then(52:Int)else 53)=53:=if_neg zo;rw[hop]at hsp;refine Y9 ?_;refine bi _ Z _ Z Z (av bT Sj (.b Z) (.b Z) (show(0:Int)=((0:Nat):Int)from Z) zg) ?_;refine Y1 ?_;refine iT [] [1,7,8] (hIH 0 zo code zo) (.b Z) Z YJ (.cons (.b rfl) (.cons (.b rfl) .nil)) rfl rfl rfl (.free rfl rfl (.free rfl rfl (.free rfl rfl .nil))) ?_;rintro _ rfl;refine Lc ?_;refine zJ (aC eP Z kW (.cons (rt':=(ay .i64)) Z bM (.raw (.b Z) Z) .nil)) (zJ (bP (rt:=aZ) cU bE eP Z (.cons (.tv (.b Z)) .nil) Z Z) (zV [1,7,9] cU bE eP mH Z Z (.tv (.b Z)) ?_));refine zY Z ?_;rw[List.drop_zero,List.take_length];refine Y6 ?_;refine bi _ Z _ Z Z (av bT Sj (.b Z) (.b Z) (show(1:Int)=((1:Nat):Int)from Z) zg) ?_;refine Y1 ?_;refine iT [] [9] (hIH 1 zo _ YO) (.b rfl) rfl YJ (.cons (.b rfl) (.cons (.b rfl) .nil)) rfl rfl rfl (.free rfl rfl .nil) ?_;rintro _ rfl;refine Y9 ?_;refine zJ (bk (j:=(code++(dn e n (bV e (i:Int))[0] code.length)).length) cU bE (.b Z) (.b Z) Z Zf) (zF aV rfl (zC Sj rfl rfl (uQ _ _ _ _ (Nat.zero_add _)) bc (.raw (.b rfl) rfl) (dy ?_)));exact sd results225 (ar Z) Z Yp XI;have h6:¬e[i].1=24:=O3;have hop:(if e[i].1=23 then(52:Int)else 53)=52:=if_pos zo;rw[hop]at hsp;refine Y7 ?_;refine bi _ Z _ Z Z (av bT Sj (.b Z) (.b Z) (show(0:Int)=((0:Nat):Int)from Z) zg) ?_;refine Y1 ?_;refine iT [] [1,7,8] (hIH 0 zo code zo) (.b Z) Z YJ (.cons (.b rfl) (.cons (.b rfl) .nil)) rfl rfl rfl (.free rfl rfl (.free rfl rfl (.free rfl rfl .nil))) ?_;rintro _ rfl;refine Lc ?_;refine zJ (aC eP Z kW (.cons (rt':=(ay .i64)) Z bM (.raw (.b Z) Z) .nil)) (zJ (bP (rt:=aZ) cU bE eP Z (.cons (.tv (.b Z)) .nil) Z Z) (zV [1,7,9] cU bE eP mH Z Z (.tv (.b Z)) ?_));refine zY Z ?_;rw[List.drop_zero,List.take_length];refine zK [0,1,7,9] [100] (aa (zR ?_));refine Y3 ?_;refine bi _ Z _ Z Z (av bT Sj (.b Z) (.b Z) (show(1:Int)=((1:Nat):Int)from Z) zg) ?_;refine Y1 ?_;refine iT [] [9] (hIH 1 zo _ YO) (.b rfl) rfl YJ (.cons (.b rfl) (.cons (.b rfl) .nil)) rfl rfl rfl (.free rfl rfl .nil) ?_;rintro _ rfl;refine Y9 ?_;refine zJ (bk (j:=(code++(dn e n (bV e (i:Int))[0] code.length)).length) cU bE (.b Z) (.b Z) Z Zf) (zF aV rfl (zC Sj rfl rfl (uQ _ _ _ _ (Nat.zero_add _)) bc (.raw (.b rfl) rfl) (dy ?_)));exact sd results225 (ar Z) Z Yp XI):p:=h
def SA(h:p:=by
 obtain⟨hun,oi,hoi,hdeps⟩:=mem_ready.1 hr
 have his:i<listed.size:=ZM
 have hunf:listed.getD i false=false:=abc
 have hli:l[i-lo]?=some oi:=by
  rw[hat (i-lo) So,show lo+(i-lo)=i by omega];exact hoi
 obtain⟨d,s,hcs,hdst,hG⟩:=hga (i-lo) oi hli
 have hwr:∀j c,cs[j]?=some c→j≠i-lo→(c.1∈oi.looksAt ops∨c.1=d)→(listed.getD (lo+j) false=true↔j<i-lo):=by
  intro j c hj hne hc
  obtain⟨oj,hoj,hdj,hjl⟩:=hidx j c hj
  rcases Nat.lt_or_ge j (i-lo)with h|h
  ·have hap:oj.apart ops oi=false:=by
    cases hb:oj.apart ops oi with
    | false=>rfl
    | true=>
     obtain⟨h1,h2,h3⟩:=Oper.apart_spec hb
     rcases hc with hc|hc
     ·exact absurd hc (h1 c.1 hdj)
     exact absurd (by rw[hdst,hc]) (h2 c.1 hdj)
   obtain⟨e,he,hb,hon⟩:=dk.order (lo+j) i oj oi So hoj hoi hap
   have:=hdeps e he hb
   rw[hon]at this
   simp[this,h]
  have hgt:i<lo+j:=So
  have hap:oi.apart ops oj=false:=by
   cases hb:oi.apart ops oj with
   | false=>rfl
   | true=>
    obtain⟨h1,h2,h3⟩:=Oper.apart_spec hb
    rcases hc with hc|hc
    ·exact absurd hc (h3 c.1 hdj)
    exact absurd (by rw[hdj,hc]) (h2 d hdst)
  obtain⟨e,he,hb,hon⟩:=dk.order i (lo+j) oi oj hgt hoi hoj hap
  cases hlj:listed.getD (lo+j) false with
  | false=>simp;omega
  | true=>
   have:=hL.closed (lo+j) oj hoj hlj e he hb
   rw[hon,hunf]at this
   cases this
 have hagr:AgrG ops oi (iy st (cs.take (i-lo)) (fun _=>true)) (iy st cs (fun j=>listed.getD (lo+j) false)):=by
  refine⟨fun t ht=>?_,fun _ _ _ _ _ _=>by rw[eh,eh]⟩
  rw[dK,dK]
  congr 1
  refine p7 fun j c hj he=>?_
  by_cases hne:j=i-lo
  ·subst hne
   rw[show lo+(i-lo)=i by omega,hunf];simp
  exact hwr j c hj hne (.inl (by rw[he];exact ht))
 have hstep:=hG _ hagr a w hi' (Q:=Q)
 have hnext:∀a' w',Inv cx ((iy st cs (fun j=>listed.getD (lo+j) false)).put d s) a' w'→wpAny P .any ops Q (f+g) (listed.setIfInBounds i true) a' w':=by
  intro a' w' hi''
  refine ih _ (hL.set hr hih) aa1 a' w' ?_
  refine Sub.inv ⟨fun t s' hs=>?_,fun t s' hs=>?_⟩ hi''
  ·simp only[St.put,bC]
   rw[dK]at hs
   have hset:∀j,(listed.setIfInBounds i true).getD (lo+j) false=if j=i-lo then true else listed.getD (lo+j) false:=by
    intro j
    by_cases hne:j=i-lo
    ·subst hne
     rw[if_pos rfl,show lo+(i-lo)=i by omega]
     simp[his]
    rw[if_neg hne,getD_set_ne false So]
   by_cases e:d=t
   ·subst e
    rw[if_pos rfl]
    have:=p8 (cs:=cs) (L:=fun j=>(listed.setIfInBounds i true).getD (lo+j) false) (i:=i-lo) (c:=(d,s)) hcs abl (fun j c' hj he hij=>by
     simp only[hset]
     rw[if_neg So]
     have:=hwr j c' hj So (.inr he)
     cases hlj:listed.getD (lo+j) false with
     | false=>rfl
     | true=>have:=this.1 hlj;omega)
    rw[this]at hs
    exact hs
   rw[if_neg e,dK,←hs]
   congr 1
   refine gC fun j c hj he=>?_
   simp only[hset]
   rw[if_neg (by
    rintro rfl
    rw[hcs]at hj
    injection hj with hj
    subst hj
    exact e he)]
  simp only[St.put,eh]at hs⊢;exact hs
 unfold wpOp
 simp only[hoi]
 split
 ·rename_i hw
  rw[if_pos hw]at hstep
  exact .inl (Oper.wp_mono hnext hstep)
 rename_i hw
 rw[if_neg hw]at hstep
 exact hnext _ _ hstep):p:=h
def SB(h:p:=by
 have hjj:bO d.1:=NF;have hgj:=gj hjj;have hk1:1≤s∧Gd c (i+1) (s-1):=by by_cases q:d.1=50;exact⟨(g50 q).1,(g50 q).2.1⟩;have:=g5 aa4;exact⟨this.1,this.2.1⟩
 refine Z5 ?_ ?_<;>intro h10;simp at h10;omega;clear h10;refine ak (aa (ac (zR (zJ (ai (.l1 Z)) (Y4 ?_)))));refine fB [7] [0,7,9] (ia ds ((i:Int)+1) ((s:Int)-1) zo uW (jI hv hk1.2 zo zo uW)) (jJ 0 rfl) rfl rfl (show 0<ds.length by omega) (.cons (.b rfl) (.cons (.b rfl) (.cons (.b rfl) .nil))) rfl rfl rfl rfl (.lnk rfl rfl (.free rfl rfl (.free rfl rfl .nil))) ?_;rintro _ rfl;refine Z9 ?_ ?_<;>intro h13;simp at h13;clear h13;refine wz ?_ ?_<;>intro h15;have h15:d.1=50:=LQ;refine Y7 ?_;have hv1:HV c (ds.set ((i:Int)+1).toNat ((s:Int)-1)):=by rw[show((i:Int)+1).toNat=i+1 by omega,show(s:Int)-1=((s-1:Nat):Int)by omega];exact n7 hv hk1.2 zo
 refine ab (zJ (ai (.l1 Z)) (Y3 ?_));first
 | (have _:=(g50 h15).1;refine fB [] [0] (ia (ds.set ((i:Int)+1).toNat ((s:Int)-1)) d.2 ((s:Int)-1) zo uW (jI hv1 (g50 h15).2.2 zo zo uW)) (jJ 0 rfl) rfl Sp (show 0<ds.length by omega) (.cons (.b rfl) (.cons (.b rfl) (.cons (.b rfl) .nil))) rfl rfl rfl rfl (.lnk rfl rfl .nil) ?_)
 | (have _:=h15;refine fB [] [0] (ia (ds.set ((i:Int)+1).toNat ((s:Int)-1)) d.2 (s:Int) zo uW (jI hv1 (g5 aa4).2.2 zo zo uW)) (jJ 0 rfl) rfl Sp (show 0<ds.length by omega) (.cons (.b rfl) (.cons (.b rfl) (.cons (.b rfl) .nil))) rfl rfl rfl rfl (.lnk rfl rfl .nil) ?_)
 rintro _ rfl;refine Y6 ?_;exact lg (s0:=0) results201 (ar rfl) rfl rfl rfl rfl (show 0<ds.length by omega) Yn;have h15:¬(d.1=50):=LQ;refine Y3 ?_;have hv1:HV c (ds.set ((i:Int)+1).toNat ((s:Int)-1)):=by rw[show((i:Int)+1).toNat=i+1 by omega,show(s:Int)-1=((s-1:Nat):Int)by omega];exact n7 hv hk1.2 zo
 refine ab (zJ (ai (.l1 Z)) (Y3 ?_));first
 | (have _:=(g50 h15).1;refine fB [] [0] (ia (ds.set ((i:Int)+1).toNat ((s:Int)-1)) d.2 ((s:Int)-1) zo uW (jI hv1 (g50 h15).2.2 zo zo uW)) (jJ 0 rfl) rfl Sp (show 0<ds.length by omega) (.cons (.b rfl) (.cons (.b rfl) (.cons (.b rfl) .nil))) rfl rfl rfl rfl (.lnk rfl rfl .nil) ?_)
 | (have _:=h15;refine fB [] [0] (ia (ds.set ((i:Int)+1).toNat ((s:Int)-1)) d.2 (s:Int) zo uW (jI hv1 (g5 aa4).2.2 zo zo uW)) (jJ 0 rfl) rfl Sp (show 0<ds.length by omega) (.cons (.b rfl) (.cons (.b rfl) (.cons (.b rfl) .nil))) rfl rfl rfl rfl (.lnk rfl rfl .nil) ?_)
 rintro _ rfl;refine Y6 ?_;exact lg (s0:=0) results201 (ar rfl) rfl rfl rfl rfl (show 0<ds.length by omega) Yn):p:=h
def SC(h:p:=by
 refine n5 11 mo zk zk (zS (ai (.b Z)) (zS (ai (.b Z)) (zS (cb bT (.b Z)) (zS (ai (.b Z)) (zS (cH (.b Z) (.b Z) zw) (zS (hJ bT Sj (.b Z) Z ⟨_,_,(.b Z),(Int.toNat_of_nonneg zo).symm⟩ zo zo) (zS (ai (.b Z)) (zS (ai (.b Z)) (zS (bk bT Sj (.b Z) (.b Z) Z zh) (zS (ah Sj (.b Z) Z zg (Lens.id _)) (zS (bP (rt:=(ay .i64)) bT Sj z3 Z (.cons (.raw (.b Z) Z) .nil) Z Z) (AS.nil)))))))))))) Z Z (bX [0,5,7,19,20,21] bT Sj z3 Z J7 (.b Z) Z PJ (.tv (.b rfl)) Fj PJ rfl (.cons rfl (.cons rfl (.cons rfl (.cons rfl (.cons rfl (.cons rfl .nil)))))) rfl) (zS (a8 (.b rfl)) (AS.nil)) ?_;refine Z8 ?_ ?_<;>intro h19
 ·try simp at h19
  refine dy ?_;refine b8 (ax (al ?_));exact db results113 (ff Z) (ar Z) (ar Z) ⟨Z,Z,Z⟩ (qV (by rw[←hp,List.drop_eq_getElem_cons zo];rw[iq,if_neg zo,if_neg zo,if_pos (by simp only[List.length_take];omega)]))
 try simp at h19
 refine Y7 ?_;first
 | (exact aE (fun a w hi=>⟨(k+1,stack.take (↑stack.length-aW e[k].1).toNat++[stack[0+(↑stack.length-aW e[k].1).toNat]],starts++[stack[0+(↑stack.length-aW e[k].1).toNat]]),ac5,⟨So,by simp[hs],YD,(pN _ h8 h11 h13 zo _ (by rw[if_pos h16];simp;rw[List.getElem?_eq_getElem zo];rfl)).symm.trans hp⟩,Sub.inv ⟨Ya,(by repeat(first|exact aw|refine ao rfl (by first|rfl|(simp only[Nat.zero_add,List.drop_zero,Nat.sub_zero,xb _ hs h8,scD _ _ hs,xz _ hs])) ?_))⟩ hi⟩))
 | (exact aE (fun a w hi=>⟨(k+1,stack.take (↑stack.length-aW e[k].1).toNat++[(k:Int)],starts++[(k:Int)]),ac5,⟨So,by simp[hs],YD,(pN _ h8 h11 h13 zo _ (by rw[if_neg zo])).symm.trans hp⟩,Sub.inv ⟨Ya,(by repeat(first|exact aw|refine ao rfl (by first|rfl|(simp only[Nat.zero_add,List.drop_zero,Nat.sub_zero,xb _ hs h8,xz _ hs])) ?_))⟩ hi⟩))):p:=h
def SD(h:p:=by
 first
 | (have _t:=hj2;simp only[g23,Bool.not_true,Bool.false_or,beq_iff_eq]at h25;rw[if_neg (fun q=>q.2 h25)]at hcd2;obtain⟨m2,hm2⟩:∃m2,m2=m-1:=⟨_,rfl⟩;have hcj:code[x].2.toNat≤code.length∧(x:Int)<code[x].2∧f7 code env r code[x].2.toNat (xs.take m2):=⟨hcj0,hj2,ZP⟩)
 | (rw[if_neg (fun q=>by rw[h23]at q;exact absurd q.1 cy)]at hcd2;obtain⟨m2,hm2⟩:∃m2,m2=m-1:=⟨_,rfl⟩;have hcn:f7 code env r (x+1) (xs.take m2):=ZP)
 all_goals
  refine Y5 ?_
  refine zJ (hJ eV aM (.b Z) Z ⟨_,_,(.b Z),(show(m:Int)-1=((m-1:Nat):Int)by omega)⟩ zo zo) (zY rfl (aJ ?_))
  first
  | (have _h:=hja;exact aE (fun a w hi=>⟨(code[x].2.toNat,xs,m,sc+1),ZL,⟨hja.1,hm,zo,zo,zo,hja.2.2⟩,Sub.inv ⟨ZH,ZI⟩ hi⟩))
  | (have _h:=hap;exact aE (fun a w hi=>⟨(x+1,(xs.drop 0).take fi++[(cO code[x] ((xs.drop (0+fi)).take (m-fi)) env).1],fi+1,sc+1),Nt,⟨zo,QE,zo,zo,zo,hap⟩,Sub.inv ⟨ZH,ZI⟩ hi⟩))
  | (have _h:=hcj;have _h2:=h23;exact aE (fun a w hi=>⟨(code[x].2.toNat,xs,m2,sc+1),ZL,⟨hcj.1,zo,zo,zo,zo,hcj.2.2⟩,Sub.inv ⟨YE,ZI⟩ hi⟩))
  | (have _h:=hcn;exact aE (fun a w hi=>⟨(x+1,xs,m2,sc+1),Nt,⟨zo,zo,zo,zo,zo,hcn⟩,Sub.inv ⟨YE,ZI⟩ hi⟩))):p:=h
def SE(h:p:=by
 first
 | (exfalso;simp only[g23,Bool.not_false,Bool.true_or]at h25;done)
 | (exfalso;simp[g23]at h25;done)
 | (
  have h50:¬code[x].1=50:=fun q=>by simp[g23,q]at h25
  rw[if_pos ⟨h23,h50⟩]at hcd2;obtain⟨m2,hm2⟩:∃m2,m2=m:=⟨_,rfl⟩;have hcj:code[x].2.toNat≤code.length∧(x:Int)<code[x].2∧f7 code env r code[x].2.toNat (xs.take m2):=⟨hcj0,hj2,by rw[hm2];exact hcd2⟩)
 all_goals
  refine ak (aJ ?_)
  first
  | (have _h:=hja;exact aE (fun a w hi=>⟨(code[x].2.toNat,xs,m,sc+1),ZL,⟨hja.1,hm,zo,zo,zo,hja.2.2⟩,Sub.inv ⟨ZH,ZI⟩ hi⟩))
  | (have _h:=hap;exact aE (fun a w hi=>⟨(x+1,(xs.drop 0).take fi++[(cO code[x] ((xs.drop (0+fi)).take (m-fi)) env).1],fi+1,sc+1),Nt,⟨zo,QE,zo,zo,zo,hap⟩,Sub.inv ⟨ZH,ZI⟩ hi⟩))
  | (have _h:=hcj;have _h2:=h23;exact aE (fun a w hi=>⟨(code[x].2.toNat,xs,m2,sc+1),ZL,⟨hcj.1,zo,zo,zo,zo,hcj.2.2⟩,Sub.inv ⟨YE,ZI⟩ hi⟩))
  | (have _h:=hcn;exact aE (fun a w hi=>⟨(x+1,xs,m2,sc+1),Nt,⟨zo,zo,zo,zo,zo,hcn⟩,Sub.inv ⟨YE,ZI⟩ hi⟩))):p:=h
def SF(h:p:=by first|(have _h9:=hq1;exact aE (fun a w hi=>⟨q+1,zo,zo,Sub.inv ⟨XB,Xy⟩ hi⟩))|(have _h9:=hq3;exact aE (fun a w hi=>⟨q+1,zo,zo,Sub.inv ⟨(by repeat(first|exact au|refine ap rfl (by first|rfl|(refine congrArg (SV.own 70 cw.n 0) ?_;first|(exact List.length_append.symm.trans (congrArg List.length hq3.symm);done)|(exact congrArg List.length hq3.symm;done)|(rw[hq3];done))) ?_)),(by repeat(first|exact aw|refine ao rfl (by first|rfl|(refine congrArg (HB.mk cw) ?_;first|rfl|(rw[hq3];done)|(exact(congrArg (fun z=>z++_) List.take_length).trans hq3.symm;done)|(rw[hq3,List.take_length];done)|(rw[hq3,List.take_length];rfl;done))) ?_))⟩ hi⟩))|(have _h9:=hq0;exact aE (fun a w hi=>⟨q+1,zo,zo,Sub.inv ⟨XA,Xx⟩ hi⟩))):p:=h
def SG(h:p:=by
 exfalso;have hex:∃i,i<ops.size∧listed.getD i false=false∧i<hi:=by
  rcases Classical.em (∃i,i<ops.size∧listed.getD i false=false∧i<hi)with h|h;exact h;exfalso;have:listed=Yw ops.size hi:=oX hL.size fun i his=>by
   by_cases e:i<hi;simp only[e,decide_true];cases hl':listed.getD i false with
   | true=>rfl
   | false=>exact absurd ⟨i,his,hl',e⟩ h
   have hh:=hL.high i So his;rw[fP (by rw[hL.size];exact his)]at hh;simp[e,hh]
  have hcount:∀n m:Nat,m≤n→Nf (Yw n m)≤n-m:=by
   intro n m hm;unfold Nf Yw;rw[Array.toList_map,Array.toList_range,List.countP_map];have:∀n:Nat,(List.range n).countP ((fun b=>!b)∘fun i=>decide (i<m))≤n-m:=by
    intro n;induction n with
    | zero=>simp
    | succ n ih=>rw[List.range_succ,List.countP_append];simp only[List.countP_cons,List.countP_nil,Function.comp];by_cases e:n<m;simp[e];omega;simp[e];omega
   exact this n
  have:=hcount ops.size hi hhi;rw[‹listed=_›]at hu;omega
 obtain⟨n0,⟨h1,h2,h3⟩,hmin⟩:=exists_least hex;have:n0∈Region.ready .any ops listed:=by
  have hs:n0<listed.size:=by rw[hL.size];exact h1
  refine mem_ready.2 ⟨by rw[fP hs];exact h2,ops[n0],Array.getElem?_eq_getElem h1,fun e he hb=>?_⟩;have hlt:=dk.back n0 _ (Array.getElem?_eq_getElem h1) e he hb;cases hl':listed.getD e.on false with
  | true=>rfl
  | false=>have:=hmin e.on ⟨So,hl',So⟩;omega
 rw[hnil]at this;cases this):p:=h
def SH(h:p:=by refine dT (b:=1000) [4,5,6,7,27,28,29] [21,24,25,26] (.cons rfl (.cons rfl (.cons rfl (.cons rfl (.cons rfl (.cons rfl (.cons rfl .nil))))))) Cj (.cons rfl (.cons rfl (.cons rfl (.cons rfl .nil)))) ?_;first|exact aE (fun a w hi=>⟨(k+1,hs,W.set (0+k) (((rw dd (k:Int)).length:Nat):Int),H,A,cap),(by show n-(k+1)<n-k;omega),⟨So,hqn,by rw[Nat.zero_add];exact hk0.next h6 h14,hho⟩,Sub.inv ⟨XS,XJ⟩ hi⟩)|exact aE (fun a w hi=>⟨(k+1,hs,W.set (0+k) (((rw dd (k:Int)).length:Nat):Int),ys,A2,cap2),(by show n-(k+1)<n-k;omega),⟨So,hqn,by rw[Nat.zero_add];exact hk0.push h6 h14 hpq.1,hpq.2⟩,Sub.inv ⟨XS,XJ⟩ hi⟩)):p:=h
def SI(h:p:=by
 refine Y4 ?_;first
 | (have _h:=hja;exact aE (fun a w hi=>⟨(code[x].2.toNat,xs,m,sc+1),ZL,⟨hja.1,hm,zo,zo,zo,hja.2.2⟩,Sub.inv ⟨ZH,ZI⟩ hi⟩))
 | (have _h:=hap;exact aE (fun a w hi=>⟨(x+1,(xs.drop 0).take fi++[(cO code[x] ((xs.drop (0+fi)).take (m-fi)) env).1],fi+1,sc+1),Nt,⟨zo,QE,zo,zo,zo,hap⟩,Sub.inv ⟨ZH,ZI⟩ hi⟩))
 | (have _h:=hcj;have _h2:=h23;exact aE (fun a w hi=>⟨(code[x].2.toNat,xs,m2,sc+1),ZL,⟨hcj.1,zo,zo,zo,zo,hcj.2.2⟩,Sub.inv ⟨YE,ZI⟩ hi⟩))
 | (have _h:=hcn;exact aE (fun a w hi=>⟨(x+1,xs,m2,sc+1),Nt,⟨zo,zo,zo,zo,zo,hcn⟩,Sub.inv ⟨YE,ZI⟩ hi⟩))):p:=h
def SJ(h:p:=by
 have h10:fa f l k=true:=by rw[hka];exact h10
 have ht1:=aet h10;have ht2:=aeu h10;have ht3:=abY h10;rw[ha]at ht2;rw[←q1]at ht3;refine Y7 ?_;refine gV _ Z (bH Sj (.b Z) Z zg (Lens.id _) (.raw (.b Z) Z)) ?_;refine Y6 ?_;refine zJ (bP (rt:=(ay .i64)) bT Sj z3 Z (.cons (.raw (.b Z) Z) .nil) Z Z) (zV [1,7,8,11,15,16,17] bT Sj z3 J7 Z Z (.tv (.b Z)) ?_);refine Y6 ?_;refine zJ (bP (rt:=(ay .i64)) bT Sj z3 Z (.cons (.raw (.b Z) Z) .nil) Z Z) (zV [1,6,8,15,16,17] bT Sj z3 J7 Z Z (.tv (.b Z)) ?_);refine Y8 ?_;first|exact aE (fun a w hi=>⟨k+1,zo,zo,Sub.inv ⟨XC,Xm⟩ hi⟩)):p:=h
def SK(h:p:=by refine dT (b:=1000) [3,13,14,15] [11] (.cons rfl (.cons rfl (.cons rfl (.cons rfl .nil)))) Cj (.cons rfl .nil) ?_;first|exact aE (fun a w hi=>⟨(k+1,hs),zj,(⟨So,by rw[hs0];exact hq⟩),Sub.inv ⟨XR,(by repeat(first|refine ao rfl KG ?_|exact dU Cj (hs0.symm)))⟩ hi⟩)|exact aE (fun a w hi=>⟨(k+1,hs.set x (A2,(gf (scN s) ((Sn s).take k) (x:Int)).length+(QV (scN s) (Sn s)[k]).length,cap2)),zj,(⟨So,by rw[hst];exact hq.set (by rw[yj];exact hxn) Sp⟩),Sub.inv ⟨XP,(by repeat(first|refine ao rfl KG ?_|exact dU Cj (by rw[hst];simp;rw[List.take_of_length_le Sp])))⟩ hi⟩)):p:=h
def SL(h:p:=by obtain⟨x,y,rfl⟩:=qM (l:=l) ZG;refine je (Y7 ?_);refine ca (iM s8 Z Z s9 (.tv (.b Z)) (.tv (.b Z))) (Y2 ?_);refine Nc rfl rfl (fun hg=>av dI aQ (.gd rfl hg) (.b rfl) rfl (getD_some (z:=((0,0):ce)) YS)) (Y2 ?_);refine Nc rfl rfl (fun hg=>an (iJ _) (.cons (.gd rfl hg) .nil) rfl rfl) (Nc rfl rfl (fun hg=>ai (.gd rfl hg)) (bL rfl (jm [] (eJ _ _ _ _ _ rfl rfl rfl rfl rfl (fun hg=>ai (.b rfl))) zk) (bL rfl (jm [] (eJ _ _ _ _ _ rfl rfl rfl rfl rfl (fun hg=>av dI aQ (.gd rfl hg) (.b rfl) rfl (getD_some (z:=((0,0):ce)) YS))) zk) (bL rfl (jm [] (eJ _ _ _ _ _ rfl rfl rfl rfl rfl (fun hg=>be cz cv (.gd rfl hg))) zk) (bL rfl (jm [] (eJ _ _ _ _ _ rfl rfl rfl rfl rfl (fun hg=>aO Sj (.gd rfl hg))) zk) (bL rfl (jm [] (eJ _ _ _ _ _ rfl rfl rfl rfl rfl (fun hg=>cl (.gd rfl hg) (.b rfl))) zk) (Y9 ?_)))))));exact aI results160 (aq aQ rfl rfl rfl (Lens.id bt)) (ar rfl) ⟨rfl,rfl⟩ (fp YN)):p:=h
def SM(h:p:=by obtain⟨x,y,rfl⟩:=qM (l:=l) ZG;refine je (Y9 ?_);refine ca (iM s8 Z Z s9 (.tv (.b Z)) (.tv (.b Z))) (Y2 ?_);refine Nc rfl rfl (fun hg=>av dI aQ (.gd rfl hg) (.b rfl) rfl (getD_some (z:=((0,0):ce)) YS)) (Y2 ?_);refine Nc rfl rfl (fun hg=>an (iJ _) (.cons (.gd rfl hg) .nil) rfl rfl) (Nc rfl rfl (fun hg=>ai (.gd rfl hg)) (bL rfl (jm [] (eJ _ _ _ _ _ rfl rfl rfl rfl rfl (fun hg=>ai (.b rfl))) zk) (bL rfl (jm [] (eJ _ _ _ _ _ rfl rfl rfl rfl rfl (fun hg=>av dI aQ (.gd rfl hg) (.b rfl) rfl (getD_some (z:=((0,0):ce)) YS))) zk) (bL rfl (jm [] (eJ _ _ _ _ _ rfl rfl rfl rfl rfl (fun hg=>be cz cv (.gd rfl hg))) zk) (bL rfl (jm [] (eJ _ _ _ _ _ rfl rfl rfl rfl rfl (fun hg=>aO Sj (.gd rfl hg))) zk) (bL rfl (jm [] (eJ _ _ _ _ _ rfl rfl rfl rfl rfl (fun hg=>cl (.gd rfl hg) (.b rfl))) zk) (Y9 ?_)))))));exact aI results160 (aq aQ rfl rfl rfl (Lens.id bt)) (ar rfl) ⟨rfl,rfl⟩ (fp YN)):p:=h
def SN(h:p:=by
 have hv1:HV c (ds.set ((i:Int)+1).toNat ((s:Int)-1)):=by rw[show((i:Int)+1).toNat=i+1 by omega,show(s:Int)-1=((s-1:Nat):Int)by omega];exact n7 hv hk1.2 zo
 refine ab (zJ (ai (.l1 Z)) (Y3 ?_));first
 | (have _:=(g50 h15).1;refine fB [] [0] (ia (ds.set ((i:Int)+1).toNat ((s:Int)-1)) d.2 ((s:Int)-1) zo uW (jI hv1 (g50 h15).2.2 zo zo uW)) (jJ 0 rfl) rfl Sp (show 0<ds.length by omega) (.cons (.b rfl) (.cons (.b rfl) (.cons (.b rfl) .nil))) rfl rfl rfl rfl (.lnk rfl rfl .nil) ?_)
 | (have _:=h15;refine fB [] [0] (ia (ds.set ((i:Int)+1).toNat ((s:Int)-1)) d.2 (s:Int) zo uW (jI hv1 (g5 aa4).2.2 zo zo uW)) (jJ 0 rfl) rfl Sp (show 0<ds.length by omega) (.cons (.b rfl) (.cons (.b rfl) (.cons (.b rfl) .nil))) rfl rfl rfl rfl (.lnk rfl rfl .nil) ?_)
 rintro _ rfl;refine Y6 ?_;exact lg (s0:=0) results201 (ar rfl) rfl rfl rfl rfl (show 0<ds.length by omega) Yn):p:=h
def SO(h:p:=by first|(have _h9:=hq1;exact aE (fun a w hi=>⟨q+1,zo,zo,Sub.inv ⟨XB,Xy⟩ hi⟩))|(have _h9:=hq0;exact aE (fun a w hi=>⟨q+1,zo,zo,Sub.inv ⟨XA,Xx⟩ hi⟩))):p:=h
def SP(h:p:=by
 try simp at h11
 refine sm ?_ ?_<;>intro h12
 ·try simp at h12
  refine zR (zJ (aC JI Z gu .nil) (Y7 ?_));exact aI results157 (aq aQ rfl rfl rfl (Lens.id bt)) (ar rfl) ⟨rfl,rfl⟩ (cY Xo)
 try simp at h12
 refine dy ?_;exact aI results157 (aq aQ rfl rfl rfl (Lens.id bt)) (ar rfl) ⟨rfl,rfl⟩ (cY Xo)):p:=h
def SQ(h:p:=by refine Y4 ?_;refine zJ (bP (rt:=(ay .i64)) bT Sj z3 Z (.cons (.raw (.b Z) Z) .nil) Z Z) (zV [5,6,10,11,12] bT Sj z3 J7 Z Z (.tv (.b Z)) ?_);refine zY Z ?_;have hA:=kz (p:=Oj) (e:=e) (k:=k) zo aba;have hB:=kz (p:=fH) (e:=e) (k:=k) zo abf;have hC:=vK (p:=pU) (e:=e) (k:=k) zo abg;refine Y7 ?_;exact aE (fun a w hi=>⟨k+1,zo,zo,Sub.inv ⟨Xs,Xn⟩ hi⟩)):p:=h
def SR(h:p:=by refine Y7 ?_;first|exact aE (fun a w hi=>⟨(j+1,W.set u.toNat (wv W u-1),H,A,cap),Zg,⟨So,by rw[htk];exact hj0.step hu0 hun hud hus (by rw[if_neg h25]),hho⟩,Sub.inv ⟨YV,XU⟩ hi⟩)|exact aE (fun a w hi=>⟨(j+1,W.set u.toNat (wv W u-1),ys,A2,cap2),Zg,⟨So,by rw[htk];exact hj0.step hu0 hun hud hus (by rw[if_pos h25];exact hpq.1),hpq.2⟩,Sub.inv ⟨YV,XU⟩ hi⟩)):p:=h
def SS(h:p:=by intro bs hbs a w hi Q;rcases bs with _|⟨b0,_|⟨b1,br⟩⟩;simp at hbs;cases b0;exact cK (fun a w hi=>sh 6 rfl hi) (bX [0,6] fy dh kN rfl BQ (.b rfl) rfl zo (.tv (.b rfl)) Zn J6 rfl (.cons rfl (.cons rfl .nil)) rfl) ⟨Zj,YY⟩ a w hi Q;exact cK (fun a w hi=>sh 6 rfl hi) (bX [0,6,51] fy dh kN rfl BQ (.b rfl) rfl zo (.tv (.b rfl)) Zn J6 rfl (.cons rfl (.cons rfl (.cons rfl .nil))) rfl) ⟨Zj,YY⟩ a w hi Q;simp at hbs):p:=h
def ST(h:p:=by
 rw[←hv];refine Z5 ?_ ?_<;>intro h18;have h18:1000000000<kS (p/den.natAbs) (p%den.natAbs) den.natAbs (ma num den) mode:=by have:=of_decide_eq_true h18;omega
 refine Y8 ?_;exact z2 results275 Z Z (dp (by unfold OU;rw[hp];rw[if_neg M5,if_neg h3,if_neg adh,if_neg h10,if_neg h13,if_pos h18]));have h18:¬1000000000<kS (p/den.natAbs) (p%den.natAbs) den.natAbs (ma num den) mode:=by have:=of_decide_eq_false h18;omega
 refine Z8 ?_ ?_<;>intro h20;have h20:ma num den=true:=h20;refine ab (zM Z (zJ ((jx (.b Z) zw)) (dy ?_)));exact z2 results275 Z Z (dp XT);have h20:ma num den=false:=h20;refine Qh ?_;exact z2 results275 Z Z (dp XT)):p:=h
def SU(h:p:=by
 have h30:(lM l.2.2[i] (bW l l.2.2[i]) c l.2.1).1.1=0:=aaU;have hev:DV l.2.2[i] (bW l l.2.2[i]) c l.2.1=(((lM l.2.2[i] (bW l l.2.2[i]) c l.2.1).2.1,(lM l.2.2[i] (bW l l.2.2[i]) c l.2.1).2.2,qL (bW l l.2.2[i]) c l.2.1 c.2.2.length),(c.1,c.2.1,(lM l.2.2[i] (bW l l.2.2[i]) c l.2.1).2.1,p6 (bW l l.2.2[i]) c l.2.1 c.2.2.length,(bW l l.2.2[i]).2.2.2.1.map (fun f=>f.2),l.2.1),zEr):=by unfold DV;rw[hF];simp only;rw[if_neg (fun q=>q h30)]
 refine Y5 ?_;refine zJ (ah (rt:=gD) iF (.b Z) Z Z gy) (zF uV Z (zO (bH (rt:=cZ) iF (.b Z) Z Z yU (.tv (.b Z))) (zZ (zR (zM Z (zF uU Z (zO (bH (rt:=cZ) kr (.b Z) Z Z yT (.tv (.b Z))) (zZ (zR (zJ (ah (rt:=cZ) iQ (.b Z) Z Z (Lens.id _)) (zJ (aC ii Z nN .nil) (Y5 ?_))))))))))));exact aI results17 (aq iQ Z Z Z (Lens.id cZ)) (aq dJ Z Z Z (Lens.id bh)) ⟨Z,Z⟩ (by rw[hrun,hev,if_neg (fun q=>q h30)];rfl)):p:=h
def SW(h:p:=by
 refine YK (m4 _) ?_;refine Z3 ?_ ?_<;>intro h32
 ·try simp at h32
  refine zR (zJ (aC JI Z gu .nil) (Y7 ?_));exact XL
 try simp at h32
 refine Y8 ?_;refine YK (lW _ _ hl) ?_;refine Ks ?_ ?_<;>intro h35
 ·try simp at h35
  refine zR (zJ (aC JI Z gu .nil) (Y6 ?_));exact XL
 try simp at h35
 refine Qh ?_;exact aI results116 (aq aQ rfl rfl rfl (Lens.id bt)) (ar rfl) ⟨rfl,rfl⟩ (cY K5)):p:=h
def SX(h:p:=by first|(exact aE (fun a w hi=>⟨(k+1,A,B),Z1,⟨So,by rw[←p2,hd,wZ,if_pos h12],So,So⟩,(Sub.inv ⟨Zj,YW⟩ hi)⟩))|(exact aE (fun a w hi=>⟨(k+1,A+(ik (jo (t.2.2.2[k]) c-zz (t.2.2.2[k])) (t.2.2.2[k]).2.2.2).1,B+(ik (jo (t.2.2.2[k]) c-zz (t.2.2.2[k])) (t.2.2.2[k]).2.2.2).2.1),Z1,⟨So,by rw[←p2,hd,wZ,if_neg (by rw[h12];simp),if_neg (by rw[h14];simp)],So,So⟩,(Sub.inv ⟨Zj,YW⟩ hi)⟩))):p:=h
def SY(h:p:=by have hC:=kz (p:=pU) (e:=e) (k:=k) zo abg;refine Y7 ?_;exact aE (fun a w hi=>⟨k+1,zo,zo,Sub.inv ⟨Xs,Xn⟩ hi⟩)):p:=h
def SZ(h:p:=by have h9:¬bO c[k].1:=Qz;refine Y7 ?_;first|(have _hh:=hrn;exact aE (fun a w hi=>⟨(k+1,rs),QB,⟨So,hrl1,hlen,hgd⟩,Sub.inv ⟨ZH,ZI⟩ hi⟩))|exact aE (fun a w hi=>⟨(k+1,M8 rs k c[k]),QB,⟨So,hrl1,(m7 _ _ _).trans hlen,q8 hck hgd⟩,Sub.inv ⟨ZH,Xz⟩ hi⟩)):p:=h
def S0(h:p:=by refine zJ (kJ QT (.b Z) (.b Z)) (zZ ?_);refine Z0 ?_ ?_<;>intro h14;have h14:decide (d.1=17)=decide (b.2.2<a.2.2):=eq_of_beq h14;refine dy ?_;exact aI results242 (aq aM rfl rfl rfl (Lens.id aK)) (ar rfl) ⟨rfl,rfl⟩ (cd XO);have h14:¬(decide (d.1=17)=decide (b.2.2<a.2.2)):=fun q=>beq_eq_false_iff_ne.1 h14 q;refine zb ?_;exact aI results242 (aq aM rfl rfl rfl (Lens.id aK)) (ar rfl) ⟨rfl,rfl⟩ (cd XO)):p:=h
def S1(h:p:=by first|exact aE (fun a w hi=>⟨k+1,zo,zo,Sub.inv ⟨XC,Xm⟩ hi⟩)):p:=h
def S2(h:p:=by first|(have _hh:=hrn;exact aE (fun a w hi=>⟨(k+1,rs),QB,⟨So,hrl1,hlen,hgd⟩,Sub.inv ⟨ZH,ZI⟩ hi⟩))|exact aE (fun a w hi=>⟨(k+1,M8 rs k c[k]),QB,⟨So,hrl1,(m7 _ _ _).trans hlen,q8 hck hgd⟩,Sub.inv ⟨ZH,Xz⟩ hi⟩)):p:=h
def S3(h:p:=by
 refine Ks ?_ ?_<;>intro h17
 ·try simp at h17
  all_goals
   refine zR (zJ (aC JI Z gu .nil) (Y6 ?_))
   exact Xv
 try simp at h17
 all_goals
  refine Qh ?_
  exact aI results158 (aq aQ rfl rfl rfl (Lens.id bt)) (ar rfl) ⟨rfl,rfl⟩ (cY acU)):p:=h
def S4(h:p:=by first|exact aE (fun a w hi=>⟨(seen,xs,off,j+1),ZT,⟨So,hi',hys,hoff,hsame,hmes⟩,zI hi⟩)|exact aE (fun a w hi=>⟨(seen.set e.toNat true,(xs.drop off).take (xs.length-off)++[e],0,j+1),ZT,⟨So,hpush,hpys,Nat.zero_le _,hpcl,hpm⟩,Sub.inv ⟨(by repeat(first|exact au|refine ap rfl (by first|rfl|(simp;done)|assumption|(refine congrArg (SV.own 17 (ay .i64).n 0) ?_;simp;done)) ?_)),(by repeat(first|exact aw|refine ao rfl (by first|rfl|(simp;done)|assumption|(refine congrArg (HB.mk cq) ?_;rw[Nat.zero_add];done)) ?_))⟩ hi⟩)):p:=h
def S5(h:p:=by rw[hst]at hx;rw[if_pos hne]at hx;have hx:=hx.symm;refine zR (zM Z (zM Z (zJ (aC ii Z nN (.cons (rt':=(ay .i64)) Z gx (.raw (.b Z) Z) (.cons (rt':=(ay .i64)) Z lf (.raw (.b Z) Z) (.cons (rt':=(ay .i64)) Z ld (.raw (.b Z) Z) (.cons (rt':=(ay .i64)) Z lc (.raw (.b Z) Z) .nil))))) (Y9 ?_))));refine b8 (ax (al ?_));refine mw (rt:=aK) 23 23 (bQ 23 _) Z Z KH (a6 23 _) (bm 23 _) ?_;rw[List.drop_zero,List.take_of_length_le DO];exact mx (i:=23) results92 (R8 (rt:=ay .i64) Z) (aq dJ Z Z Z (Lens.id bh)) ⟨Z,Z⟩ abb h0 hnb hrow gy rfl rfl GE):p:=h
def S6(h:p:=by first|exact aE (fun a w hi=>⟨(q+1,kv2++[(l.2.2[k].2.2.2.2[q].1,.int .i64 (q:Nat))],es2++[(.int .i64 (q:Nat),(q:Int))]),aa6,⟨by show q+1≤_;omega,by rw[hrn];exact hiq.add _ _ _⟩,Sub.inv ⟨ZH,ZI⟩ hi⟩)|exact aE (fun a w hi=>⟨(q+1,kv2,es2),aa6,⟨by show q+1≤_;omega,by rw[hro];exact hiq⟩,Sub.inv ⟨ZH,ZI⟩ hi⟩)):p:=h
def S7(h:p:=by first|exact aE (fun a w hi=>⟨(k+1,kvs++[(l.2.2[k].1,v9)],es++[(v9,(l.2.2[k],kp l.2.2[k] l.2.2[k].2.2.2.2.length))]),QB,⟨Em,by rw[hsn];exact hix.add _ _ _⟩,Sub.inv ⟨ZH,ZI⟩ hi⟩)|exact aE (fun a w hi=>⟨(k+1,kvs,es),QB,⟨Em,by rw[hso];exact hix⟩,Sub.inv ⟨ZH,ZI⟩ hi⟩)):p:=h
def S8(h:p:=by
 have h4:(0≤r.2.2.1∧r.2.2.1<(s.2.2.2.2.length:Int)):=by by_cases e:0≤r.2.2.1;simp[e]at h4;exact⟨e,h4⟩;simp[e]at h4
 refine Y5 ?_;refine bi _ Z _ Z Z (av fy dh (.b Z) (.b Z) (show r.2.2.1=((r.2.2.1.toNat:Nat):Int)by omega) zg) ?_;refine MY ?_;exact cQ results102 (aq o7 rfl rfl rfl (Lens.id d6)) rfl (congrArg (SV.tv d6) Xw)):p:=h
def S9(h:p:=by refine⟨(Below.refl _ _).toX,hok.x fun _ q=>q.elim,rfl,abG,fun nm hb hh=>KP,fun nm nm' hb hb' hh=>KP,fun nm hb hh=>KP,fun i s hs=>?_⟩;obtain⟨j,rfl,hj⟩:=iH hs;obtain⟨v,h1,h2⟩:=fU hh hj;have hjl:j<vs.length:=(List.getElem?_eq_some_iff.1 h1).1;refine⟨v,by simp only[Nat.zero_add];rw[Array.getElem?_append_left (by simpa using hjl)];simpa using h1,?_⟩;have hps:s.plain=true:=List.all_eq_true.1 hp s (List.mem_of_getElem? hj);exact SV.plain_keep hps (fun b hb=>⟨⟨.inl hb,hok b hb,fun nm x hx=>by simp[aG]at hx⟩,rfl⟩) h2):p:=h
def Ta(h:p:=by obtain⟨x,y,rfl⟩:=qM (l:=l) ZG;refine je (Y9 ?_);refine ca (iM s8 Z Z s9 (.tv (.b Z)) (.tv (.b Z))) (Y2 ?_);refine Nc rfl rfl (fun hg=>av dI aQ (.gd rfl hg) (.b rfl) rfl (getD_some (z:=((0,0):ce)) YS)) (Y2 ?_);refine Nc Z Z (fun hg=>an (iJ _) (.cons (.gd Z hg) .nil) Z Z) (Y8 ?_);exact aI results160 (aq aQ rfl rfl rfl (Lens.id bt)) (ar rfl) ⟨rfl,rfl⟩ (fp YN)):p:=h
def Tb(h:p:=by
 have hcode:(Qm (Yb s (cI (fD d env.1) s.2.2.2.2 s.2.2.2.2.length)[k]) env).2=0:=by rw[hgd]
 have hb:((Qm (Yb s (cI (fD d env.1) s.2.2.2.2 s.2.2.2.2.length)[k]) env).1.2.2==1)=true:=by rw[hgd];rfl
 refine Y5 ?_;refine gV _ Z (bH Gf (.b Z) Z (List.getElem?_eq_getElem zo) (Lens.id _) (.raw (.b Z) Z)) ?_;refine Qh ?_;exact aE (fun a w hi=>⟨k+1,zo,⟨So,Ik h4 hgu hcode⟩,Sub.inv ⟨ZH,X5⟩ hi⟩)):p:=h
def Tc(h:p:=by
 have hrr:lL l a=(6,(ci l (aU l a.2.2.1) l.2.2.length)):=by unfold lL;rw[if_pos];by_cases e:Qj l a<0;exact .inr (.inl e);refine .inr (.inr ?_);rw[hP];have e2:¬dL (fun y:dG=>decide (y.1=a.2.2.2.2.1)) (dz l (aU l a.2.2.1)).2.2.2.1<0:=e;simp[hp]at h9⊢;first|(rcases h9 with h9|h9;exact absurd h9 e;exact h9)|(exact absurd h9 e)
 refine Y7 ?_;exact e7 (B,cB) results144 (ar rfl) trivial yC aaB Yz):p:=h
def Td(h:p:=by
 first|(exfalso;simp at h8;done)|(have h8b:¬((Ng pri oc ((Jt par v par.length).take k)).length=0∨gi pri (Jt par v par.length)[k]=gi pri (gi (Ng pri oc ((Jt par v par.length).take k)) 0)):=(by rw[Bool.or_eq_false_iff]at h8;rintro(q|q)<;>first|exact(beq_eq_false_iff_ne.1 h8.2) q|(have q2:=h8.1;rw[q]at q2;simp at q2));have hs:Ng pri oc ((Jt par v par.length).take (k+1))=(Ng pri oc ((Jt par v par.length).take k)):=(by rw[hbs];unfold OT;rw[if_neg h5,if_neg h6,if_neg h8b]))
 all_goals
  refine Y7 ?_
  exact aE (fun a w hi=>⟨k+1,zj,zo,zW hi⟩)):p:=h
def Te(h:p:=by
 try simp at h6
 refine zR (zJ (aC JI Z gu .nil) (Y6 ?_));exact aI results157 (aq aQ rfl rfl rfl (Lens.id bt)) (ar rfl) ⟨rfl,rfl⟩ (cY Xo)):p:=h
def Tf(h:p:=by
 try simp at h9
 refine zR (zJ (aC JI Z gu .nil) (Y6 ?_));exact aI results157 (aq aQ rfl rfl rfl (Lens.id bt)) (ar rfl) ⟨rfl,rfl⟩ (cY Xo)):p:=h
def Tg(h:p:=by
 intro d;induction d using Nat.strongRecOn with
 | _ d ihd=>
  intro j hd hj;have h1:=hb1 j (List.mem_range.2 hj);obtain⟨j',hj',hj2⟩:=List.any_eq_true.1 h1;simp only[Bool.and_eq_true,decide_eq_true_eq]at hj2;obtain⟨oj,hoj,e,he,hbe,hon⟩:=Region.waitsFor_spec hj2.2;have hle:j'≤i:=by have:=List.mem_range.1 hj';omega
  by_cases hji:j'=i;subst hji;rw[hoj]at hoi;injection hoi with hoi;subst hoi;rw[←hon];exact hdeps e he hbe;have:=ihd (i-j') So j' rfl So;rw[←hon];exact hL.closed j' oj hoj this e he hbe):p:=h
def Th(h:p:=by obtain⟨x,y,rfl⟩:=qM (l:=l) ZG;refine je (ca (aC JI Z gu (.cons (rt':=(ay .i64)) Z cv (.raw (.b Z) Z) .nil)) (Y7 ?_));refine Nc rfl rfl (fun hg=>av dI aQ (.gd rfl hg) (.b rfl) rfl (getD_some (z:=((0,0):ce)) YS)) (dy ?_);exact aI results160 (aq aQ rfl rfl rfl (Lens.id bt)) (ar rfl) ⟨rfl,rfl⟩ (fp YN)):p:=h
def Ti(h:p:=by rw[bA]at hk hk';by_cases e1:k=nm<;>by_cases e2:k'=nm;rw[e1,e2];subst e1;rw[if_neg (Ne.symm e2)]at hk';simp only[if_pos]at hx;simp only[if_neg e2]at hy;have g1:=(hl1 x hx).1;have g2:=(hi.own k' _ hk' y hy).2;omega;subst e2;rw[if_neg (Ne.symm e1)]at hk;simp only[if_pos]at hy;simp only[if_neg e1]at hx;have g1:=(hl1 y hy).1;have g2:=(hi.own k _ hk x hx).2;omega;rw[if_neg (Ne.symm e1)]at hk;rw[if_neg (Ne.symm e2)]at hk';simp only[if_neg e1]at hx;simp only[if_neg e2]at hy;exact hi.sep k k' _ _ hk hk' x y hx hy hxy):p:=h
def Tj(h:p:=by rw[hw,hcw,if_pos rfl];refine Oper.wp_mono (fun a' w' hi'=>hK _ _ (hr a' w' ?_)) (h hcw st (.refl o st) d hd hdn' a w ⟨β,hb⟩ _);obtain⟨β',hb'⟩:=hi';obtain⟨u,h3,h4⟩:=hb'.slots d s (by simp[St.put,bC]);refine⟨β',hb'.below,hb'.old,hb'.defers,hb'.size,hb'.own,hb'.sep,hb'.rows,fun i s' hs'=>?_⟩;simp only[St.put,bC]at hs';split at hs';rename_i e;subst e;injection hs' with hs';subst hs';exact⟨u,h3,fun _=>h4,fun h=>by rw[hcw]at h;cases h⟩;rename_i e;exact hb'.slots i s' (by simp[St.put,bC,e,hs'])):p:=h
def Tk(h:p:=by
 obtain⟨_,i0,hi0,hs⟩:=he;simp only[SV.holds,Yq]at h1;cases hb:β nm with
 | none=>rw[hb]at h1;simp only at h1;omega
 | some y=>obtain⟨b,o⟩:=y;rw[hb]at h1;obtain⟨A,cap,h2,h3,h4,h6⟩:=h1;rcases h6 with h6|⟨h6,_⟩;omega;subst h6;have hb2:(0:Int)≤i∧i<(n:Int):=So;have hj:i.toNat=j:=So;refine⟨.pointer (some ⟨b,o+off*rt.n+j*rt.n,none⟩),by simp[execOp,h0,h2,h5,Instr.indexAt,asIntOf,run_underlying ht,hb2,eM hi0,hs,hj,Addr.add_lit],b,o,hb,?_⟩;simp[Nat.add_mul,Nat.add_assoc]):p:=h
def Tm(h:p:=by exact aE (fun a w hi=>⟨k+1,zj,zo,Sub.inv ⟨(by repeat(first|exact au|refine ap rfl (by first|rfl|(simp;done)|assumption|(refine congrArg (SV.own 70 (ay .i64).n 0) ?_;first|rfl|(rw[hs];simp[Nat.add_assoc];done)|(rw[hs];done))) ?_)),(by repeat(first|exact aw|refine ao rfl (by first|rfl|(simp;done)|assumption|(refine congrArg (HB.mk (ay .i64)) ?_;first|rfl|(rw[hs];(try simp only[List.drop_zero,List.take_length]);first|done|rfl|(simp;done);done)|(rw[hs];done)|(simp[hs];done))) ?_))⟩ hi⟩)):p:=h
def Tn(h:p:=by exact aI results157 (aq aQ rfl rfl rfl (Lens.id bt)) (ar rfl) ⟨rfl,rfl⟩ (cY Xo)):p:=h
def Tp(h:p:=by refine yZ 0 6 Z Z ?_;exact e7 (A2,c2) results144 (ar rfl) trivial yC (by rw[hrr];simp only[List.length_append,List.length_cons,List.length_nil];exact bB rfl (bB (congrArg (fun z=>some (HB.mk cV z)) (by rw[Nat.zero_add];exact hpR hkn)) (bB (congrArg (fun z=>some (HB.mk ct z)) ac2) dZ))) XY):p:=h
def Tq(h:p:=by intro hi' listed hh hL i hr hgt;obtain⟨_,oi,hoi,hdeps⟩:=mem_ready.1 hr;have his:=(Array.getElem?_eq_some_iff.1 hoi).1;have:=hb2 i (List.mem_range.2 his);simp only[hoi,Bool.or_eq_true,decide_eq_true_eq]at this;rcases this with h|h;omega;obtain⟨e,he,hbe⟩:=Array.any_eq_true'.1 h;simp only[Bool.and_eq_true,decide_eq_true_eq]at hbe;have hlt:=dk.back i oi hoi e he hbe.1;have h1:=hdeps e he hbe.1;have h2:=hL.high e.on So So;rw[fP abx,h1]at h2;cases h2):p:=h
def Tr(h:p:=by rw[hh0]at hk;by_cases e1:nm=k;subst e1;rw[if_pos rfl]at hk;injection hk with hk;subst hk;rw[hb];refine⟨fun _=>?_,fun hm=>aak⟩;obtain⟨cur2,e2,g1,g2,g3⟩:=hrow;refine⟨cur2,e2,g1,g2,fun i x hx=>?_⟩;obtain⟨cs,g4,g5⟩:=g3 i x hx;exact⟨cs,rt.keep (fun q hq=>⟨hok2 q hq,rfl⟩) g4,g5⟩;rw[if_neg e1]at hk;exact HB.keep hok (fun x hx=>hbl _ (hi.own k hb' hk x hx).2 (hothers k _ hk (Ne.symm e1) x hx)) (hi.rows k hb' hk)):p:=h
def Ts(h:p:=by rw[hw,hcw,if_pos rfl];refine Oper.wp_mono (fun a' w' hi'=>?_) (h hcw st' hag.agr d hd hdn' a w ⟨β,hb⟩ Q);obtain⟨β',hb'⟩:=hi';obtain⟨u,h3,h4⟩:=hb'.slots d s (by simp[St.put,bC]);refine⟨β',hb'.below,hb'.old,hb'.defers,hb'.size,hb'.own,hb'.sep,hb'.rows,fun i s' hs'=>?_⟩;simp only[St.put,bC]at hs';split at hs';rename_i e;subst e;injection hs' with hs';subst hs';exact⟨u,h3,fun _=>h4,fun h=>LD⟩;rename_i e;exact hb'.slots i s' (by simp[St.put,bC,e,hs'])):p:=h
def Tt(h:p:=by
 refine wz ?_ ?_<;>intro h16
 ·first|(exfalso;simp at h16;done)|skip
  all_goals
   refine Y9 ?_
   refine b8 (ax (al ?_))
   exact cQ results51 (aq hO rfl rfl rfl (Lens.id cm)) rfl (congrArg (SV.tv cm) Yx)
 first|(exfalso;simp at h16;done)|(exfalso;rw[h12]at h16;cases h16;done)|skip
 all_goals
  refine Y7 ?_
  exact aE (fun a w hi=>⟨k+1,zj,(⟨So,n9 hno (by rw[hge,hb];rfl)⟩),(zI hi)⟩)):p:=h
def Tu(h:p:=by refine ac ?_;obtain⟨x,y,rfl⟩:=qM (l:=l) ZG;refine je (Qh ?_);refine Nc rfl rfl (fun hg=>av dI aQ (.gd rfl hg) (.b rfl) rfl (getD_some (z:=((0,0):ce)) YS)) (dy ?_);exact aI results160 (aq aQ rfl rfl rfl (Lens.id bt)) (ar rfl) ⟨rfl,rfl⟩ (fp YN)):p:=h
def Tv(h:p:=by refine Y3 ?_;refine YK (jR _ _) ?_;refine Y3 ?_;refine zG Z Z (fun hg=>an (mz _) (.cons (.gd Z hg) .nil) Z Z) (zG Z Z (fun hg=>ai (.gd Z hg)) ?_);refine dy ?_;exact z1 results236 rfl (rb Xq)):p:=h
def Tw(h:p:=by obtain⟨x,y,rfl⟩:=qM (l:=l) ZG;refine je (Y8 ?_);refine Nc rfl rfl (fun hg=>av dI aQ (.gd rfl hg) (.b rfl) rfl (getD_some (z:=((0,0):ce)) YS)) (dy ?_);exact aI results160 (aq aQ rfl rfl rfl (Lens.id bt)) (ar rfl) ⟨rfl,rfl⟩ (fp YN)):p:=h
def Tx(h:p:=by refine dy ?_;exact aE (fun a w hi=>⟨(j-1,(bK e).1[(t-1).toNat]'zo,(t-1)::suf),ac5,⟨QE,⟨r,by rw[hsv];exact hc4,by simp at hr;omega⟩,So,mdI hj0 (by rw[List.getElem?_eq_getElem zo]) hp⟩,Sub.inv ⟨(by repeat(first|exact au|refine ap rfl (by first|rfl|assumption|exact congrArg (fun z=>Sx z) zo) ?_)),(by repeat(first|exact aw|refine ao rfl (by first|rfl|exact congrArg (HB.mk (ay .i64)) (yrI _ zo)) ?_))⟩ hi⟩)):p:=h
def Tz(h:p:=by
 have h4:¬(0≤r.2.2.1∧r.2.2.1<(s.2.2.2.2.length:Int)):=by rintro⟨e1,e2⟩;simp[e1]at h4;omega
 refine Y9 ?_;exact cQ results102 (aq o7 rfl rfl rfl (Lens.id d6)) rfl (congrArg (SV.tv d6) Xw)):p:=h
def TA(h:p:=by first|(have _hA9:=A9;exact aE (fun a w hi=>⟨(k+1,A9,cap9),QB,Em,Sub.inv ⟨YG,(by repeat(first|exact aw|refine ao rfl (by first|rfl|(refine congrArg (HB.mk bt) ?_;first|rfl|(rw[hs];(try simp only[List.drop_zero,List.take_length]);first|done|rfl|(simp;done);done))|(rw[hsl];rfl)|(rw[hsl];done)) ?_))⟩ hi⟩))):p:=h
def TB(h:p:=by refine Y6 ?_;exact aE (fun a w hi=>⟨(),trivial,Sub.inv ⟨Xr,YW⟩ hi⟩)):p:=h
def TC(h:p:=by refine Y8 ?_;exact aE (fun a w hi=>⟨m+1,zj,zo,Sub.inv ⟨(by repeat(first|exact au|refine ap rfl (by first|rfl|(simp;done)|assumption|exact congrArg (fun z:Int=>Sx z) zo) ?_)),(by repeat(first|exact aw|refine ao rfl (by first|rfl|(simp;done)|assumption|(refine congrArg (HB.mk (ay .i64)) ?_;first|rfl|(exact hs;done)|(exact hs.symm;done)|(rw[Nat.zero_add];exact hs;done)|(rw[Nat.zero_add];exact hs.symm;done))) ?_))⟩ hi⟩)):p:=h
def TE(h:p:=by exact aE (fun a w hi=>⟨k+1,zo,zo,Sub.inv ⟨(by repeat(first|exact au|refine ap rfl (by first|rfl|(refine congrArg (SV.own 70 aZ.n 0) ?_;first|(rw[hs2];simp;done)|(rw[hs2];done))) ?_)),(by repeat(first|exact aw|refine ao rfl (by first|rfl|(refine congrArg (HB.mk (ay .i64)) ?_;first|rfl|(exact hs1;done))|(refine congrArg (HB.mk aZ) ?_;first|rfl|(rw[hs2,List.drop_zero,List.take_length];done)|(rw[hs2];done))) ?_))⟩ hi⟩)):p:=h
def TF(h:p:=by exact aE (fun a w hi=>⟨(),trivial,(Sub.inv ⟨YV,(by repeat(first|exact aw|refine ao rfl (by first|rfl|(simp;done)|(rw[if_pos h3];rfl)|(rw[if_neg h3];rfl)|(exact congrArg (fun z=>HB.mk aK [((DU d env).1,(DU d env).2,z)]) (if_pos h3).symm)|(exact congrArg (fun z=>HB.mk aK [((DU d env).1,(DU d env).2,z)]) (if_neg h3).symm)) ?_))⟩ hi)⟩)):p:=h
def TG(h:p:=by exact aE (fun a w hi=>⟨(),trivial,Sub.inv ⟨Xr,YW⟩ hi⟩)):p:=h
def TH(h:p:=by refine YK (jR _ _) ?_;refine Y3 ?_;refine zG Z Z (fun hg=>an (mz _) (.cons (.gd Z hg) .nil) Z Z) (Y7 ?_);exact z1 results236 rfl (rb Xq)):p:=h
def TI(h:p:=by refine⟨Z,nn+q,os++os2,?_⟩;rw[show Sort.ahead (grow (putRow (Value.int .i64) (Sort.ahead w nn) blk off (zs.mergeSort fun x y=>decide (x≤y)).toArray) os) q=grow (Sort.ahead (putRow (Value.int .i64) (Sort.ahead w nn) blk off (zs.mergeSort fun x y=>decide (x≤y)).toArray) q) os from rfl];rw[putRow_grow _ _ _ _ _ _ (by simpa using hb),grow_grow,putRow_ahead_putRow _ _ _ _ _ _ _ _ (by simp[rF])];rfl):p:=h
def TJ(h:p:=by refine Y7 ?_;refine GP (av dI aQ (.b Z) (.b Z) (show d.2=((d.2.toNat:Nat):Int)by omega) (getD_some (l:=env.2.2.2.2.1) (i:=d.2.toNat) (z:=(0,0)) zo)) (GP (aO aQ (.b rfl)) (GP (an (uB _ _) (.cons (.b rfl) (.cons (.b rfl) .nil)) rfl rfl) (Y6 ?_)));exact z1 results205 rfl (rb X7)):p:=h
def TK(h:p:=by refine Y9 ?_;refine zJ (aC Qg Z eq (.cons (rt':=(ay .i64)) Z bU (.raw (.b Z) Z) (.cons (rt':=(ay .i64)) Z bj (.raw (.b Z) Z) .nil))) (Y7 ?_);exact aI results242 (aq aM rfl rfl rfl (Lens.id aK)) (ar rfl) ⟨rfl,rfl⟩ (cd XO)):p:=h
def TL(h:p:=by refine Y9 ?_;refine gV _ Z (bH Gf (.b Z) Z (List.getElem?_eq_getElem zo) (Lens.id _) (.raw (.b Z) Z)) ?_;refine Y7 ?_;exact aE (fun a w hi=>⟨k+1,zo,⟨So,Ik h4 hgu hcode⟩,Sub.inv ⟨ZH,X5⟩ hi⟩)):p:=h
def TM(h:p:=by obtain⟨x,rfl⟩:=JV (l:=l) ZG;refine je (Y5 ?_);refine ca (an (aaP _ _ _ hn) (.cons (.b Z) (.cons (.b Z) (.cons (.b Z) .nil))) Z Z) (Y9 ?_);exact aI results116 (aq aQ rfl rfl rfl (Lens.id bt)) (ar rfl) ⟨rfl,rfl⟩ (cY K5)):p:=h
def TN(h:p:=by refine Y9 ?_;refine zG Z Z (fun hg=>ai (.gd Z hg)) ?_;refine dy ?_;exact z1 results236 rfl (rb Xq)):p:=h
def TO(h:p:=by refine zJ (aC Qg Z eq (.cons (rt':=(ay .i64)) Z bU (.raw (.b Z) Z) (.cons (rt':=(ay .i64)) Z bj (.raw (.b Z) Z) .nil))) (Y7 ?_);exact aI results242 (aq aM rfl rfl rfl (Lens.id aK)) (ar rfl) ⟨rfl,rfl⟩ (cd XO)):p:=h
def TP(h:p:=by refine ak (aa (zR (zJ (ah (rt:=bl) dj (.b Z) Z Z (Lens.id bl)) (Y5 ?_))));exact aI results99 (aq dj rfl rfl rfl (Lens.id bl)) (ar rfl) ⟨rfl,rfl⟩ (by first|(exfalso;exact h16 E2)|(unfold avR;rw[if_neg h1,if_neg h3,hst];dsimp only;have h18:(eU (ow l (kB l a) (NC l a).2)).1=0:=E2;rw[if_neg (fun q=>q h16),if_neg (fun q=>q h18)];rfl))):p:=h
def TQ(h:p:=by refine ak (aa (zR (zJ (ah (rt:=bl) dj (.b Z) Z Z (Lens.id bl)) (Y5 ?_))));exact aI results99 (aq dj rfl rfl rfl (Lens.id bl)) (ar rfl) ⟨rfl,rfl⟩ (by first|(exfalso;exact h16 E2)|(unfold avR;rw[if_neg h1,if_neg h3,hst];dsimp only;have h18:(eU (ow l (kB l a) (Iv l a).2)).1=0:=E2;rw[if_neg (fun q=>q h16),if_neg (fun q=>q h18)];rfl))):p:=h
def TU(h:p:=by refine ak (aa (zR (zJ (ah (rt:=bl) dj (.b Z) Z Z (Lens.id bl)) (Y5 ?_))));exact aI results99 (aq dj rfl rfl rfl (Lens.id bl)) (ar rfl) ⟨rfl,rfl⟩ (by first|(exfalso;exact h16 E2)|(unfold avR;rw[if_neg h1,if_neg h3,hst];dsimp only;have h18:(eU (j4 l (kA l a) (mK l a).2)).1=0:=E2;rw[if_neg (fun q=>q h16),if_neg (fun q=>q h18)];rfl))):p:=h
def TV(h:p:=by
 cases c0 with
 | true=>
  have h2:v=.bool c:=h2 rfl;subst h2;have:yielded ops a.tmps j=some c:=by simp only[yielded,hj,Option.bind_some,h1]
  simp only[Region.wanted,hg,this];cases c<;>cases want<;>rfl
 | false=>
  have h2:v=undef:=h2' rfl;subst h2;have:yielded ops a.tmps j=none:=by simp only[yielded,hj,Option.bind_some,h1,undef]
  simp only[Region.wanted,hg,this];rfl):p:=h
def TW(h:p:=by obtain⟨x,y,rfl⟩:=qM (l:=l) ZG;refine je (Y9 ?_);refine ca (an (aeo _ _ _) (.cons (.b Z) (.cons (.b Z) (.cons (.b Z) .nil))) Z Z) (Y9 ?_);exact aI results160 (aq aQ rfl rfl rfl (Lens.id bt)) (ar rfl) ⟨rfl,rfl⟩ (fp YN)):p:=h
def TX(h:p:=by refine dy ?_;refine zQ [6] [] (aa (am (ax (al ?_))));exact z1 results236 rfl (rb Xq)):p:=h
def TY(h:p:=by refine⟨.tuple #[(L7 kvs key).getD zv,.bool (L7 kvs key).isSome],by simp[execOp,h2,hyv,Z10 hT hK hz1 h3 h4],(L7 kvs key).getD zv,.bool (L7 kvs key).isSome,rfl,?_,?_⟩;rcases Fy (k:=key) h5 h6 with⟨q1,q2⟩|⟨v,x,q1,q2,q3⟩;rw[q1,q2];exact jz (hz2 _ _);rw[q1,q2];exact jz q3;rcases Fy (k:=key) h5 h6 with⟨q1,q2⟩|⟨v,x,q1,q2,q3⟩<;>rw[q1,q2]<;>rfl):p:=h
def TZ(h:p:=by
 have hnd:(H++out).Nodup:=by rw[List.nodup_append];exact⟨h.nd,h.ok.nd,fun a ha b hb e=>by subst e;exact((h.hp a).1 ha).2.2.1 hb⟩
 have:=hnd.length_le_of_subset (l₂:=(List.range n).map (fun(k:Nat)=>(k:Int))) (fun x hx=>mn.2 (by rcases List.mem_append.1 hx with q|q;exact⟨((h.hp x).1 q).1,((h.hp x).1 q).2.1⟩;exact h.ok.rng x q))
 simpa using this):p:=h
def T0(h:p:=by
 cases hr:Region.ready .any l.toArray (Yw l.toArray.size l.toArray.size)with
 | nil=>rfl
 | cons i r=>
  exfalso;have hmem:i∈Region.ready .any l.toArray (Yw l.toArray.size l.toArray.size):=by rw[hr];simp
  obtain⟨hun,oi,hoi,_⟩:=mem_ready.1 hmem;have:=(Array.getElem?_eq_some_iff.1 hoi).1;rw[dR true this]at hun;simp at hun;simp at this;omega):p:=h
def T4(h:p:=by refine zR (zJ (aC PP Z Cm .nil) (zJ (aC ii Z nN (.cons (rt':=(ay .i64)) Z gx (.raw (.b Z) Z) (.cons (rt':=(ay .i64)) Z lf (.raw (.b Z) Z) (.cons (rt':=(ay .i64)) Z ld (.raw (.b Z) Z) (.cons (rt':=(ay .i64)) Z lc (.raw (.b Z) Z) .nil))))) (Y6 ?_)));exact aI results17 (aq iQ Z Z Z (Lens.id cZ)) (aq dJ Z Z Z (Lens.id bh)) ⟨Z,Z⟩ (by rw[hrun];rfl)):p:=h
def T5(h:p:=by obtain⟨x,rfl⟩:=JV (l:=l) ZG;refine je (ca (aC JI Z gu (.cons (rt':=(ay .i64)) Z cv (.raw (.b Z) Z) .nil)) (zb ?_));exact aI results160 (aq aQ rfl rfl rfl (Lens.id bt)) (ar rfl) ⟨rfl,rfl⟩ (fp YN)):p:=h
def T6(h:p:=by refine YK (jR _ _) ?_;refine Y6 ?_;exact z1 results236 rfl (rb Xq)):p:=h
def T7(h:p:=by
 try simp at h17
 all_goals
  refine zR (zJ (aC JI Z gu .nil) (Y6 ?_))
  exact aI results158 (aq aQ rfl rfl rfl (Lens.id bt)) (ar rfl) ⟨rfl,rfl⟩ (cY acU)):p:=h
def T8(h:p:=by obtain⟨x,y,rfl⟩:=qM (l:=l) ZG;refine je (Y7 ?_);refine ca (iM s8 Z Z s9 (.tv (.b Z)) (.tv (.b Z))) (Y7 ?_);exact aI results160 (aq aQ rfl rfl rfl (Lens.id bt)) (ar rfl) ⟨rfl,rfl⟩ (fp YN)):p:=h
def T9(h:p:=by exact z1 results142 rfl (ri (by unfold nf;rw[hgr,if_neg Gp,if_neg JM,if_neg h13,if_neg h15,if_neg h17,if_neg h19,if_neg h21,if_neg aci,if_neg (by first|exact fun q=>h27 q.2|exact fun q=>h25 q.1)];first|rfl|(rw[List.getElem?_eq_getElem (l:=s.2.2.2.1) (i:=s.2.2.2.2[k].2.1.toNat) zo];rfl)))):p:=h
def Ua(h:p:=by refine Y5 ?_;refine zJ (aC Qg Z eq (.cons (rt':=(ay .i64)) Z bU (.raw (.b Z) Z) (.cons (rt':=(ay .i64)) Z bj (.raw (.b Z) Z) .nil))) (Y7 ?_);exact aI results206 (aq aM rfl rfl rfl (Lens.id aK)) (ar rfl) ⟨rfl,rfl⟩ (cd acV)):p:=h
def Ub(h:p:=by refine Qh ?_;exact z1 results74 rfl (rb Xp)):p:=h
def Uc(h:p:=by rcases hq.1.1 with z|z|z;exact(hok q z).1;refine⟨.inr (.inl (Nat.le_trans hi.below.size z)),hq.1.2,fun k hb' hk x hx e1=>?_⟩;rw[hh0]at hk;have z:w.heap.size≤q:=z;split at hk;rename_i e2;subst e2;rw[hb]at hx;injection hx with hx;subst hx;exact hq.2 e1.symm;have:=(hi.own k hb' hk x hx).2;omega;exact absurd z hq.2):p:=h
def Ud(h:p:=by refine b8 (ax (al ?_));refine mw (rt:=aK) 23 23 (bQ 23 _) Z Z KH (a6 23 _) (bm 23 _) ?_;rw[List.drop_zero,List.take_of_length_le DO];exact mx (i:=23) results92 (R8 (rt:=ay .i64) Z) (aq dJ Z Z Z (Lens.id bh)) ⟨Z,Z⟩ abb h0 hnb hrow gy rfl rfl GE):p:=h
def Ue(h:p:=by refine Qy ?_;exact z1 results236 rfl (rb Xq)):p:=h
def Uf(h:p:=by refine pA ?_;exact z1 results236 rfl (rb Xq)):p:=h
def Ug(h:p:=by refine Y6 ?_;exact aE (fun a w hi=>⟨(),trivial,Sub.inv ⟨XM,YW⟩ hi⟩)):p:=h
def Uh(h:p:=by
 have g:=h;try simp at h
 refine ak (aa ?_);refine bR Z g (ac ?_);refine Y7 ?_;exact z1 results114 rfl (rb XH)):p:=h
def Ui(h:p:=by
 intro listed hL hu a w hi';have he:=xX hL rfl hhi So;subst he;rw[Nat.zero_add];refine hK a w ?_;refine Sub.inv ⟨fun i s hs=>?_,fun i s hs=>?_⟩ hi';rw[dK]at hs⊢;rw[←hs];congr 1;exact gC fun j c hj _=>by obtain⟨_,_,_,hjl⟩:=hidx j c hj;rw[dR false So];simp;omega
 rw[eh]at hs⊢;exact hs):p:=h
def Uj(h:p:=by refine zJ (aC Qg Z eq (.cons (rt':=(ay .i64)) Z bU (.raw (.b Z) Z) (.cons (rt':=(ay .i64)) Z bj (.raw (.b Z) Z) .nil))) (Y7 ?_);exact aI results206 (aq aM rfl rfl rfl (Lens.id aK)) (ar rfl) ⟨rfl,rfl⟩ (cd acV)):p:=h
def Uk(h:p:=by exact z1 results74 rfl (rb Xp)):p:=h
def Ul(h:p:=by exact z1 results236 rfl (rb Xq)):p:=h
def Um(h:p:=by refine Qy ?_;exact z1 results202 rfl (rb Xu)):p:=h
def Un(h:p:=by refine Ki ?_;exact z1 results203 rfl (rb Xt)):p:=h
def Uo(h:p:=by refine E0 ?_;exact z1 results203 rfl (rb Xt)):p:=h
def Up(h:p:=by refine zR (zJ (aC Ol Z tC .nil) (Y7 ?_));exact aI results99 (aq dj rfl rfl rfl (Lens.id bl)) (ar rfl) ⟨rfl,rfl⟩ (by unfold avR;rw[if_neg h1,if_neg h3,hst];dsimp only;first|(rw[if_pos h16];rfl)|(have h18:(eU (ow l (kB l a) (NC l a).2)).1≠0:=E2;rw[if_neg (fun q=>q h16),if_pos h18];rfl))):p:=h
def Uq(h:p:=by refine zR (zJ (aC Ol Z tC .nil) (Y7 ?_));exact aI results99 (aq dj rfl rfl rfl (Lens.id bl)) (ar rfl) ⟨rfl,rfl⟩ (by unfold avR;rw[if_neg h1,if_neg h3,hst];dsimp only;first|(rw[if_pos h16];rfl)|(have h18:(eU (ow l (kB l a) (Iv l a).2)).1≠0:=E2;rw[if_neg (fun q=>q h16),if_pos h18];rfl))):p:=h
def Ur(h:p:=by rintro b' ⟨h1,h2,h3⟩;have hne:b'≠b:=fun e1=>h3 nm _ hn _ hb e1.symm;refine⟨⟨h1,Nat.lt_of_lt_of_le h2 hg.size,fun k hb' hk x hx=>?_⟩,hbl b' h2 hne⟩;rw[hh0]at hk;by_cases e1:nm=k;subst e1;rw[hb]at hx;injection hx with hx;subst hx;exact fun e2=>hne e2.symm;rw[if_neg e1]at hk;exact h3 k hb' hk x hx):p:=h
def Us(h:p:=by
 try simp at h17
 all_goals
  refine Qh ?_
  exact aI results158 (aq aQ rfl rfl rfl (Lens.id bt)) (ar rfl) ⟨rfl,rfl⟩ (cY acU)):p:=h
def Ut(h:p:=by refine zR (zJ (aC Ol Z tC .nil) (Y7 ?_));exact aI results99 (aq dj rfl rfl rfl (Lens.id bl)) (ar rfl) ⟨rfl,rfl⟩ (by unfold avR;rw[if_neg h1,if_neg h3,hst];dsimp only;first|(rw[if_pos h16];rfl)|(have h18:(eU (j4 l (kA l a) (lL l a).2)).1≠0:=E2;rw[if_neg (fun q=>q h16),if_pos h18];rfl))):p:=h
def Uu(h:p:=by refine zR (zJ (aC Ol Z tC .nil) (Y7 ?_));exact aI results99 (aq dj rfl rfl rfl (Lens.id bl)) (ar rfl) ⟨rfl,rfl⟩ (by unfold avR;rw[if_neg h1,if_neg h3,hst];dsimp only;first|(rw[if_pos h16];rfl)|(have h18:(eU (j4 l (kA l a) (mK l a).2)).1≠0:=E2;rw[if_neg (fun q=>q h16),if_pos h18];rfl))):p:=h
def Uv(h:p:=by refine⟨⟨by have:=h.e1.1;omega,fun e he=>by have:=(h.e1.2 e he).2.1;omega⟩,⟨by have:=h.t1;omega,fun t ht=>by have:=(h.t2 t ht).2.1;omega⟩,by have:=h.s1;omega,fun s hs=>?_⟩;obtain⟨⟨b1,b2,b3,b4⟩,_⟩:=h.s2 s hs;refine⟨So,So,So,fun r hr=>?_⟩;have:=Hp (kO hv hs) r hr;omega):p:=h
def Uw(h:p:=by refine Qh ?_;exact aE (fun a w hi=>⟨k+1,zo,zo,Sub.inv ⟨(by repeat(first|exact au|refine ap rfl (by first|rfl|(refine congrArg (SV.own 70 cw.n 0) ?_;first|(rw[hsk];done))) ?_)),(by repeat(first|exact aw|refine ao rfl (by first|rfl|(refine congrArg (HB.mk cw) ?_;first|rfl|(rw[hsk];done))) ?_))⟩ hi⟩)):p:=h
def Ux(h:p:=by refine Y4 ?_;refine YK (rS _ _ _ ha hb) ?_;refine Y9 ?_;exact aI results242 (aq aM rfl rfl rfl (Lens.id aK)) (ar rfl) ⟨rfl,rfl⟩ (cd XO)):p:=h
def Uy(h:p:=by
 first|(exact absurd (of_decide_eq_true h10) h2)|skip
 all_goals
  refine zR (zM Z (zJ (eW ⟨_,jZ⟩ MV (.b Z) zw) (zJ (jx (.b Z) zw) (zM Z (zJ (eW ⟨_,jZ⟩ MV (.b Z) zw) (zJ (jx (.b Z) zw) (Y7 ?_)))))))
  exact db results254 (ar Z) (ar Z) (ar Z) ⟨Z,Z,Z⟩ (md (by unfold ik;rw[if_neg zo,if_pos h2]))):p:=h
def Uz(h:p:=by obtain⟨j,rfl,hj⟩:=iH hs;obtain⟨v,h1,h2⟩:=fU hh hj;have hjl:j<vs.length:=(List.getElem?_eq_some_iff.1 h1).1;have hps':s.plain=true:=List.all_eq_true.1 hp s (List.mem_of_getElem? hj);exact⟨v,Zb,SV.plain_keep hps' hkk h2⟩):p:=h
def UA(h:p:=by rw[hh0]at hk hk';by_cases e1:nm=k<;>by_cases e2:nm=k';rw[←e1,←e2];subst e1;rw[if_neg e2]at hk';exact hi.sep _ k' _ _ hn hk' x y hx hy hxy;subst e2;rw[if_neg e1]at hk;exact hi.sep k _ _ _ hk hn x y hx hy hxy;rw[if_neg e1]at hk;rw[if_neg e2]at hk';exact hi.sep k k' _ _ hk hk' x y hx hy hxy):p:=h
def UB(h:p:=by exact aI results99 (aq dj rfl rfl rfl (Lens.id bl)) (ar rfl) ⟨rfl,rfl⟩ (by first|(exfalso;exact h16 E2)|(unfold avR;rw[if_neg h1,if_neg h3,hst];dsimp only;have h18:(eU (j4 l (kA l a) (lL l a).2)).1=0:=E2;rw[if_neg (fun q=>q h16),if_neg (fun q=>q h18)];rfl))):p:=h
def UC(h:p:=by exact z1 results202 rfl (rb Xu)):p:=h
def UD(h:p:=by exact z1 results203 rfl (rb Xt)):p:=h
def UE(h:p:=by exact z1 results234 rfl (rb (by unfold Bl;(repeat' first|rw[if_pos zo]|rw[if_neg zo]);all_goals first|rfl|(rw[Bool.eq_iff_iff];simp;done)|(rw[Bool.eq_iff_iff];simp;omega)|(simp only[GD];rw[Bool.eq_iff_iff];simp only[Bool.and_eq_true,decide_eq_true_eq,bne_iff_ne,ge_iff_le,ne_eq,and_assoc];done)))):p:=h
def UF(h:p:=by exact z1 results235 rfl (rb (by unfold Je;(repeat' first|rw[if_pos zo]|rw[if_neg zo]);all_goals first|rfl|(rw[Bool.eq_iff_iff];simp;done)|(rw[Bool.eq_iff_iff];simp;omega)|(simp only[GD];rw[Bool.eq_iff_iff];simp only[Bool.and_eq_true,decide_eq_true_eq,bne_iff_ne,ge_iff_le,ne_eq,and_assoc];done)))):p:=h
def UG(h:p:=by refine Qh ?_;refine YK (nw _) ?_;refine Y7 ?_;exact aI results242 (aq aM rfl rfl rfl (Lens.id aK)) (ar rfl) ⟨rfl,rfl⟩ (cd XO)):p:=h
def UH(h:p:=by refine Y7 ?_;refine YK (nw _) ?_;refine Y7 ?_;exact aI results242 (aq aM rfl rfl rfl (Lens.id aK)) (ar rfl) ⟨rfl,rfl⟩ (cd XO)):p:=h
def UI(h:p:=by refine zQ [6,7] [6] (aa (am (ax (al ?_))));exact aI results242 (aq aM rfl rfl rfl (Lens.id aK)) (ar rfl) ⟨rfl,rfl⟩ (cd XO)):p:=h
def UJ(h:p:=by exact aE (fun a w hi=>⟨j+1,zj,zo,Sub.inv ⟨(by repeat(first|exact au|refine ap rfl (by first|rfl|(simp;done)|assumption|exact congrArg (fun z:Int=>Sx z) (by rw[hs];first|done|rfl|omega)) ?_)),YW⟩ hi⟩)):p:=h
def UK(h:p:=by
 have h4:(fun y=>decide (x=y)) xs[k]=false:=Yo;have hno1:∀i,(h:i<xs.length)→i<k+1→(fun y=>decide (x=y)) xs[i]=false:=fun i hi g=>by by_cases e:i=k;subst e;exact h4;exact hno i hi zo
 refine Y7 ?_;exact aE (fun a w hi=>⟨k+1,zj,(⟨So,hno1⟩),(zI hi)⟩)):p:=h
def UL(h:p:=by obtain⟨u,h1,h2⟩:=hi.slots i s hs;have hfree:=gQ hf hs;refine⟨u,h1,SV.keep hok (fun k hk=>?_) h2⟩;have hne:k≠nm:=aaK;refine⟨by simp[hne],fun b o hbo cur e' fr hcur=>⟨cur,e',fr,?_,rfl⟩⟩;rw[hb.block b (InvB.cell_lt hcur)];exact hcur):p:=h
def UM(h:p:=by
 have hne:¬i=j:=fun e=>abq;obtain⟨_,_,_,h2⟩:=hb.slots i _ hi;have hb1:=hb.turnS (s':=s) hi (fun v hv=>hv.1);have hj1:bg ((i,s)::st.slots) j=some s2:=by rw[bC,if_neg hne];exact hj
 exact h a w ⟨β,hb1.turnS (s':=.lnk s2 u t) hj1 (fun v hv=>⟨hv,h2⟩)⟩):p:=h
def UN(h:p:=by
 intro n mm;unfold Nf Yw;rw[Array.toList_map,Array.toList_range,List.countP_map];induction n with
 | zero=>simp
 | succ n ih=>rw[List.range_succ,List.countP_append,ih];simp only[List.countP_cons,List.countP_nil,Function.comp];by_cases e:n<mm;simp[e];omega;simp[e];omega):p:=h
def UO(h:p:=by
 have h4:¬xs[k].1=name:=Yo;have hno1:∀i,(h:i<xs.length)→i<k+1→(fun y=>decide (y.1=name)) xs[i]=false:=fun i h g=>by by_cases e:i=k;subst e;simpa using h4;exact hno i h zo
 refine Y7 ?_;exact aE (fun a w hi=>⟨k+1,zj,(⟨So,hno1⟩),(zI hi)⟩)):p:=h
def UP(h:p:=by intro j c hj;have hjl:j<l.length:=ZZ;obtain⟨d,s,h1,h2,_⟩:=hga j l[j] (List.getElem?_eq_getElem hjl);rw[hj]at h1;injection h1 with h1;subst h1;exact⟨l[j],by rw[←hat j hjl];exact List.getElem?_eq_getElem hjl,h2,hjl⟩):p:=h
def UQ(h:p:=by intro q' hq' hh y hy e1;rw[bA]at hh;split at hh;rename_i e2;subst e2;rw[hβ]at hy;injection hy with hy;subst hy;exact hq.2 e1.symm;rcases hq.1.1 with z|z|z;exact z.2.2 q' hq' hh y hy e1;have:=(hi.own q' hq' hh y hy).2;have z:w.heap.size≤q:=z;omega;exact hq.2 z):p:=h
def UR(h:p:=by exact aI results158 (aq aQ rfl rfl rfl (Lens.id bt)) (ar rfl) ⟨rfl,rfl⟩ (cY acU)):p:=h
def US(h:p:=by rintro b ⟨h1,h2,h3⟩;refine⟨⟨h1,Nat.lt_of_lt_of_le h2 hb.size,fun k hb' hk x hx=>?_⟩,hb.block b h2⟩;rw[bA]at hk;by_cases e1:k=nm;subst e1;simp at hx;have:=(hl1 x hx).1;omega;rw[if_neg (Ne.symm e1)]at hk;simp only[if_neg e1]at hx;exact h3 k hb' hk x hx):p:=h
def UT(h:p:=by exact aI results154 (aq aQ rfl rfl rfl (Lens.id bt)) (ar rfl) ⟨rfl,rfl⟩ (cY (by subst_vars;first|rfl|(simp[fS];done)|(simp[fS, *];done)|(unfold fS;(repeat' split)<;>first|rfl|omega|(simp_all;done)|(simp_all;omega)|(simp_all [bD];done)|(simp_all [bD];omega))))):p:=h
def UU(h:p:=by exact aI results209 (aq aQ rfl rfl rfl (Lens.id bt)) (ar rfl) ⟨rfl,rfl⟩ (fp (by subst_vars;first|rfl|(simp[ei];done)|(simp[ei, *];done)|(unfold ei;(repeat' split)<;>first|rfl|omega|(simp_all;done)|(simp_all;omega)|(simp_all [bD];done)|(simp_all [bD];omega))))):p:=h
def UV(h:p:=by refine Y3 ?_;refine YK (us _ _ hT.1 hm) ?_;refine Y9 ?_;exact aI results206 (aq aM rfl rfl rfl (Lens.id aK)) (ar rfl) ⟨rfl,rfl⟩ (cd X6)):p:=h
def UW(h:p:=by
 first|(exfalso;simp at h16;done)|skip
 all_goals
  refine Y9 ?_
  refine b8 (ax (al ?_))
  exact cQ results51 (aq hO rfl rfl rfl (Lens.id cm)) rfl (congrArg (SV.tv cm) Yx)):p:=h
def UX(h:p:=by refine Qh ?_;exact z1 results74 rfl (rb XG)):p:=h
def UY(h:p:=by
 cases lo with
 | none=>simp at hlo;simp[hlo]
 | some y=>obtain⟨k,i,hy,hil⟩:=hlo;have h5:=hiv.raw (hag.ev (by cases hi<;>simp[Op.operands]) hy);have hb:0≤i∧i≤(m:Int):=So;have hn:i.toNat=l:=So;simp[h5,Instr.sliceBound,asIntOf,hb,hn]):p:=h
def UZ(h:p:=by rw[bA]at hk;by_cases e1:k=nm;subst e1;rw[if_pos rfl]at hk;injection hk with hk;subst hk;simp only[if_pos];exact hl2;rw[if_neg (Ne.symm e1)]at hk;simp only[if_neg e1];exact HB.keep hok (fun x hx=>hb.block _ (hi.own k hb' hk x hx).2) (hi.rows k hb' hk)):p:=h
def U0(h:p:=by first|(have _hh:=h16n;exact aE (fun a w hi=>⟨(k+1,ds,gr),QB,⟨So,hlen,hv,hy1⟩,zI hi⟩))|exact aE (fun a w hi=>⟨(k+1,tt ds k c[k] s,if gr<s then(s:Int)else gr),QB,⟨So,hvs⟩,zI hi⟩)):p:=h
def U1(h:p:=by
 have:=fK hi hn' e3 So hok (fun b o hbo=>by have:=hi.own nm _ hn' _ hbo;exact⟨.inr this.1,this.2,fun k h hk x hx e1=>by have:k=nm:=hi.sep k nm _ _ (hsub _ _ hk) hn' x (b,o) hx hbo e1;subst this;rw[hno]at hk;cases hk⟩)
 simpa using this):p:=h
def U2(h:p:=by exact aI results242 (aq aM rfl rfl rfl (Lens.id aK)) (ar rfl) ⟨rfl,rfl⟩ (cd XO)):p:=h
def U3(h:p:=by refine zJ (mQ (.b Z) (.b Z)) (zY Z (aa (am ?_)));first|(exact z1 results260 rfl (ri (by unfold FE;rw[if_neg h1,if_pos h7];first|rfl|(split<;>omega))))|(exact z1 results260 rfl (ri (by unfold FE;rw[if_neg h1,if_neg h7];first|rfl|(split<;>omega))))):p:=h
def U4(h:p:=by
 have h4:f xs[k]=false:=Yo;have hno1:∀i,(h:i<xs.length)→i<k+1→f xs[i]=false:=fun i hi g=>by by_cases e:i=k;subst e;exact h4;exact hno i hi zo
 refine Y7 ?_;exact aE (fun a w hi=>⟨k+1,zj,(⟨So,hno1⟩),(zI hi)⟩)):p:=h
def U5(h:p:=by exact z1 results114 rfl (rb XH)):p:=h
def U6(h:p:=by exact z1 results74 rfl (rb XG)):p:=h
def U7(h:p:=by
 try simp at h35
 refine zR (zJ (aC JI Z gu .nil) (Y6 ?_));exact aI results116 (aq aQ rfl rfl rfl (Lens.id bt)) (ar rfl) ⟨rfl,rfl⟩ (cY K5)):p:=h
def U8(h:p:=by refine Y4 ?_;refine zQ [6,7] [6] (aa (am (ax (al ?_))));exact aI results116 (aq aQ rfl rfl rfl (Lens.id bt)) (ar rfl) ⟨rfl,rfl⟩ (cY K5)):p:=h
def U9(h:p:=by refine bq (pp Z (bd (bp ?_)));exact aE (fun a w hi=>⟨(),trivial,Sub.inv ⟨Zk,YW⟩ hi⟩)):p:=h
def Va(h:p:=by rw[zH l 0 (0+1)];by_cases q:(dF (gw date key) l (0+1)).2=true;rw[if_pos q,if_pos q];obtain⟨j,h1,h2⟩:=sq l (0+1) q;rw[h1,h2];rw[show(((0+1+j:Nat):Int)).toNat=j+1 by omega,show((j:Nat):Int).toNat=j by omega];rfl;rw[if_neg q,if_neg q]):p:=h
def Vb(h:p:=by refine Y7 ?_;exact e7 (B,cB) results145 (ar rfl) trivial yC aaB Yz):p:=h
def Vc(h:p:=by refine Y5 ?_;refine YK (aem _ _ _) ?_;refine Y9 ?_;exact aI results116 (aq aQ rfl rfl rfl (Lens.id bt)) (ar rfl) ⟨rfl,rfl⟩ (cY K5)):p:=h
def Vd(h:p:=by refine Y3 ?_;refine YK (j8 _ _) ?_;refine Y9 ?_;exact aI results116 (aq aQ rfl rfl rfl (Lens.id bt)) (ar rfl) ⟨rfl,rfl⟩ (cY K5)):p:=h
def Ve(h:p:=by rw[hme];first|exact e7 (A1,c1,A2,c2) results43 (ar rfl) trivial rfl (bB rfl (bB rfl (bB rfl dZ))) abo|exact e7 (A1,c1,none,0) results43 (ar rfl) trivial rfl (bB rfl (bB rfl (bB rfl dZ))) abo):p:=h
def Vf(h:p:=by refine Ki ?_;exact aI results258 (aq aM rfl rfl rfl (Lens.id aK)) (ar rfl) ⟨rfl,rfl⟩ (cd XW)):p:=h
def Vg(h:p:=by refine Y9 ?_;exact z2 results75 rfl rfl (fw XK)):p:=h
def Vh(h:p:=by exact e7 (B,cB) results147 (ar rfl) trivial yC aaB Yz):p:=h
def Vi(h:p:=by
 have g:=h;try simp at h
 refine ak (aa ?_);refine bR Z g (ac ?_);refine Y7 ?_;first|(subst_vars;exact z1 results115 rfl (ri cy))|exact z1 results115 rfl (ri ZO)):p:=h
def Vj(h:p:=by refine Y4 ?_;exact aE (fun a w hi=>⟨(),trivial,Sub.inv ⟨Zk,YW⟩ hi⟩)):p:=h
def Vk(h:p:=by unfold lL;rw[if_neg];rintro(q|q|⟨q,q2⟩);exact h2 q;have q:dL (fun y:dG=>decide (y.1=a.2.2.2.2.1)) (dz l (aU l a.2.2.1)).2.2.2.1<0:=q;have h9:=h9;simp[M7,q]at h9;rw[hP]at q2;simp[hp,q2]at h9;try exact absurd hp q):p:=h
def Vl(h:p:=by rw[hh0]at hk;by_cases e1:nm=k;subst e1;have:=hi.own nm _ hn x hx;exact⟨this.1,Nat.lt_of_lt_of_le this.2 hg.size⟩;rw[if_neg e1]at hk;have:=hi.own k hb' hk x hx;exact⟨this.1,Nat.lt_of_lt_of_le this.2 hg.size⟩):p:=h
def Vm(h:p:=by refine Y9 ?_;exact z1 results292 rfl (rb XN)):p:=h
def Vn(h:p:=by have h:=h B cB;rw[e1]at h;exact EJ ⟨YV,YW⟩ h):p:=h
def Vo(h:p:=by refine Y8 ?_;exact z2 results289 Z Z (dp (by unfold MH;rw[if_neg Kz,if_neg h3,if_neg (by simp[h5]),if_pos (show 1000000000000000<Pw c num den mode from Nat.lt_of_lt_of_le k8 (rT _ _ _ _ _).2)]))):p:=h
def Vp(h:p:=by by_cases hij:i=j;subst hij;have:oj=oi:=Option.some.inj (hj.symm.trans hoi);subst this;exact getD_set_true (hall e he hb);rw[getD_set_ne false hij]at hl;exact getD_set_true (h.closed j oj hj hl e he hb)):p:=h
def Vq(h:p:=by exact aI results206 (aq aM rfl rfl rfl (Lens.id aK)) (ar rfl) ⟨rfl,rfl⟩ (cd X6)):p:=h
def Vr(h:p:=by exact z1 results292 rfl (rb XN)):p:=h
def Vs(h:p:=by exact cQ results241 (aq aM rfl rfl rfl (Lens.id aK)) rfl (congrArg (SV.tv aK) (by unfold unV;(repeat' first|rw[if_pos zo]|rw[if_neg zo]);all_goals first|rfl|(congr 1;rw[Bool.eq_iff_iff];simp;done)))):p:=h
def Vt(h:p:=by refine Y9 ?_;exact aI results116 (aq aQ rfl rfl rfl (Lens.id bt)) (ar rfl) ⟨rfl,rfl⟩ (cY K5)):p:=h
def Vu(h:p:=by by_cases e1:k=nm;subst e1;simp at hx;have:=hl1 x hx;exact⟨.inl (Nat.le_trans hi.below.size this.1),this.2⟩;rw[bA,if_neg (Ne.symm e1)]at hk;simp only[if_neg e1]at hx;exact hl.own k hb' hk x hx):p:=h
def Vv(h:p:=by refine Y4 ?_;refine YK (wc e e[i] (bV e (i:Int)) env (ze e env n) hl1.1 hl1.2 hIH) ?_;refine Y9 ?_;exact aI results122 (aq aM Z Z Z (Lens.id aK)) (ar Z) ⟨Z,Z⟩ (cd (by rw[hev0,if_pos h6]))):p:=h
def Vw(h:p:=by
 have k8:1000000000000000<(len.natAbs*n.natAbs)/1000000:=by have:=of_decide_eq_true h8;omega
 refine Y9 ?_;exact db results254 (ar Z) (ar Z) (ar Z) ⟨Z,Z,Z⟩ (md (by unfold ik;rw[if_pos k8]))):p:=h
def Vx(h:p:=by exact aI results206 (aq aM rfl rfl rfl (Lens.id aK)) (ar rfl) ⟨rfl,rfl⟩ (cd acV)):p:=h
def Vy(h:p:=by
 first|(exfalso;simp at h16;done)|(exfalso;rw[h12]at h16;cases h16;done)|skip
 all_goals
  refine Y7 ?_
  exact aE (fun a w hi=>⟨k+1,zj,(⟨So,n9 hno (by rw[hge,hb];rfl)⟩),(zI hi)⟩)):p:=h
def Vz(h:p:=by exact aI results116 (aq aQ rfl rfl rfl (Lens.id bt)) (ar rfl) ⟨rfl,rfl⟩ (cY K5)):p:=h
def VA(h:p:=by
 have g:=h;try simp at h
 refine Y8 ?_;first|(subst_vars;exact z1 results115 rfl (ri cy))|exact z1 results115 rfl (ri ZO)):p:=h
def VB(h:p:=by refine Y9 ?_;exact z2 results75 rfl rfl (Sc XV)):p:=h
def VC(h:p:=by rcases hq.1.1 with z|z|z;exact z.1;exact aat;rcases z with z|⟨u,z1,z2⟩;exact absurd z hq.2.1;exact .inr (z2▸(hi.own nm _ hn u z1).1)):p:=h
def VD(h:p:=by exact EJ ⟨YV,YW⟩ h):p:=h
def VE(h:p:=by refine zR (zJ (aC Qg Z eq .nil) (Y8 ?_));refine b8 (ax (al ?_));exact aI results238 (aq aM Z Z Z (Lens.id aK)) (ar Z) ⟨Z,Z⟩ (cd (by rw[hov0,←hov,hd,abp hs cy];rfl))):p:=h
def VF(h:p:=by have:=hb.own nm _ hn _ hbo;exact⟨.inr this.1,this.2,fun k h hk x hx e1=>by have:k=nm:=hb.sep k nm _ _ (hsub _ _ hk) hn x (b,o) hx hbo e1;subst this;rw[hno]at hk;cases hk⟩):p:=h
def VG(h:p:=by have:=congrArg (fun l=>l[i]?) hd;simp only[List.getElem?_map,List.getElem?_eq_getElem q1,List.getElem?_eq_getElem q2,Option.map_some,Option.some.injEq]at this;exact this.symm):p:=h
def VH(h:p:=by unfold cn at h;rw[if_neg zo,if_neg zo,if_neg zo,if_neg zo,if_neg zo,if_neg zo,if_neg zo,if_neg zo]at h;split at h;simp at h;rename_i q;simp at h;rw[←h];simp at q;rw[←q]):p:=h
def VI(h:p:=by exact aE (fun a w hi=>⟨(sw ys i jj,jj,A2,cap2),zj,(⟨(w8 zo zo).trans hp,SmF hd zo hjn hj0 hjp hm hl,So,by rw[vE zo zo,if_neg zo,if_neg zo];exact ht⟩),(zI hi)⟩)):p:=h
def VJ(h:p:=by exact aI results160 (aq aQ rfl rfl rfl (Lens.id bt)) (ar rfl) ⟨rfl,rfl⟩ (fp YN)):p:=h
def VK(h:p:=by first|(have _hh:=h5.1;exact aE (fun a w hi=>⟨(((i+j)/2)+1,j),zj,⟨h5.2,hi2,hi3⟩,zI hi⟩))|exact aE (fun a w hi=>⟨(i,((i+j)/2)),zj,⟨hi1,h5,So⟩,zI hi⟩)):p:=h
def VL(h:p:=by rw[List.getElem?_eq_getElem hk,Option.getD_some];obtain⟨q1,q2,_⟩:=ho k hk;have:=C4 (env:=env) hs n (bV e (i:Int))[k].toNat zo zo;rwa [Int.toNat_of_nonneg q1]at this):p:=h
def VM(h:p:=by simp only[SV.within,Bool.and_eq_true]at h;simp only[SV.free,Bool.and_eq_false_iff]at hf;rcases hf with hf|hf;exact SV.within_mem h.1 hf;exact SV.within_mem h.2 hf):p:=h
def VN(h:p:=by unfold wpOp;simp only[hoi];split;rename_i hw;rw[if_pos hw]at hstep;exact .inl (Oper.wp_mono hnext hstep);rename_i hw;rw[if_neg hw]at hstep;exact hnext _ _ hstep):p:=h
def VO(h:p:=by refine Y8 ?_;exact aE (fun a w hi=>⟨(k+1,_),ZC,⟨So,by rw[←hov,hd,Be hs],hb'⟩,(zI hi)⟩)):p:=h
def VP(h:p:=by have hh:gU n0 ys:=inB hd hm Qb;refine bq (bv (pp Z (zb ?_)));refine yY 6 Z ?_;exact ru (s0:=0) results218 (ar Z) Z Z Z dW Z Z Z ⟨hp,hh,ht⟩):p:=h
def VQ(h:p:=by
 by_cases h:i=n;subst h;simp;have:Nat.beq i n=false:=by cases hb:Nat.beq i n with|false=>rfl|true=>exact absurd (Nat.eq_of_beq_eq_true hb) h
 simp[this,h]):p:=h
def VR(h:p:=by exact z2 results93 Z Z (by unfold tZ;rw[if_neg M5,if_neg Oy,if_neg h5,if_neg h7,jK h10 (by rw[hb];rfl) hno];simp only[hb])):p:=h
def VS(h:p:=by have:=FF (W:=W) (e:=(k:Int)) (z:=u) (v:=(((rw dd (k:Int)).length:Nat):Int)) zo hu (by rw[Int.toNat_natCast,h.len];exact hk);rwa [Int.toNat_natCast]at this):p:=h
def VT(h:p:=by refine(hbl k (Nat.lt_of_lt_of_le hk hi.below.size) ?_).trans (hi.below.blockX k hk hx);rintro rfl;rcases hown.1 with q|q;simp only at q;omega;exact hx q):p:=h
def VU(h:p:=by refine Yk func121 ntmps121 fun w0 ok0=>?_;refine Y27 ?_;exact z1 results121 rfl (rb (by first|rfl|(simp[jt];done)|(rw[Bool.eq_iff_iff];simp[jt];omega)))):p:=h
def VV(h:p:=by refine Y6 ?_;exact z1 results205 rfl (rb (by unfold fJ;(repeat' first|rw[if_pos mE]|rw[if_neg mE])))):p:=h
def VW(h:p:=by exact aE (fun a w hi=>⟨(k+1,_),ZC,⟨So,by rw[←hov,hd,Be hs],hb'⟩,(zI hi)⟩)):p:=h
def VX(h:p:=by obtain⟨v,h1,h2⟩:=hb.slots i s (h.slots _ _ hs);exact⟨v,h1,SV.keep hok (fun nm _=>⟨rfl,fun b o _ cur e fr hc=>⟨cur,e,fr,hc,rfl⟩⟩) h2⟩):p:=h
def VY(h:p:=by first|(subst_vars;exact z1 results115 rfl (ri cy))|exact z1 results115 rfl (ri ZO)):p:=h
def VZ(h:p:=by refine Sub.inv ⟨fun i s hs=>?_,fun i s hs=>?_⟩ hi0;rw[dK,jA (fun j c _ _=>getD_replicate_false _ _)]at hs;simpa using hs;rw[eh]at hs;exact hs):p:=h
def V0(h:p:=by have hjs:=(Array.getElem?_eq_some_iff.1 hj).1;have hlt:=dk.back j oj hj e he hbe;rw[dR false hjs]at hl;rw[dR false So];simp at hl⊢;omega):p:=h
def V1(h:p:=by simp at ht;subst ht;first|exact .inl rfl|exact .inr (.inl rfl)|exact .inr (.inr rfl)|exact .inr (.inr (.inl rfl))|exact .inr (.inr (.inr rfl))):p:=h
def V2(h:p:=by exact z1 results204 rfl (rb (by rw[ha];first|(rw[hd];simp only[List.all_cons,h4,Bool.false_and];done)|(rw[List.drop_eq_nil_of_le zo];rfl)))):p:=h
def V3(h:p:=by refine dy ?_;refine b8 (ax (al ?_));exact z2 results94 Z Z (Sc Zi)):p:=h
def V4(h:p:=by
 have:yielded ops a.tmps j=some c:=by simp only[yielded,hj,Option.bind_some,h1]
 simp only[Region.wanted,hg,this];cases c<;>cases want<;>rfl):p:=h
def V5(h:p:=by rw[bA]at hh;split at hh;rename_i e;injection hh with hh;exact .inl ⟨e.symm,hh.symm⟩;rename_i e;exact .inr ⟨fun e2=>e e2.symm,hh⟩):p:=h
def V6(h:p:=by
 have e1:(fW x0).2=x0.2:=by unfold fW;rw[if_pos c0]
 rw[if_pos (by rw[e1];exact c0),Pp,e1];exact⟨fun q=>absurd q c0,fun q hr=>i2 q hr⟩):p:=h
def V7(h:p:=by rw[hw,hcw,if_neg Sp];refine hK _ _ (hr _ _ ⟨β,?_⟩);rw[hd];exact hb.put hdn' ⟨(fun h=>by rw[hcw]at h;cases h),fun _=>rfl⟩):p:=h
def V8(h:p:=by obtain⟨c1,e1,q1,q2,_⟩:=hrow;rw[h0]at q1;injection q1 with q1;injection q1 with q1 _ _;subst q1;have q2:po+1*6≤cur.size:=q2;omega):p:=h
def V9(h:p:=by exact cQ results66 (aq kM rfl rfl rfl (Lens.id dg)) rfl (congrArg (SV.tv dg) (by unfold tz Cr;first|(rw[F6 h3];rfl)|(rw[Cs h3];rfl)))):p:=h
def Wa(h:p:=by rcases hb'.1 with h1|h1;exact h1.2.2;intro nm x hx y hy e;have:=(hi.own nm x hx y hy).2;have h1:w.heap.size≤b:=Cx.new_of h1;omega):p:=h
def Wb(h:p:=by refine zR (zJ (aC KB Z pl81 .nil) (Y7 ?_));exact db results56 (aq dO Z Z Z (Lens.id bw)) (ar Z) (ar Z) ⟨Z,Z,Z⟩ (by rw[hc];rfl)):p:=h
def Wc(h:p:=by rw[List.getElem?_set]at hx;split at hx;rename_i e;subst e;exact⟨0,hg⟩;rw[List.getElem?_replicate]at hx;split at hx<;>cases hx):p:=h
def Wd(h:p:=by by_cases e1:z=e;subst e1;simp[h];rw[if_neg e1,List.getD_eq_getElem?_getD,List.getElem?_set_ne zo,←List.getD_eq_getElem?_getD]):p:=h
def We(h:p:=by by_cases z:0≤l.2.2[i].2.1;have hj:l.2.2[i].2.1.toNat<l.2.2.length:=So;exact .inr ⟨_,hj,wG z hj⟩;exact .inl (yE z)):p:=h
def Wf(h:p:=by exact aI results263 (aq aM Z Z Z (Lens.id aK)) (ar Z) ⟨Z,Z⟩ (by rw[show j3 d=none by unfold j3;rw[if_neg zo,if_neg zo]];rfl)):p:=h
def Wg(h:p:=by exact db results48 (aq iQ Z Z Z (Lens.id cZ)) (aq jf Z Z Z (Lens.id gD)) (aq dJ Z Z Z (Lens.id bh)) ⟨Z,Z,Z⟩ (by rw[hev];rfl)):p:=h
def Wh(h:p:=by
 refine aa ?_;refine Z0 ?_ ?_<;>intro h6;simp at h6;try simp at h6
 refine Y8 ?_;exact aE (fun a w hi=>⟨k+1,zj,zo,(zI hi)⟩)):p:=h
def Wi(h:p:=by refine ak (aJ ?_);exact aE (fun a w hi=>⟨(q-1,r+yA),(by show q-1<q;omega),⟨C5 p1 zo,So,So,So⟩,zI hi⟩)):p:=h
def Wj(h:p:=by by_cases e:j<i;simp[e,hall (i-j) j rfl e];have hh:=hL.high j So hj;rw[fP (by rw[hL.size];exact hj)]at hh;simp[e,hh]):p:=h
def Wk(h:p:=by have:=hv i;rw[List.getElem?_eq_getElem hi,Option.getD_some,hs]at this;have:=this zo;exact⟨by simpa using this.2,So⟩):p:=h
def Wl(h:p:=by rw[List.getElem?_map,List.getElem?_eq_getElem Dq,List.getElem_range]at hy;injection hy with hy;exact hy.symm):p:=h
def Wm(h:p:=by have h1:=hi.raw (hag.ev aT hx);exact⟨_,by simp[execOp,Instr.makeInterface,run_underlying hu,h1],rfl⟩):p:=h
def Wn(h:p:=by
 cases lo with
 | none=>simp at hlo;simp[Instr.sliceBounds,hlo,hh']
 | some y=>simp at hl';simp[Instr.sliceBounds,hl',hh']):p:=h
def Wo(h:p:=by
 cases lo with
 | none=>simp at hlo;simp[Instr.sliceBounds,hlo,hhi]
 | some y=>simp at hl';simp[Instr.sliceBounds,hl',hhi]):p:=h
def Wp(h:p:=by refine b8 (ax (al ?_));exact db results108 (aq aM Z Z Z (Lens.id aK)) (xf (ar Z)) (ar Z) ⟨Z,Z,Z⟩ (by rw[hr];rfl)):p:=h
def Wq(h:p:=by obtain⟨v,h1,h2⟩:=hi.slots t _ h;have h2:v=.slice none 0 0:=h2;exact⟨v,by simp[pR,h1],by rw[h2];exact r6⟩):p:=h
def Wr(h:p:=by unfold Ab;rw[if_pos ⟨hcmp,by rw[hS],by rw[hS];simp;omega,by rw[hS];exact q6⟩,hS];unfold cutN;rw[if_pos hmax]):p:=h
def Ws(h:p:=by have his:i<listed.size:=ZM;rw[fP his,h1]at hun;cases hun):p:=h
def Wt(h:p:=by have h1:=F.val n a zo zo;have h2:=F.val n b zo zo;rw[ta]at h1;rw[tb]at h2;unfold H3;split;exact h1;exact h2):p:=h
def Wu(h:p:=by refine J4 ?_;exact z1 results81 rfl (rb (by first|rfl|(simp[fm];done)|(rw[Bool.eq_iff_iff];simp[fm];omega)))):p:=h
def Wv(h:p:=by rw[if_pos q2,List.append_assoc,List.getElem?_append_right So,e1,List.getElem?_append_left So]):p:=h
def Ww(h:p:=by
 induction l with
 | nil=>simp[aG]
 | cons p l ih=>obtain⟨j,t⟩:=p;rw[List.cons_append,bA,bA,ih];split<;>rfl):p:=h
def Wx(h:p:=by rcases hq.1.1 with z|z|z;exact z.1;exact aat;exact absurd z hq.2):p:=h
def Wy(h:p:=by exact⟨.inr (.inl hi.below.size),Sp,fun nm hb hh x hx e1=>by have:=(hi.own nm hb hh x hx).2;omega⟩):p:=h
def Wz(h:p:=by rw[if_neg e];exact hoth (fun q v h=>by rw[h1]at h;injection h with h;injection h with h _;subst h;exact e)):p:=h
def WA(h:p:=by exact⟨.int .i64 _,by simp[execOp,resolve,invoke,builtin,h1,Builtin.len_,run_underlying ht,goInt],rfl⟩):p:=h
def WB(h:p:=by exact aI results17 (aq iQ Z Z Z (Lens.id cZ)) (aq dJ Z Z Z (Lens.id bh)) ⟨Z,Z⟩ (by rw[hrun,hev];rfl)):p:=h
def WC(h:p:=by rcases Nat.lt_or_ge m i with h|h;exact absurd h (fun h=>hbehind m _ (Nat.le_refl _) hL i hr h);omega):p:=h
def WD(h:p:=by rw[if_pos q1,List.append_assoc,List.getElem?_append_left So,List.getElem?_take_of_lt q1];simp):p:=h
def WE(h:p:=by rcases hMm with e|⟨j,hj,e⟩;rw[e];decide;rw[e];have:=(hL.2.2.2 _ (List.getElem_mem hj)).1;omega):p:=h
def WF(h:p:=by refine Y7 ?_;exact aE (fun a w hi=>⟨k+1,zj,(⟨So,n9 hno (by rw[hge,h7];rfl)⟩),(zI hi)⟩)):p:=h
def WG(h:p:=by refine Y7 ?_;exact z1 results230 Z (rb ZK)):p:=h
def WH(h:p:=by rcases hb'.1 with h1|h1;exact h1.1;exact .inr (.inl (Nat.le_trans hi.below.size (Cx.new_of h1)))):p:=h
def WI(h:p:=by exact⟨v,g1,SV.keep hok (fun nm _=>⟨rfl,fun b o _ cur e fr hc=>⟨cur,e,fr,hc,rfl⟩⟩) g2⟩):p:=h
def WJ(h:p:=by rw[bA]at hh;split at hh;rename_i e;injection hh with hh;exact⟨e.symm,hh.symm⟩;simp[aG]at hh):p:=h
def WK(h:p:=by rw[hβo k q2]at hx;have:=hi.own k hb' hk x hx;exact⟨this.1,Nat.lt_of_lt_of_le this.2 hg.size⟩):p:=h
def WM(h:p:=by simp only[St.app,h1,Option.toList,List.nil_append];exact hoth (fun q v h=>by rw[h1]at h;cases h)):p:=h
def WN(h:p:=by unfold gf;rw[List.take_succ_eq_append_getElem h,List.filter_append,List.flatMap_append];simp[hd]):p:=h
def WO(h:p:=by rcases hz with q|q|q;have:=h1.1 (.inl q);omega;have:=h1.1 (.inr q);omega;have:=h1.2 q;omega):p:=h
def WP(h:p:=by subst e3;rw[show x+b-b=x by omega,List.getElem?_set_self So]at hk';simpa using hk'.symm):p:=h
def WQ(h:p:=by unfold wY;rw[List.take_succ_eq_append_getElem h,List.filter_append,List.length_append];simp[e]):p:=h
def WR(h:p:=by rw[hw,hcw,if_neg Sp,hd];exact⟨β,hb.put hdn' ⟨(fun h=>LD),fun _=>rfl⟩⟩):p:=h
def WS(h:p:=by unfold mJ;rw[List.take_succ_eq_append_getElem h,List.filter_append,List.map_append];simp[hc]):p:=h
def WT(h:p:=by have:(off+n)*rt.n≤xs.length*rt.n:=Nat.mul_le_mul_right _ hle;rw[Nat.add_mul]at this;omega):p:=h
def WU(h:p:=by exact z1 results285 rfl (ri (by unfold kS;first|rw[if_pos h15]|rw[if_neg (by simp[h15])]))):p:=h
def WV(h:p:=by exact lj (β:=fun _=>bo) ⟨Sp,fun b o hb cur e fr hc=>⟨cur,e,fr,hc,rfl⟩⟩ hb3):p:=h
def WW(h:p:=by rcases hMm with e|⟨j,hj,e⟩;rw[e];exact GR;rw[e];exact hLim _ (List.getElem_mem hj)):p:=h
def WX(h:p:=by split at ht;cases(Prod.mk.inj ht).2;rw[←h8,←(Prod.mk.inj ht).1];exact⟨rfl,rfl⟩):p:=h
def WY(h:p:=by exact db results254 (ar Z) (ar Z) (ar Z) ⟨Z,Z,Z⟩ (md (by unfold ik;rw[if_pos k6]))):p:=h
def WZ(h:p:=by have:ps.length≤ps.length*rt.n:=Nat.le_mul_of_pos_right _ h1';simp only[maxLen];omega):p:=h
def W0(h:p:=by refine Y8 ?_;exact aE (fun a w hi=>⟨k+1,zj,(⟨So,lu h4 hp h6⟩),(zI hi)⟩)):p:=h
def W1(h:p:=by unfold ruK at this;rw[List.getElem?_eq_getElem hi,Option.getD_some]at this;exact this):p:=h
def W2(h:p:=by rw[←List.take_append_getElem hk,Sa,List.filter_append,List.map_append];simp[Sa,h]):p:=h
def W3(h:p:=by rw[hβo k q2]at hx;rw[hβo k' q4]at hy;exact hi.sep k k' _ _ hk3 hk4 x y hx hy hxy):p:=h
def W4(h:p:=by rw[ze];simp only[Int.toNat_natCast,List.getElem?_eq_getElem h,Option.getD_some]):p:=h
def W5(h:p:=by rw[show(10000:Nat)=9999+1 from rfl,Instr.checkKey];simp[run_underlying hK,e6]):p:=h
def W6(h:p:=by rcases oo n _ _ d hd with q|q;exact .inl q;exact .inr ⟨q.1,So⟩):p:=h
def W7(h:p:=by rename_i e;injection hh with hh;exact .inl ⟨e.symm,hh.symm⟩):p:=h
def W8(h:p:=by subst hd;exact .inr ⟨ads,ads⟩):p:=h
def W9(h:p:=by unfold dH;rw[if_neg zo,if_neg zo,if_neg zo,if_neg zo,if_neg zo]):p:=h
def Xa(h:p:=by unfold fJ;rw[if_neg zo,if_neg zo,if_neg zo,if_neg zo,if_neg zo]):p:=h
def Xb(h:p:=by simp[execOp,resolve,Act.eval,Deferred.ofValue,invoke,h.ent]):p:=h
def Xc(h:p:=by rename_i c;exfalso;injection h with h _;exact c (by rw[h])):p:=h
def Xd(h:p:=by rw[List.take_succ_eq_append_getElem h,List.map_append];rfl):p:=h
def Xe(h:p:=by refine Y7 ?_;exact aE (fun a w hi=>⟨k+1,zj,zo,zW hi⟩)):p:=h
def Xf(h:p:=by refine Y7 ?_;exact aE (fun a w hi=>⟨k+1,zo,zo,zW hi⟩)):p:=h
def Xg(h:p:=by refine Y8 ?_;exact aE (fun a w hi=>⟨k+1,zj,zo,zW hi⟩)):p:=h
def Xh(h:p:=by refine Y8 ?_;exact aE (fun a w hi=>⟨k+1,zo,zo,zW hi⟩)):p:=h
def Xi(h:p:=by have:=ht.seq _ _ _ c g2 o ho;rw[e]at this;cases this):p:=h
def Xj(h:p:=by exact aE (fun a w hi=>⟨k+1,zo,zo,zW hi⟩)):p:=h
def Xk(h:p:=by exact⟨a.eval x,by simp[execOp,h2,dE],h1⟩):p:=h
def Xl(h:p:=by exact wp_mono this fun e a w' hq=>hq):p:=h
def Xm(h:p:=by repeat(first|exact aw|refine ao rfl (by first|rfl|(refine congrArg (HB.mk (ay .i64)) ?_;first|rfl|(rw[ht1];(try simp only[List.drop_zero,List.take_of_length_le (Nat.le_refl _)]);first|done|rfl|(simp;done);done)|(rw[hf1];done)|(rw[ht2];(try simp only[List.drop_zero,List.take_of_length_le (Nat.le_refl _)]);first|done|rfl|(simp;done);done)|(rw[hf2];done)|(rw[ht3];exact Z21 q4 h4;done)|(rw[hf3];exact rg q4 h4;done))) ?_)):p:=h
def Xn(h:p:=by repeat(first|exact aw|refine ao rfl (by first|rfl|(refine congrArg (HB.mk (ay .i64)) ?_;rw[hA];try(simp only[List.drop_zero,List.take_of_length_le (Nat.le_refl _)]);done)|(refine congrArg (HB.mk (ay .i64)) ?_;rw[hB];try(simp only[List.drop_zero,List.take_of_length_le (Nat.le_refl _)]);done)|(refine congrArg (HB.mk (ay .i64)) ?_;rw[hC];try(simp only[List.drop_zero,List.take_of_length_le (Nat.le_refl _)]);done)) ?_)):p:=h
def Xo(h:p:=by (try(have ht:=d7 (l:=s.2.1) (n:=d.2/8) zo;(try simp only[←ht]at h9);(try simp only[←ht]at h12);(try simp only[←ht])));(try(have ht2:=d7 (l:=s.2.1) (n:=d.2) zo;(try simp only[←ht2]at h9);(try simp only[←ht2]at h12);(try simp only[←ht2])));unfold fG jv;(first|(rw[if_pos h2];done)|skip);(repeat' split)<;>first|rfl|omega|(clear ok0;simp_all;done)|(clear ok0;simp_all;omega)|(exfalso;clear ok0;grind)):p:=h
def Xp(h:p:=by subst_vars;first|rfl|(simp[R4];done)|(simp[R4, *];done)|(rw[Bool.eq_iff_iff];simp[R4, *];omega)|(rw[Bool.eq_iff_iff];simp[R4];omega)|(unfold R4;simp;omega)|(unfold R4;(repeat' split)<;>first|rfl|omega|(rw[Bool.eq_iff_iff];simp;omega)|(simp_all;done)|(simp_all;omega)|(exfalso;omega))):p:=h
def Xq(h:p:=by unfold kg;(repeat' first|rw[if_pos zo]|rw[if_neg zo]);(try unfold gI);all_goals first|rfl|(rw[Bool.eq_iff_iff];simp;done)|(rw[Bool.eq_iff_iff];simp;omega)|(simp only[GD];rw[Bool.eq_iff_iff];simp only[Bool.and_eq_true,decide_eq_true_eq,bne_iff_ne,ge_iff_le,ne_eq,and_assoc];done)):p:=h
def Xr(h:p:=by repeat(first|exact au|refine ap rfl (by first|rfl|(refine rb ?_;unfold Om;(repeat' first|rw[if_pos zo]|rw[if_neg zo]);all_goals first|rfl|(exact aeT zo)|(exact aeU zo)|(exact vB zo)|(exact vA zo)|(rw[Bool.eq_iff_iff];simp;omega)|(rw[Bool.eq_iff_iff];simp;done)|(simp;done))) ?_)):p:=h
def Xs(h:p:=by repeat(first|exact au|refine ap rfl (by first|rfl|exact congrArg (SV.own 70 (ay .i64).n 0) (by rw[hA];try simp;try omega)|exact congrArg (SV.own 71 (ay .i64).n 0) (by rw[hB];try simp;try omega)|exact congrArg (SV.own 72 (ay .i64).n 0) (by rw[hC];try simp;try omega)) ?_)):p:=h
def Xt(h:p:=by unfold dH;(repeat' first|rw[if_pos zo]|rw[if_neg zo]);all_goals first|rfl|(rw[Bool.eq_iff_iff];simp;done)|(rw[Bool.eq_iff_iff];simp;omega)|(simp only[GD];rw[Bool.eq_iff_iff];simp only[Bool.and_eq_true,decide_eq_true_eq,bne_iff_ne,ge_iff_le,ne_eq,and_assoc];done)):p:=h
def Xu(h:p:=by unfold gF;(repeat' first|rw[if_pos zo]|rw[if_neg zo]);all_goals first|rfl|(rw[Bool.eq_iff_iff];simp;done)|(rw[Bool.eq_iff_iff];simp;omega)|(simp only[GD];rw[Bool.eq_iff_iff];simp only[Bool.and_eq_true,decide_eq_true_eq,bne_iff_ne,ge_iff_le,ne_eq,and_assoc];done)):p:=h
def Xv(h:p:=by exact aI results158 (aq aQ rfl rfl rfl (Lens.id bt)) (ar rfl) ⟨rfl,rfl⟩ (cY acU)):p:=h
def Xw(h:p:=by unfold prP;(first|rw[if_pos h2,List.getElem?_eq_getElem (show r.2.1.toNat<s.2.2.2.1.length by omega)]|rw[if_neg h2]);first|(rw[if_pos h4,List.getElem?_eq_getElem (show r.2.2.1.toNat<s.2.2.2.2.length by omega)];first|done|rfl)|(rw[if_neg h4];first|done|rfl)):p:=h
def Xx(h:p:=by repeat(first|exact aw|refine ao rfl (by first|rfl|(refine congrArg (HB.mk cw) ?_;first|rfl|(rw[hq0];done)|(exact(congrArg (fun z=>z++_) List.take_length).trans hq0.symm;done)|(rw[hq0,List.take_length];done)|(rw[hq0,List.take_length];rfl;done))) ?_)):p:=h
def Xy(h:p:=by repeat(first|exact aw|refine ao rfl (by first|rfl|(refine congrArg (HB.mk cw) ?_;first|rfl|(rw[hq1];done)|(exact(congrArg (fun z=>z++_) List.take_length).trans hq1.symm;done)|(rw[hq1,List.take_length];done)|(rw[hq1,List.take_length];rfl;done))) ?_)):p:=h
def Xz(h:p:=by repeat(first|exact aw|refine ao rfl (by first|rfl|(refine congrArg (HB.mk cq) ?_;first|rfl|(unfold M8;rw[if_neg (by rw[hr];decide)];(first|rw[if_pos h9]|rw[if_neg h9]);(first|rw[if_pos h7]|rw[if_neg h7]);try(first|rfl|simp);done))) ?_)):p:=h
def XA(h:p:=by repeat(first|exact au|refine ap rfl (by first|rfl|(refine congrArg (SV.own 70 cw.n 0) ?_;first|(exact List.length_append.symm.trans (congrArg List.length hq0.symm);done)|(exact congrArg List.length hq0.symm;done)|(rw[hq0];done))) ?_)):p:=h
def XB(h:p:=by repeat(first|exact au|refine ap rfl (by first|rfl|(refine congrArg (SV.own 70 cw.n 0) ?_;first|(exact List.length_append.symm.trans (congrArg List.length hq1.symm);done)|(exact congrArg List.length hq1.symm;done)|(rw[hq1];done))) ?_)):p:=h
def XC(h:p:=by repeat(first|exact au|refine ap rfl (by first|rfl|(refine congrArg (SV.own 70 (ay .i64).n 0) ?_;first|(rw[ht1];simp;done)|(rw[hf1];done))|(refine congrArg (SV.own 71 (ay .i64).n 0) ?_;first|(rw[ht2];simp;done)|(rw[hf2];done))) ?_)):p:=h
def XD(h:p:=by repeat(first|exact aw|refine ao rfl (by first|rfl|(refine congrArg (HB.mk b9) ?_;first|rfl|(rw[hs];(try simp only[List.drop_zero,List.take_length]);first|done|rfl|(simp;done);done))|(rw[hsl];rfl)|(rw[hsl];done)) ?_)):p:=h
def XE(h:p:=by repeat(first|exact aw|refine ao rfl (by first|rfl|(refine congrArg (HB.mk bw) ?_;first|rfl|(rw[hs];(try simp only[List.drop_zero,List.take_length]);first|done|rfl|(simp;done);done))|(rw[hsl];rfl)|(rw[hsl];done)) ?_)):p:=h
def XF(h:p:=by repeat(first|exact aw|refine ao rfl (by first|rfl|(refine congrArg (HB.mk dl) ?_;first|rfl|(rw[hs];(try simp only[List.drop_zero,List.take_length]);first|done|rfl|(simp;done);done))|(rw[hsl];rfl)|(rw[hsl];done)) ?_)):p:=h
def XG(h:p:=by subst_vars;first|rfl|(simp[aP];done)|(simp[aP, *];done)|(rw[Bool.eq_iff_iff];simp[aP, *];omega)|(rw[Bool.eq_iff_iff];simp[aP];omega)|(unfold aP;simp;omega)|(unfold aP;(repeat' split)<;>first|rfl|omega|simp_all)):p:=h
def XH(h:p:=by subst_vars;first|rfl|(simp[fd];done)|(simp[fd, *];done)|(rw[Bool.eq_iff_iff];simp[fd, *];omega)|(rw[Bool.eq_iff_iff];simp[fd];omega)|(unfold fd;simp;omega)|(unfold fd;(repeat' split)<;>first|rfl|omega|simp_all)):p:=h
def XI(h:p:=by rw[uj _ _ _ _ _ (Nat.zero_add _),hsp];simp only[List.append_assoc,List.cons_append,List.nil_append,List.length_append,List.length_cons,List.length_nil,Nat.zero_add,←Nat.add_assoc];(try(simp;try omega))):p:=h
def XJ(h:p:=by repeat(first|refine ao rfl KG ?_|exact dU Cj (hrvn))):p:=h
def XK(h:p:=by subst_vars;first|rfl|(simp[cg];done)|(simp[cg, *];done)|(unfold cg;(repeat' split)<;>first|rfl|omega|(simp_all;done)|(simp_all;omega)|(simp_all [bD];done)|(simp_all [bD];omega))):p:=h
def XL(h:p:=by exact aI results116 (aq aQ rfl rfl rfl (Lens.id bt)) (ar rfl) ⟨rfl,rfl⟩ (cY K5)):p:=h
def XM(h:p:=by repeat(first|exact au|refine ap rfl (by first|rfl|(refine ri ?_;unfold nO;first|(rw[if_pos zo];done)|(rw[if_neg zo,if_pos zo];done)|(rw[if_neg zo,if_neg zo];done))) ?_)):p:=h
def XN(h:p:=by unfold Om;(repeat' first|rw[if_pos zo]|rw[if_neg zo]);all_goals first|rfl|(exact vB zo)|(exact vA zo)|(rw[Bool.eq_iff_iff];simp;omega)|(rw[Bool.eq_iff_iff];simp;done)):p:=h
def XO(h:p:=by unfold biV;(repeat' first|rw[if_pos mE]|rw[if_neg mE]);all_goals first|rfl|(congr 2;rw[Bool.eq_iff_iff];simp;done)):p:=h
def XP(h:p:=by repeat(first|exact au|refine ap rfl (by first|rfl|(simp;done)|assumption|(refine congrArg (SV.fam (SV.own 11 1 0 (scN s)) 1000 1) ?_;simp[List.map_set];done)) ?_)):p:=h
def XQ(h:p:=by unfold ND;(repeat' first|rw[if_pos mE]|rw[if_neg (by first|assumption|omega|(rw[h13];decide))]);all_goals first|rfl|(simp[*];done)):p:=h
def XR(h:p:=by repeat(first|exact au|refine ap rfl (by first|rfl|(simp;done)|assumption|(refine congrArg (SV.fam (SV.own 11 1 0 (scN s)) 1000 1) ?_;rfl;done)) ?_)):p:=h
def XS(h:p:=by repeat(first|exact au|refine ap rfl (by first|rfl|(simp;done)|assumption|(refine congrArg (SV.fam (SV.own 21 1 0 n) 1000 1) ?_;rfl;done)) ?_)):p:=h
def XT(h:p:=by unfold OU;rw[hp];rw[if_neg M5,if_neg h3,if_neg adh,if_neg h10,if_neg h13,if_neg h18];unfold E1;rw[h20];rfl):p:=h
def XU(h:p:=by repeat(first|exact aw|refine ao rfl (by first|rfl|(simp;done)|assumption|(refine congrArg (HB.mk (ay .i64)) ?_;rw[Nat.zero_add];done)) ?_)):p:=h
def XV(h:p:=by subst_vars;first|rfl|(simp[R6];done)|(simp[R6, *];done)|(unfold R6;(repeat' split)<;>first|rfl|omega|(simp_all;done)|(simp_all;omega))):p:=h
def XW(h:p:=by unfold oz scR QH;(repeat' first|rw[if_pos mE]|rw[if_neg mE]);all_goals first|rfl):p:=h
def XX(h:p:=by repeat(first|exact au|refine ap rfl (by first|rfl|(refine congrArg (SV.own 70 cw.n 0) ?_;first|(simp[eE];done)|(rfl;done))) ?_)):p:=h
def XY(h:p:=by intro x hx;rw[List.mem_singleton.1 hx];exact⟨0,by rw[hrr];simp only[List.length_append,List.length_cons,List.length_nil];rfl⟩):p:=h
def XZ(h:p:=by repeat(first|exact aw|refine ao rfl (by first|rfl|(refine congrArg (HB.mk cw) ?_;first|rfl|(simp[eE];done)|(rfl;done))) ?_)):p:=h
def X2(h:p:=by repeat(first|exact au|refine ap rfl (by first|rfl|(exact congrArg (fun z=>Sx z) (by simp only[C6];omega))|(simp;done)) ?_)):p:=h
def X4(h:p:=by repeat(first|exact aw|refine ao rfl (by first|rfl|(refine congrArg (HB.mk aZ) ?_;first|rfl|(exact(F9 _ _).symm;done))) ?_)):p:=h
def X5(h:p:=by repeat(first|exact aw|refine ao rfl (by first|rfl|(refine congrArg (HB.mk cq) ?_;first|rfl|(exact xO h4 hb;done))) ?_)):p:=h
def X6(h:p:=by unfold eL;(repeat' first|rw[if_pos mE]|rw[if_neg mE]);all_goals rfl):p:=h
def X7(h:p:=by unfold fJ;(repeat' first|rw[if_pos mE]|rw[if_neg mE]);all_goals rfl):p:=h
def X8(h:p:=by repeat(first|exact au|refine ap rfl (by first|rfl|(refine congrArg (SV.own 70 cw.n 0) ?_;first|(simp[eE];done))) ?_)):p:=h
def X9(h:p:=by repeat(first|exact aw|refine ao rfl (by first|rfl|(refine congrArg (HB.mk cq) ?_;first|rfl|(rw[I1,hil];done))) ?_)):p:=h
def Ya(h:p:=by repeat(first|exact au|refine ap rfl (by first|rfl|assumption|exact congrArg (SV.own 64 1 0) QE) ?_)):p:=h
def Yf(h:p:=by repeat(first|exact aw|refine ao rfl (by first|rfl|(refine congrArg (HB.mk cw) ?_;first|rfl|(simp[eE];done))) ?_)):p:=h
def Yg(h:p:=by unfold ew;rw[show qw s env (cI (fD d env.1) s.2.2.2.2 s.2.2.2.2.length)=none by rw[←hgu,h4,List.take_length]]):p:=h
def Yh(h:p:=by have:=hx0 Lg;omega):p:=h
def Yi(h:p:=by repeat(first|exact au|refine ap rfl (by first|rfl|exact congrArg (fun z:Int=>Sx z) (by rw[hst];omega)) ?_)):p:=h
def Ym(h:p:=by rw[Bool.or_eq_true]at h8;rcases h8 with h8|h8<;>first|exact .inr (eq_of_beq h8)|(left;simp at h8;simp[h8])):p:=h
def Yn(h:p:=by unfold tt;rw[if_neg zo,if_pos hjj,show((i:Int)+1).toNat=i+1 by omega];first|rw[if_pos h15]|rw[if_neg h15]):p:=h
def Yp(h:p:=by simp only[List.length_append,List.length_cons,List.length_nil,List.length_set,Nat.zero_add]<;>omega):p:=h
def Yr(h:p:=by repeat(first|refine ao rfl rfl ?_|exact dU Cj rfl)):p:=h
def Ys(h:p:=by have:=xi hmA;rw[List.getElem?_eq_getElem hpl]at this;injection this with this;exact this.symm):p:=h
def Yt(h:p:=by refine⟨rfl,?_,So,Sp⟩;obtain⟨rs,q1,q2,q3⟩:=hrs;exact⟨rs,q1,by rw[←hn];exact q2⟩):p:=h
def Yu(h:p:=by simp[execOp,h2,h5,Instr.indexAt,asIntOf,run_underlying ht,hb2,eM hi0,hs,hj,Addr.add_lit]):p:=h
def Yx(h:p:=by unfold lq;rw[if_neg h1,jK h4 (by rw[hge,hb];first|rfl|exact h12) hno];simp only[hge,hb]):p:=h
def Yy(h:p:=by exact db results254 (ar Z) (ar Z) (ar Z) ⟨Z,Z,Z⟩ (md (by unfold ik;rw[if_neg zo,if_neg h2]))):p:=h
def Yz(h:p:=by intro x hx;rw[List.mem_singleton.1 hx];exact⟨0,yC⟩):p:=h
def YD(h:p:=by simp only[List.length_append,List.length_take,List.length_cons,List.length_nil];omega):p:=h
def YE(h:p:=by repeat(first|exact au|refine ap rfl (by first|rfl|(rw[hm2];done)|(rw[hm2];rfl)) ?_)):p:=h
def YG(h:p:=by repeat(first|exact au|refine ap rfl (by first|rfl|(rw[hsl];rfl)|(rw[hsl];done)) ?_)):p:=h
def YH(h:p:=by show((b+(dn e n ((bV e (i:Int))[0]?.getD 0) b).length:Nat):Int)<_;simp only[];omega):p:=h
def YJ(h:p:=by simp only[List.length_append,List.length_cons,List.length_nil,Nat.zero_add]<;>omega):p:=h
def YN(h:p:=by subst_vars;first|rfl|(simp[aR];done)|(simp[aR, *];done)|(unfold aR;split<;>simp[*])):p:=h
def YO(h:p:=by simp only[List.length_append,List.length_cons,List.length_nil,Nat.zero_add];omega):p:=h
def YP(h:p:=by intro x hx;rw[List.mem_singleton.1 hx];exact⟨0,by rw[hrr];simp only;rw[hcl];rfl⟩):p:=h
def YQ(h:p:=by rw[List.drop_zero,List.take_of_length_le (by rw[nQ];exact Nat.le_refl _),F8];rfl):p:=h
def YS(h:p:=by first|omega|(simp;done)|(simp;omega)|(simp at hg;omega)|(simp at hg;simp;omega)):p:=h
def YV(h:p:=by repeat(first|exact au|refine ap rfl (by first|rfl|(simp;done)|assumption) ?_)):p:=h
def YW(h:p:=by repeat(first|exact aw|refine ao rfl (by first|rfl|(simp;done)|assumption) ?_)):p:=h
def YY(h:p:=by repeat(first|exact aw|refine ao rfl (by first|rfl|(unfold CP;rw[hP];rfl)) ?_)):p:=h
def Za(h:p:=by rw[hag.heap x aT _ nm hx Pa];exact hn):p:=h
def Zb(h:p:=by rw[Array.getElem?_append_left QE];simp[Nat.add_comm 1 j,h1]):p:=h
def Zc(h:p:=by unfold qE;rw[List.range_succ,List.filter_append,List.map_append];simp[h]):p:=h
def Zd(h:p:=by exact cQ results256 (aq aM Z Z Z (Lens.id aK)) Z (congrArg (SV.tv aK) (Z))):p:=h
def Ze(h:p:=by have:=rt.len (rt.val_cells (hzval w (fun _=>True)));simpa using this):p:=h
def Zf(h:p:=by simp only[List.length_append,List.length_cons,List.length_nil];omega):p:=h
def Zg(h:p:=by show(rw (u7 k dd) d).length-(j+1)<(rw (u7 k dd) d).length-j;omega):p:=h
def Zh(h:p:=by unfold d5;rw[if_neg (fun q=>q h9),if_neg h12,if_neg h14,if_pos hne]):p:=h
def Zi(h:p:=by unfold o5;rw[if_neg zo,if_neg JB,←p2,rO h8,if_pos hb]):p:=h
def Zj(h:p:=by repeat(first|exact au|refine ap rfl (by first|rfl|(simp;done)) ?_)):p:=h
def Zk(h:p:=by repeat(first|exact au|refine ap rfl (by first|rfl|exact ri zo) ?_)):p:=h
def Zl(h:p:=by simp only[List.mem_singleton]at ho;subst ho;rw[hj]at hq;cases hq):p:=h
def Zm(h:p:=by exact ⟨_,this.put PX ⟨w.heap.size,0,Sp,Sp⟩⟩):p:=h
def Zn(h:p:=by unfold maxLen;simp only[List.length_cons,List.length_nil];omega):p:=h
def Zo(h:p:=by first|assumption|(rw[hgf];simpa using hbf)|(simpa using hbf)):p:=h
def Zp(h:p:=by obtain⟨⟨de,hu,hd⟩,i0,hi0,hs⟩:=dj;exact⟨⟨de,hu,hd⟩,i0,hi0,hs⟩):p:=h
def Zq(h:p:=by obtain⟨⟨de,hu,hd⟩,i0,hi0,hs⟩:=i7;exact⟨⟨de,hu,hd⟩,i0,hi0,hs⟩):p:=h
def Zr(h:p:=by obtain⟨⟨de,hu,hd⟩,i0,hi0,hs⟩:=i8;exact⟨⟨de,hu,hd⟩,i0,hi0,hs⟩):p:=h
def Zs(h:p:=by obtain⟨⟨de,hu,hd⟩,i0,hi0,hs⟩:=jf;exact⟨⟨de,hu,hd⟩,i0,hi0,hs⟩):p:=h
def Zt(h:p:=by obtain⟨⟨de,hu,hd⟩,i0,hi0,hs⟩:=js;exact⟨⟨de,hu,hd⟩,i0,hi0,hs⟩):p:=h
def Zu(h:p:=by obtain⟨⟨de,hu,hd⟩,i0,hi0,hs⟩:=kr;exact⟨⟨de,hu,hd⟩,i0,hi0,hs⟩):p:=h
def Zv(h:p:=by obtain⟨⟨de,hu,hd⟩,i0,hi0,hs⟩:=o8;exact⟨⟨de,hu,hd⟩,i0,hi0,hs⟩):p:=h
def Zw(h:p:=by simpa[putRow,mapBlock,Sort.ahead]using Nat.lt_add_right _ hb):p:=h
def Zx(h:p:=by have:=(List.getElem?_eq_some_iff.1 hz).1;simp at this;omega):p:=h
def Zy(h:p:=by have:=Ju (l:=l.2.1) (k:=kB l a) hv;rw[qS]at this;exact this):p:=h
def Zz(h:p:=by unfold Qs;simp[h4,List.getD_eq_getElem?_getD]at h6⊢;omega):p:=h
def ZA(h:p:=by have:=hi.ev (hag.ev aT hx);exact this):p:=h
def ZB(h:p:=by unfold SmR;simp[List.getElem?_eq_getElem h14]at h17;omega):p:=h
def ZC(h:p:=by show env.2.2.2.1.length-(k+1)<env.2.2.2.1.length-k;omega):p:=h
def ZD(h:p:=by unfold IJ;simp[List.getElem?_eq_getElem h9]at h11;omega):p:=h
def ZE(h:p:=by have:=Jv (l:=l) (k:=kA l a) hv;rw[pj]at this;exact this):p:=h
def ZF(h:p:=by unfold IJ;simp[List.getElem?_eq_getElem h4]at h6;omega):p:=h
def ZG(h:p:=by have e:=hl;unfold aW at e;(repeat' split at e)<;>omega):p:=h
def ZH(h:p:=by repeat(first|exact au|refine ap rfl (by first|rfl) ?_)):p:=h
def ZI(h:p:=by repeat(first|exact aw|refine ao rfl (by first|rfl) ?_)):p:=h
def ZJ(h:p:=by rw[Bool.eq_iff_iff,decide_eq_true_iff];unfold bO;simp):p:=h
def ZK(h:p:=by rw[eq_comm,decide_eq_false_iff_not];unfold CO gP;omega):p:=h
def ZL(h:p:=by show code.length-(code[x].2.toNat)<code.length-x;omega):p:=h
def ZM(h:p:=by rw[hL.size];exact(Array.getElem?_eq_some_iff.1 hoi).1):p:=h
def ZN(h:p:=by rw[hbs];unfold OT;rw[if_neg h5,if_neg h6,if_pos h8b]):p:=h
def ZO(h:p:=by unfold aW;rw[if_neg zo,if_neg zo,if_neg zo,if_neg zo]):p:=h
def ZP(h:p:=by rw[hm2,show m-1=base.length by omega,←q2];exact hcd2):p:=h
def ZQ(h:p:=by simp only[List.map_cons,List.mem_cons];exact .inr hy):p:=h
def ZS(h:p:=by exact aE (fun a w hi=>⟨k+1,zj,(⟨So,hno1⟩),(zI hi)⟩)):p:=h
def ZT(h:p:=by show(rw dd y).length-(j+1)<(rw dd y).length-j;omega):p:=h
def ZU(h:p:=by exact aE (fun a w hi=>⟨k+1,zj,(⟨So,hy1⟩),(zI hi)⟩)):p:=h
def ZV(h:p:=by rw[Int.natAbs_tmod];exact Nat.mod_lt _ cy):p:=h
def ZW(h:p:=by rw[Nat.zero_add];exact List.getElem?_eq_getElem hx):p:=h
def ZX(h:p:=by unfold ckA;rw[if_neg Ji,if_pos h4]):p:=h
def ZY(h:p:=by rw[←hX];exact(List.getElem?_eq_some_iff.1 hix).1):p:=h
def ZZ(h:p:=by rw[←hcl];exact(List.getElem?_eq_some_iff.1 hj).1):p:=h
def Z1(h:p:=by show t.2.2.2.length-(k+1)<t.2.2.2.length-k;omega):p:=h
def Z2(h:p:=by unfold fW;rw[if_neg zo,if_neg (by simp[ck,hpx])]):p:=h
def aaa(h:p:=by first|omega|(simp at hg;omega)|(simp_all;omega)):p:=h
def aab(h:p:=by rw[List.getElem?_set_self (by simpa using hxl)]):p:=h
def aac(h:p:=by rw[hi0]at hi1;injection hi1 with h;exact h.symm):p:=h
def aad(h:p:=by rw[show rt.mp=false from NM.no]at hm';cases hm'):p:=h
def aae(h:p:=by simp[List.getElem?_eq_getElem h16]at h19;omega):p:=h
def aaf(h:p:=by simp[List.getElem?_eq_getElem h6b]at h10;omega):p:=h
def aag(h:p:=by simp[List.getElem?_eq_getElem h6b]at h12;omega):p:=h
def aah(h:p:=by simp[execOp,Instr.loadAt,h2,Instr.sureAddr,h7]):p:=h
def aai(h:p:=by unfold iK;rw[List.getElem?_map,hx];simp[At,hj]):p:=h
def aaj(h:p:=by rw[show r2.mp=false from NM.no]at hm;cases hm):p:=h
def aak(h:p:=by rw[show rt.mp=false from NM.no]at hm;cases hm):p:=h
def aal(h:p:=by simp only[decide_eq_false_iff_not]at h4;omega):p:=h
def aam(h:p:=by simp only[decide_eq_false_iff_not]at h5;omega):p:=h
def aan(h:p:=by simp only[decide_eq_false_iff_not]at h7;omega):p:=h
def aao(h:p:=by rw[Array.getElem?_append_left Sp];rfl):p:=h
def aap(h:p:=by rw[g.2.2.2.2];exact List.mem_singleton.2 rfl):p:=h
def aaq(h:p:=by simp[List.getElem?_eq_getElem h6]at h8;omega):p:=h
def aar(h:p:=by simp only[f];rw[if_neg So];exact z3):p:=h
def aas(h:p:=by simpa[List.getElem?_eq_getElem h6]using h11):p:=h
def aat(h:p:=by exact .inr (.inl (Nat.le_trans hi.below.size z))):p:=h
def Nt(h:p:=by show code.length-(x+1)<code.length-x;omega):p:=h
def aav(h:p:=by show(p6 _ _ _ _).length≤_;rw[rj];exact hcl):p:=h
def aaw(h:p:=by simp only[List.size_toArray]at h2;simp[h2]):p:=h
def aax(h:p:=by unfold M7 at h;rw[if_pos rfl]at h;exact h):p:=h
def aay(h:p:=by unfold DV;rw[hF];simp only;rw[if_pos h30]):p:=h
def aaz(h:p:=by first|rfl|(unfold fD;rfl)|(simp[fD];done)):p:=h
def aaA(h:p:=by have:=congrArg (·[0]?) e;simpa using this):p:=h
def aaB(h:p:=by rw[hrr];exact bB rfl (bB rfl (bB rfl dZ))):p:=h
def aaC(h:p:=by simpa[putRow,mapBlock,Sort.ahead]using hb):p:=h
def aaD(h:p:=by rw[List.drop_zero,List.take_length];rfl):p:=h
def uW(h:p:=by (try simp only[List.length_set]);omega):p:=h
def aaF(h:p:=by rw[getD_replicate_false]at hl;cases hl):p:=h
def aaG(h:p:=by rw[q2];exact List.mem_singleton.2 rfl):p:=h
def aaH(h:p:=by first|rfl|(rw[Bool.eq_iff_iff];simp)):p:=h
def aaI(h:p:=by rw[List.getElem?_eq_getElem h4];rfl):p:=h
def aaJ(h:p:=by exact aE (fun a w hi=>⟨k+1,zj,zo,zW hi⟩)):p:=h
def aaK(h:p:=by rintro rfl;rw[hfree]at hk;cases hk):p:=h
def Fw(h:p:=by simp[Op.operands,Call.operands,hx]):p:=h
def Fj(h:p:=by unfold maxLen;(try simp);try omega):p:=h
def aaN(h:p:=by have hv:v=u:=hv;subst hv;exact ht):p:=h
def aaO(h:p:=by exact absurd ⟨q,by simp[fd];omega⟩ c4):p:=h
def ug(h:p:=by simp[Op.operands,Call.operands]):p:=h
def aaQ(h:p:=by first|omega|(dsimp only;omega)):p:=h
def aaR(h:p:=by rw[aeC,Nat.zero_add];exact iY _):p:=h
def aaS(h:p:=by rw[List.getElem?_map,hget];rfl):p:=h
def aaT(h:p:=by unfold maxLen;dsimp only;omega):p:=h
def aaU(h:p:=by have h:=h30;simp at h;exact h):p:=h
def aaV(h:p:=by simp[execOp,h1,Instr.extract]):p:=h
def aaW(h:p:=by first|omega|(simp;try omega)):p:=h
def GF(h:p:=by rw[Nat.zero_add];exact hget):p:=h
def aaY(h:p:=by rw[hsel];exact fun q=>q rfl):p:=h
def DO(h:p:=by rw[hvl];exact Nat.le_refl _):p:=h
def aa0(h:p:=by simp only[];split<;>omega):p:=h
def aa1(h:p:=by have:=pJ his hunf;omega):p:=h
def aa2(h:p:=by rw[hst]at hN1;exact hN1):p:=h
def aa3(h:p:=by rw[hst]at hW1;exact hW1):p:=h
def aa4(h:p:=by unfold bO at hjj;omega):p:=h
def QB(h:p:=by show _-(k+1)<_-k;omega):p:=h
def aa6(h:p:=by show _-(q+1)<_-q;omega):p:=h
def aa7(h:p:=by simp at h1;simp[h2,h1]):p:=h
def aa8(h:p:=by simp[Region.wanted,hg]):p:=h
def aa9(h:p:=by simp[h,Value.oneCell']):p:=h
def aba(h:p:=by simp[Oj, *];try omega):p:=h
def abb(h:p:=by rw[hx,if_pos hne];rfl):p:=h
def abc(h:p:=by rw[←fP his];exact hun):p:=h
def abd(h:p:=by simp at hr;exact hr.1):p:=h
def abe(h:p:=by simp[execOp,h2,kI hf]):p:=h
def abf(h:p:=by simp[fH, *];try omega):p:=h
def abg(h:p:=by simp[pU, *];try omega):p:=h
def MD(h:p:=by exact absurd h cy):p:=h
def abi(h:p:=by have:=this.2.1;omega):p:=h
def abj(h:p:=by rw[h.size];exact hi'):p:=h
def abk(h:p:=by rw[hh]at hk;exact hk):p:=h
def abl(h:p:=by simp only[hset];simp):p:=h
def abm(h:p:=by subst e;simp at this):p:=h
def abn(h:p:=by unfold MT;kernel_rfl):p:=h
def abo(h:p:=by intro x hx;cases hx):p:=h
def L0(h:p:=by simp[Region.wanted]):p:=h
def abq(h:p:=by subst e;simp at hne):p:=h
def Kw(h:p:=by unfold maxLen;omega):p:=h
def O8(h:p:=by exact absurd h Sp):p:=h
def abu(h:p:=by have:=this.1;omega):p:=h
def abv(h:p:=by rw[hab];simp;omega):p:=h
def abw(h:p:=by rw[hr]at e;cases e):p:=h
def abx(h:p:=by rw[hL.size];omega):p:=h
def aby(h:p:=by rw[←h4];exact hno):p:=h
def Re(h:p:=by simp at h10;omega):p:=h
def abA(h:p:=by simp at h13;omega):p:=h
def abB(h:p:=by simp at h15;omega):p:=h
def KN(h:p:=by simp at h17;omega):p:=h
def abD(h:p:=by simp at h20;omega):p:=h
def abE(h:p:=by simp at h22;omega):p:=h
def abF(h:p:=by simp at h;simp[h]):p:=h
def abG(h:p:=by simp[hm,hl];omega):p:=h
def Em(h:p:=by show k+1≤_;omega):p:=h
def CY(h:p:=by simp at h1;omega):p:=h
def MX(h:p:=by simp at h2;omega):p:=h
def E4(h:p:=by simp at h3;omega):p:=h
def Kb(h:p:=by simp at h4;omega):p:=h
def Ob(h:p:=by simp at h5;omega):p:=h
def Si(h:p:=by simp at h6;omega):p:=h
def Od(h:p:=by simp at h7;omega):p:=h
def abP(h:p:=by simp at h8;omega):p:=h
def NG(h:p:=by simp at h9;omega):p:=h
def Ss(h:p:=by simp[SV.free,hn]):p:=h
def Nn(h:p:=by simpa using hlen):p:=h
def NF(h:p:=by unfold bO;omega):p:=h
def Qk(h:p:=by simpa using h10):p:=h
def NW(h:p:=by simpa using h11):p:=h
def P9(h:p:=by simpa using h12):p:=h
def NE(h:p:=by simpa using h13):p:=h
def HK(h:p:=by simpa using h14):p:=h
def LQ(h:p:=by simpa using h15):p:=h
def M9(h:p:=by simpa using h16):p:=h
def Gt(h:p:=by simpa using h17):p:=h
def E2(h:p:=by simpa using h18):p:=h
def ab3(h:p:=by simpa using h19):p:=h
def LE(h:p:=by simpa using h20):p:=h
def QX(h:p:=by simpa using h21):p:=h
def JD(h:p:=by simpa using h23):p:=h
def ab7(h:p:=by simpa using h24):p:=h
def Ew(h:p:=by simpa using h25):p:=h
def Eu(h:p:=by simpa using h27):p:=h
def aca(h:p:=by simpa using h29):p:=h
def QQ(h:p:=by simpa using hdn):p:=h
def acd(h:p:=by unfold gP;omega):p:=h
def Of(h:p:=by rw[g.2.2];simp):p:=h
def acf(h:p:=by rw[h10];decide):p:=h
def JM(h:p:=by rw[h11];decide):p:=h
def Oz(h:p:=by rw[h12];decide):p:=h
def aci(h:p:=by rw[h23];decide):p:=h
def Av(h:p:=by simpa using h3):p:=h
def Yo(h:p:=by simpa using h4):p:=h
def E3(h:p:=by simpa using h5):p:=h
def O3(h:p:=by simpa using h6):p:=h
def fQ(h:p:=by simpa using h7):p:=h
def Qb(h:p:=by simpa using h8):p:=h
def Qz(h:p:=by simpa using h9):p:=h
def Dq(h:p:=by simpa using hi):p:=h
def JP(h:p:=by simpa using hj):p:=h
def Og(h:p:=by simpa using hk):p:=h
def acu(h:p:=by simpa using hr):p:=h
def acv(h:p:=by rw[c1,ha];rfl):p:=h
def Oy(h:p:=by rw[h3];decide):p:=h
def OX(h:p:=by rw[h4];decide):p:=h
def FH(h:p:=by rw[h6];decide):p:=h
def acz(h:p:=by rw[h8];decide):p:=h
def Gp(h:p:=by rw[h9];decide):p:=h
def acB(h:p:=by rw[hE];decide):p:=h
def acC(h:p:=by rw[hcut];simp):p:=h
def acD(h:p:=by rw[hkb];omega):p:=h
def KH(h:p:=by rw[hvl];omega):p:=h
def KP(h:p:=by simp[aG]at hh):p:=h
def Ff(h:p:=by simpa using c):p:=h
def Lm(h:p:=by simpa using e):p:=h
def acI(h:p:=by simpa using q):p:=h
def uD(h:p:=by rw[lV];omega):p:=h
def acK(h:p:=by rw[nQ];omega):p:=h
def acL(h:p:=by rw[pL];omega):p:=h
def P5(h:p:=by simp[aG]at q):p:=h
def acN(h:p:=by simp[execOp]):p:=h
def Mc(h:p:=by subst h;rfl):p:=h
def Kz(h:p:=by simp[h1]):p:=h
def acQ(h:p:=by simp[hj]):p:=h
def K8(h:p:=by simp[hx]):p:=h
def O2(h:p:=by simp[hy]):p:=h
def GE(h:p:=by rw[hx]):p:=h
def acU(h:p:=by subst_vars;first|rfl|(simp[cp,bD];done)|(simp[cp,bD, *];done)|(unfold cp;(repeat' split)<;>first|rfl|omega|(simp_all;done)|(simp_all;omega)|(simp_all [bD];done)|(simp_all [bD];omega))):p:=h
def acV(h:p:=by unfold eL;(repeat' first|rw[if_pos mE]|rw[if_neg mE])):p:=h
def K5(h:p:=by unfold cn;first|(simp[*];done)|((repeat' split)<;>first|rfl|omega|(simp_all;done)|(simp_all;omega))):p:=h
def Lg(h:p:=by first|(exfalso;simp at hg;done)|exact List.length_pos_iff.2 (by intro q;simp[q]at hg)):p:=h
def KG(h:p:=by first|rfl|(simp;done)|assumption|(refine congrArg (HB.mk rHd) ?_;simp;done)):p:=h
def acZ(h:p:=by simp only[List.drop_zero,List.take_of_length_le (Nat.le_refl _)]):p:=h
def J6(h:p:=by simp only[List.length_cons,List.length_nil];omega):p:=h
def Cj(h:p:=by repeat(first|exact .nil|refine .cons rfl ?_)):p:=h
def ac2(h:p:=by rw[List.drop_zero,List.take_length]):p:=h
def yC(h:p:=by first|(rw[hrr];done)|(rw[hrr];rfl)):p:=h
def PJ(h:p:=by (try simp);try omega):p:=h
def ac5(h:p:=by simp only[];omega):p:=h
def aT(h:p:=by simp[Op.operands]):p:=h
def ac7(h:p:=by dsimp only;omega):p:=h
def PA(h:p:=by simp at hg;omega):p:=h
def LF(h:p:=by simpa using h1):p:=h
def J3(h:p:=by simpa using h2):p:=h
def PX(h:p:=by simpa using hd):p:=h
def FM(h:p:=by simpa using hl):p:=h
def ade(h:p:=by simpa using hx):p:=h
def M5(h:p:=by rw[h1];decide):p:=h
def Ji(h:p:=by rw[h2];decide):p:=h
def adh(h:p:=by rw[h5];decide):p:=h
def Pa(h:p:=by simp[SV.free]):p:=h
def Jz(h:p:=by split<;>omega):p:=h
def adl(h:p:=by rw[hab];simp):p:=h
def JB(h:p:=by rw[h3];simp):p:=h
def f8(h:p:=by kernel_rfl):p:=h
def QE(h:p:=by simp;omega):p:=h
def LD(h:p:=by cases h):p:=h
def Ph(h:p:=by simp[h]):p:=h
def mE(h:p:=by first|assumption|omega):p:=h
def ads(h:p:=by simp only;omega):p:=h
def PW(h:p:=by simpa using h):p:=h
def ob(h:p:=by simp at h):p:=h
def cy(h:p:=by decide):p:=h
def So(h:p:=by omega):p:=h
def Sp(h:p:=by simp):p:=h
structure Below(B:Nat)(w w':World):Prop where
 os:w'.os=w.os
 tape:w'.tape=w.tape
 output:w'.output=w.output
 size:w.heap.size≤w'.heap.size
 block:∀k,k<B→w'.heap[k]?=w.heap[k]?
 drawn:w.drawn≤w'.drawn
structure BelowX(ex:Nat→Prop)(B:Nat)(w w':World):Prop where
 os:w'.os=w.os
 tape:w'.tape=w.tape
 output:w'.output=w.output
 size:w.heap.size≤w'.heap.size
 blockX:∀k,k<B→¬ex k→w'.heap[k]?=w.heap[k]?
 drawn:w.drawn≤w'.drawn
def BelowX.plain(h:BelowX ex B w w')(hx:∀k,¬ex k):Below B w w':=⟨h.os,h.tape,h.output,h.size,fun k hk=>h.blockX k hk (hx k),h.drawn⟩
def Below.toX(h:Below B w w'):BelowX ex B w w':=⟨h.os,h.tape,h.output,h.size,fun k hk _=>h.block k hk,h.drawn⟩
def BelowX.trans{a b c:World}(h:BelowX ex B a b)(k:Below B b c):BelowX ex B a c:=
 ⟨k.os.trans h.os,k.tape.trans h.tape,k.output.trans h.output,Nat.le_trans h.size k.size,fun i hi hx=>(k.block i hi).trans (h.blockX i hi hx),Nat.le_trans h.drawn k.drawn⟩
def Below.kit(h:Below B w w'):Go.RowKit.Below B w w':=⟨h.os,h.tape,h.output,h.size,h.block⟩
def Below.refl(B:Nat)(w:World):Below B w w:=⟨rfl,rfl,rfl,Nat.le_refl _,fun _ _=>rfl,Nat.le_refl _⟩
def Below.trans{a b c:World}(h:Below B a b)(k:Below B b c):Below B a c:=
 ⟨k.os.trans h.os,k.tape.trans h.tape,k.output.trans h.output,Nat.le_trans h.size k.size,fun i hi=>(k.block i hi).trans (h.block i hi),Nat.le_trans h.drawn k.drawn⟩
def Below.mono{B':Nat}(h:Below B w w')(hB:B'≤B):Below B' w w':=⟨h.os,h.tape,h.output,h.size,fun k hk=>h.block k (Nat.lt_of_lt_of_le hk hB),h.drawn⟩
def Below.drew{a:World}(h:Below B a w):Below B a w.drew:=⟨h.os,h.tape,h.output,h.size,h.block,Nat.le_succ_of_le h.drawn⟩
def Below.alloc{a:World}(h:Below B a w)(hB:B≤w.heap.size)(o:Obj):Below B a (w.alloc o):=
 h.trans ⟨rfl,rfl,rfl,Sp,fun k hk=>Go.RowKit.Below.heap_alloc _ _ _ So,Nat.le_refl _⟩
abbrev Ok:=Nat→Prop
variable{ok:Ok}
structure RT(α:Type)where
 n:Nat
 agg:Bool
 raw:α→Option Value
 rep:World→Ok→List Value→α→Prop
 len:∀{w ok cs d},rep w ok cs d→cs.length=n
 one:∀{w ok cs d},rep w ok cs d→∀v∈cs,v.oneCell'=true
 keep:∀{w w':World} {ok ok':Ok} {cs d},(∀b,ok b→ok' b∧w'.heap[b]?=w.heap[b]?)→rep w ok cs d→rep w' ok' cs d
 scal:agg=false→n=1
 exact_:∀{w ok cs d v},raw d=some v→rep w ok cs d→cs=[v]∧agg=false
 exact':∀{w ok d v},raw d=some v→rep w ok [v] d
 mp:Bool:=false
 mrep:Obj→α→Prop:=fun _ _=>False
variable{c:RT γ}
class NM {α:Type} (rt:RT α):Prop where
 no:rt.mp=false
section
variable{α β:Type}
def RT.val(rt:RT α)(w:World)(ok:Ok)(v:Value)(d:α):Prop:=
 ∃cs,rt.rep w ok cs d∧v=(if rt.agg then .agg cs.toArray else cs.getD 0 undef)
def CellsAt(w:World)(b o:Nat)(cs:List Value):Prop:=∀j v,cs[j]?=some v→w.cell? ⟨b,o+j,none⟩=some v
def vaZ{b:Nat}(h:w'.heap[b]?=w.heap[b]?)(o:Nat):w'.cell? ⟨b,o,none⟩=w.cell? ⟨b,o,none⟩:=
 World.cell?_of_block (w:=w) (a:=⟨b,o,none⟩) h
def CellsAt.keep{b o:Nat}{cs:List Value}(h:w'.heap[b]?=w.heap[b]?)(hc:CellsAt w b o cs):CellsAt w' b o cs:=
 fun j v hj=>(vaZ h _).trans (hc j v hj)
def RT.val_keep(rt:RT α){ok':Ok}{d:α}(h:∀b,ok b→ok' b∧w'.heap[b]?=w.heap[b]?)(hv:rt.val w ok v d):rt.val w' ok' v d:=
 let⟨cs,h1,h2⟩:=hv;⟨cs,rt.keep h h1,h2⟩
def RT.val_cells(rt:RT α){d:α}(hv:rt.val w ok v d):rt.rep w ok v.cells.toList d:=by
 obtain⟨cs,h1,rfl⟩:=hv;cases ha:rt.agg with
 | true=>simpa[Value.cells]using h1
 | false=>
  have hl:=rt.len h1;rw[rt.scal ha]at hl;match cs,hl with
  | [c],_=>
   have ho:=rt.one h1 c Sp;have:(c.cells).toList=[c]:=by cases c<;>first|rfl|simp[Value.oneCell']at ho
   simpa[this]using h1
def RT.val_raw(rt:RT α){u:Value}{d:α}(hu:rt.raw d=some u)(hv:rt.val w ok v d):v=u:=by obtain⟨cs,h1,rfl⟩:=hv;obtain⟨rfl,ha⟩:=rt.exact_ hu h1;simp[ha]
def ay(k:IntKind):RT Int where
 n:=1
 agg:=false
 raw d:=some (.int k d)
 rep _ _ cs d:=cs=[.int k d]
 len h:=Ph
 one h:=aa9
 keep _ h:=h
 scal _:=rfl
 exact_ h1 h2:=aa7
 exact' h:=abF
def cq:RT Bool where
 n:=1
 agg:=false
 raw d:=some (.bool d)
 rep _ _ cs d:=cs=[.bool d]
 len h:=Ph
 one h:=aa9
 keep _ h:=h
 scal _:=rfl
 exact_ h1 h2:=aa7
 exact' h:=abF
def e6(l:List UInt8):Value:=.string ⟨l.toArray⟩
def du:RT (List UInt8) where
 n:=1
 agg:=false
 raw d:=some (e6 d)
 rep _ _ cs d:=cs=[e6 d]
 len h:=Ph
 one h:=by simp[h,Value.oneCell',e6]
 keep _ h:=h
 scal _:=rfl
 exact_ h1 h2:=aa7
 exact' h:=abF
def bF(a:RT α)(b:RT β):RT (α×β) where
 n:=a.n+b.n
 agg:=true
 raw _:=none
 rep w ok cs d:=∃c1 c2,cs=c1++c2∧a.rep w ok c1 d.1∧b.rep w ok c2 d.2
 len:=by rintro w ok cs d ⟨c1,c2,rfl,h1,h2⟩;simp[a.len h1,b.len h2]
 one:=by
  rintro w ok cs d ⟨c1,c2,rfl,h1,h2⟩ v hv
  rcases List.mem_append.1 hv with h|h
  ·exact a.one h1 v h
  exact b.one h2 v h
 keep:=by rintro w w' ok ok' cs d h ⟨c1,c2,rfl,h1,h2⟩;exact⟨c1,c2,rfl,a.keep h h1,b.keep h h2⟩
 scal h:=ob
 exact_ h:=ob
 exact' h:=ob
def Py(a:RT α):RT α where
 n:=a.n
 agg:=true
 raw _:=none
 rep:=a.rep
 len:=a.len
 one:=a.one
 keep:=a.keep
 scal h:=ob
 exact_ h:=ob
 exact' h:=ob
def SliceRep(e:RT α)(w:World)(ok:Ok)(A:Option Addr)(xs:List α):Prop:=
 xs≠[]→∃b o,A=some ⟨b,o,none⟩∧ok b∧∀i x,xs[i]?=some x→∃cs,e.rep w ok cs x∧CellsAt w b (o+i*e.n) cs
def SliceRep.keep{e:RT α}{ok':Ok}{A:Option Addr}{xs:List α}(h:∀b,ok b→ok' b∧w'.heap[b]?=w.heap[b]?)(hs:SliceRep e w ok A xs):SliceRep e w' ok' A xs:=fun hne=>
 let⟨b,o,hA,hb,hc⟩:=hs hne
 ⟨b,o,hA,(h b hb).1,fun i x hi=>let⟨cs,h1,h2⟩:=hc i x hi;⟨cs,e.keep h h1,h2.keep (h b hb).2⟩⟩
def ag(e:RT α):RT (List α) where
 n:=1
 agg:=false
 raw _:=none
 rep w ok cs xs:=∃A cap,cs=[.slice A xs.length cap]∧xs.length≤cap∧cap≤maxLen∧SliceRep e w ok A xs
 len:=by rintro w ok cs d ⟨A,cap,rfl,_⟩;rfl
 one:=by rintro w ok cs d ⟨A,cap,rfl,_⟩ v hv;simp at hv;simp[hv,Value.oneCell']
 keep:=by rintro w w' ok ok' cs d h ⟨A,cap,rfl,h1,h2,h3⟩;exact⟨A,cap,rfl,h1,h2,h3.keep h⟩
 scal _:=rfl
 exact_ h:=ob
 exact' h:=ob
instance{k:IntKind}:NM (ay k):=⟨rfl⟩
instance:NM cq:=⟨rfl⟩
instance:NM du:=⟨rfl⟩
instance{a:RT α}{b:RT β}:NM (bF a b):=⟨rfl⟩
instance{a:RT α}:NM (Py a):=⟨rfl⟩
instance{a:RT α}:NM (ag a):=⟨rfl⟩
structure Lens{α:Type}(rt:RT α)(off:Nat)(rt':RT γ)(get:α→γ)(set:α→γ→α):Prop where
 fits:off+rt'.n≤rt.n
 get_:∀{w ok cs d},rt.rep w ok cs d→rt'.rep w ok ((cs.drop off).take rt'.n) (get d)
 set_:∀{w ok cs d cs' d'},rt.rep w ok cs d→rt'.rep w ok cs' d'→rt.rep w ok (cs.take off++cs'++cs.drop (off+rt'.n)) (set d d')
def Lens.id(rt:RT α):Lens rt 0 rt (fun d=>d) (fun _ d=>d) where
 fits:=Sp
 get_ h:=by have:=rt.len h;simpa[List.take_of_length_le (Nat.le_of_eq this)]using h
 set_ h h':=by have:=rt.len h;simpa[List.drop_of_length_le (Nat.le_of_eq this)]using h'
def Lens.one{a:RT α}{get:α→γ}{set:α→γ→α}(l:Lens a off c get set):Lens (Py a) off c get set where
 fits:=l.fits
 get_ h:=l.get_ (rt:=a) h
 set_ h h':=l.set_ (rt:=a) h h'
def Lens.fst{a:RT α}{b:RT β}{get:α→γ}{set:α→γ→α}(l:Lens a off c get set):
 Lens (bF a b) off c (fun d=>get d.1) (fun d x=>(set d.1 x,d.2)) where
 fits:=by have:=l.fits;simp only[bF];omega
 get_:=by
  rintro w ok cs d ⟨c1,c2,rfl,h1,h2⟩
  have hl:=a.len h1
  have hf:=l.fits
  have:=l.get_ h1
  rw[List.drop_append_of_le_length So,List.take_append_of_le_length QE]
  exact this
 set_:=by
  rintro w ok cs d cs' d' ⟨c1,c2,rfl,h1,h2⟩ h'
  have hl:=a.len h1
  have hf:=l.fits
  refine⟨c1.take off++cs'++c1.drop (off+c.n),c2,?_,l.set_ h1 h',h2⟩
  rw[List.take_append_of_le_length So,List.drop_append_of_le_length So]
  simp
def Lens.snd{a:RT α}{b:RT β}{o':Nat}{get:β→γ}{set:β→γ→β}(l:Lens b off c get set)(ho:o'=a.n+off):
 Lens (bF a b) o' c (fun d=>get d.2) (fun d x=>(d.1,set d.2 x)) where
 fits:=by have:=l.fits;simp only[bF];omega
 get_:=by
  subst ho
  rintro w ok cs d ⟨c1,c2,rfl,h1,h2⟩
  have hl:=a.len h1
  have:=l.get_ h2
  rw[List.drop_append,List.drop_of_length_le So,List.nil_append,show a.n+off-c1.length=off by omega]
  exact this
 set_:=by
  subst ho
  rintro w ok cs d cs' d' ⟨c1,c2,rfl,h1,h2⟩ h'
  have hl:=a.len h1
  refine⟨c1,c2.take off++cs'++c2.drop (off+c.n),?_,h1,l.set_ h2 h'⟩
  rw[List.take_append,List.drop_append,List.take_of_length_le So,List.drop_of_length_le So,show a.n+off-c1.length=off by omega,show a.n+off+c.n-c1.length=off+c.n by omega]
  simp
end
end Go.Eng
