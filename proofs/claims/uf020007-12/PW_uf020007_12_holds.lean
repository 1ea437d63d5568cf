import PyProof.Rows.All
import Wide.All
import OpenK.AllK
import Wide.FinOn
import Open.Row
import PyProof.Fits
import PyProof.SameEqv
import PyProof.Rows.InDataRows
import PyProof.TupleOfSeq
import PyProof.ListCopy
import PyProof.Rows.TupMore
import KE.KRevIter
import PyProof.ListRange
import PyProof.Rows.Range3
import PyProof.CompFree
import PyProof.CompUse
import PyProof.FitsBits
import PySem.Challenge.RW_uf020007_12
set_option Elab.async false
set_option autoImplicit false
set_option linter.all false
set_option maxHeartbeats 8000000
set_option maxRecDepth 100000
namespace Mine
def GO:=@List.length_map
def GP:=@Nat.le_trans
def GQ:=@Lean.Grind.Semiring.pow_succ
def GR:=@List.length_append
def GS:=@PySem.wpAny_bind
def GT:=@Lean.Grind.Semiring.pow_zero
def GU:=@Nat.le_refl
def GW:=@List.mem_cons_self
def GX:=@List.getElem?_eq_some_iff
def GY:=@Int.ne_of_gt
def GZ:=@Bool.false_ne_true
def G0:=@List.append_assoc
def G1:=@List.map_cons
def G2:=@List.getElem?_eq_getElem
def G3:=@List.mem_cons_of_mem
def G4:=@Std.le_of_lt
def G5:=@Option.some.inj
def G6:=@PySem.wpAny_pure
def G7:=@List.getD_eq_getElem?_getD
def G8:=@List.length_singleton
def G9:=@List.map_append
def Ha:=@Std.le_refl
def Hb:=@Int.mul_pos
def Hc:=@Nat.add_mul
def Hd:=@List.mem_of_getLast?
def He:=@List.mem_singleton
def Hf:=@List.mem_cons
def Hg:=@List.getElem?_append_left
def Hh:=@Int.mul_zero
def Hi:=@PySem.Heap.get?_push_size
def Hj:=@List.getElem?_map
def Hk:=@List.getElem?_append_right
def Hl:=@Nat.zero_le
def Hn:=@Int.le_of_lt
def Ho:=@Int.pow_pos
def Hq:=@List.mem_map
def Hr:=@Int.pow_succ
def Hs:=@Int.one_mul
def Ht:=@List.size_toArray
def Hu:=@Nat.mul_le_mul_left
def Hv:=@Int.add_zero
def Hw:=@List.map_map
def Hx:=@Nat.lt_of_le_of_lt
def Hy:=@List.mem_append
def Hz:=@List.length_reverse
def HA:=@List.length_pos_iff
def HB:=@Rat.le_of_lt
def HC:=@Int.neg_mul
def HD:=@Classical.byContradiction
def HE:=@List.lookup_cons
def HF:=@Int.mul_ne_zero
def HG:=@Int.zero_add
def HH:=@Int.pow_zero
def HI:=@List.eq_nil_of_length_eq_zero
def HJ:=@Int.mul_assoc
def HK:=@Bool.and_eq_true_iff
def HL:=@Nat.pow_le_pow_right
def HM:=@Nat.mul_le_mul_right
def HN:=@Nat.le_mul_of_pos_right
def HO:=@Int.zero_mul
def HP:=@Nat.mul_le_mul
def HQ:=@Int.natCast_mul
def HS:=@Int.mul_comm
def HT:=@Nat.le_of_succ_le
def HU:=@Int.natAbs_mul
def HV:=@Rat.mul_nonneg
def HW:=@Int.natCast_nonneg
def HX:=@List.getLast?_cons_cons
def HY:=@Int.le_trans
def HZ:=@Nat.le_of_eq
def H6:=@Bool.and_eq_true
def H7:=@Int.mul_one
def H8:=@List.mem_of_getElem?
def H9:=@List.length_range'
def Ia:=@Nat.lt_succ_self
def Ib:=@Nat.add_sub_cancel_left
def Ic:=@Lean.Grind.OrderedRing.zero_lt_one
def Id:=@Nat.add_comm
def Ie:=@Nat.zero_add
def Ig:=@Nat.add_assoc
def Ih:=@Nat.add_le_add_left
def Ii:=@Option.some_ne_none
def Ij:=@Nat.le_succ
def Ik:=@Nat.exists_eq_add_of_le
def Il:=@Int.ofNat_le
def Im:=@Int.fmod_nonneg_of_pos
def Io:=@Nat.le_add_right
def Ip:=@Nat.le_of_succ_le_succ
def Iq:=@List.getLast?_eq_getElem?
def Ir:=@Int.fdiv_mul_cancel
def It:=@decide_eq_true_eq
def Iu:=@Int.natAbs_dvd_natAbs
def Iv:=@Int.not_lt
def Iw:=@List.cons_ne_nil
def Ix:=@Nat.succ.inj
def Iy:=@PySem.Heap.get?_push_of_some
def Iz:=@Int.toNat_natCast
def IA:=@List.getLast?_map
def IB:=@Nat.le_of_lt_succ
def IC:=@PySem.Heap.SameBut.update
def ID:=@List.map_congr_left
def IE:=@Int.eq_of_mul_eq_mul_left
def IF:=@Int.natCast_pow
def IG:=@PySem.wpAny_ite_split
def IH:=@Nat.succ_le_succ
def II:=@Bool.false_eq_true
def IJ:=@Int.fmod_lt_of_pos
def IK:=@Int.natAbs_natCast
def IL:=@Int.mul_right_comm
def IM:=@Int.not_le
def IN:=@Std.not_lt
def IO:=@List.reverse_cons
def IP:=@Int.mul_nonneg_of_nonpos_of_nonpos
def IQ:=@List.pairwise_map
def IR:=@Int.natCast_pos
def IS:=@Nat.pow_le_pow_left
def IT:=@Option.map_eq_some_iff
def IU:=@PySem.Heap.lt_size
def IV:=@Nat.ne_of_lt
def IW:=@Nat.pow_add
def IX:=@Nat.succ_mul
def IY:=@Nat.mul_comm
def IZ:=@Int.pow_add
def I0:=@Lean.Grind.CommSemiring.mul_comm
def I1:=@PySem.Heap.get?_update_self
def I2:=@List.pairwise_cons
def I3:=@Nat.add_sub_add_right
def I4:=@PySem.builtinLookup_eq_fast
def I5:=@Lean.Grind.CommSemiring.mul_pow
def I6:=@PySem.wpAny_of_eq
def I7:=@List.mem_append_left
def I8:=@Nat.pow_succ
def I9:=@Nat.two_pow_pos
def Ja:=@Nat.succ_pos
def Jb:=@List.length_range
def Jc:=@Lean.Grind.Semiring.mul_assoc
def Jd:=@List.getD_cons_zero
def Je:=@Nat.min_eq_right
def Jf:=@Int.natAbs_pos
def Jg:=@Int.gcd_pos_of_ne_zero_right
def Jh:=@Nat.lt_of_succ_lt_succ
def Ji:=@Nat.le_of_lt
def Jj:=@Int.lt_or_gt_of_ne
def Jk:=@Nat.lt_or_eq_of_le
def Jl:=@Nat.min_eq_left
def Jm:=@Nat.min_le_left
def Jn:=@Nat.le_add_left
def Jo:=@List.lookup_cons_self
def Jp:=@List.eq_nil_or_concat
def Jq:=@List.concat_eq_append
def Jr:=@Int.add_assoc
def Js:=@PySem.wpAny_holding
def Jt:=@PySem.wpAny_assign_Name
def Ju:=@List.getElem?_set_ne
def Jv:=@List.getLast?_append
def Jw:=@List.getLast?_eq_some_iff
def Jx:=@Std.not_le
def Jy:=@List.mem_range
def Jz:=@Nat.le_total
def JA:=@List.length_take
def JB:=@List.prefix_refl
def JC:=@List.getD_cons_succ
def JD:=@Option.bind_eq_some_iff
def JE:=@Nat.sub_add_cancel
def JF:=@Nat.lt_of_lt_of_le
def JG:=@List.mem_filter
def JH:=@Nat.add_right_comm
def JI:=@PySem.typeLookup_type
def JJ:=@Int.le_refl
def JK:=@List.range_succ_eq_map
def JL:=@Int.mul_le_mul_of_nonneg_left
def JM:=@PySem.wpAny_newObj_type
def JN:=@Quotient.sound
def JO:=@List.set_append_right
def JP:=@PySem.isSubtype_type
def JQ:=@List.all_eq_true
def JR:=@Nat.min_le_right
def JS:=@Nat.succ_ne_zero
def JT:=@List.range'_succ
def JU:=@Nat.lt_of_not_le
def JV:=@beq_self_eq_true
def JW:=@Nat.le_zero
def JX:=@PySem.mem_of_lookup
def JY:=@List.reverse_append
def JZ:=@List.filter_sublist
def J1:=@List.nodup_cons
def J2:=@Nat.not_lt_zero
theorem lc{p0 p1 p2:Prop}{G:Prop}(h:p0/\p1/\p2)(k:p0->p1->p2->G):G:=k h.1 h.2.1 h.2.2
theorem ae{A:Sort _}{p0 p1:A->Prop}{G:Prop}(h:∃x,p0 x/\p1 x)(k:∀x,p0 x->p1 x->G):G:=h.elim fun x h1=>k x h1.1 h1.2
theorem yK{A B:Sort _}{p0:A->B->Prop}{G:Prop}(h:∃x y,p0 x y)(k:∀x y,p0 x y->G):G:=h.elim fun x h1=>h1.elim fun y h2=>k x y h2
theorem g7{p0 p1 p2 p3:Prop}{G:Prop}(h:p0/\p1/\p2/\p3)(k:p0->p1->p2->p3->G):G:=k h.1 h.2.1 h.2.2.1 h.2.2.2
theorem qP{A:Sort _}{p0:Prop}{p1 p2:A->Prop}{G:Prop}(h:p0/\∃x,p1 x/\p2 x)(k:p0->∀x,p1 x->p2 x->G):G:=h.2.elim fun x h1=>k h.1 x h1.1 h1.2
theorem cr{A:Sort _}{p0 p1 p2:A->Prop}{G:Prop}(h:∃x,p0 x/\p1 x/\p2 x)(k:∀x,p0 x->p1 x->p2 x->G):G:=h.elim fun x h1=>k x h1.1 h1.2.1 h1.2.2
theorem cR{A B:Sort _}{p0 p1:A->B->Prop}{G:Prop}(h:∃x y,p0 x y/\p1 x y)(k:∀x y,p0 x y->p1 x y->G):G:=h.elim fun x h1=>h1.elim fun y h2=>k x y h2.1 h2.2
theorem t6{p0 p1 p2 p3 p4:Prop}{G:Prop}(h:p0/\p1/\p2/\p3/\p4)(k:p0->p1->p2->p3->p4->G):G:=k h.1 h.2.1 h.2.2.1 h.2.2.2.1 h.2.2.2.2
theorem b4{A:Sort _}{p0 p1 p2 p3:A->Prop}{G:Prop}(h:∃x,p0 x/\p1 x/\p2 x/\p3 x)(k:∀x,p0 x->p1 x->p2 x->p3 x->G):G:=h.elim fun x h1=>k x h1.1 h1.2.1 h1.2.2.1 h1.2.2.2
theorem cz{A B:Sort _}{p0 p1:A->Prop}{p2:A->B->Prop}{G:Prop}(h:∃x,p0 x/\p1 x/\∃y,p2 x y)(k:∀x,p0 x->p1 x->∀y,p2 x y->G):G:=h.elim fun x h1=>h1.2.2.elim fun y h2=>k x h1.1 h1.2.1 y h2
theorem uw{A B:Sort _}{p0:A->Prop}{p1 p2:A->B->Prop}{G:Prop}(h:∃x,p0 x/\∃y,p1 x y/\p2 x y)(k:∀x,p0 x->∀y,p1 x y->p2 x y->G):G:=h.elim fun x h1=>h1.2.elim fun y h2=>k x h1.1 y h2.1 h2.2
theorem aF{A B:Sort _}{p0 p1 p2:A->B->Prop}{G:Prop}(h:∃x y,p0 x y/\p1 x y/\p2 x y)(k:∀x y,p0 x y->p1 x y->p2 x y->G):G:=h.elim fun x h1=>h1.elim fun y h2=>k x y h2.1 h2.2.1 h2.2.2
theorem jY{A B C:Sort _}{p0 p1:A->B->C->Prop}{G:Prop}(h:∃x y z,p0 x y z/\p1 x y z)(k:∀x y z,p0 x y z->p1 x y z->G):G:=h.elim fun x h1=>h1.elim fun y h2=>h2.elim fun z h3=>k x y z h3.1 h3.2
theorem wH{A B C:Sort _}{p0:A->Prop}{p1 p2:A->B->C->Prop}{G:Prop}(h:∃x,p0 x/\∃y z,p1 x y z/\p2 x y z)(k:∀x,p0 x->∀y z,p1 x y z->p2 x y z->G):G:=h.elim fun x h1=>h1.2.elim fun y h2=>h2.elim fun z h3=>k x h1.1 y z h3.1 h3.2
theorem lI{A B:Sort _}{p0 p1 p2 p3:A->B->Prop}{G:Prop}(h:∃x y,p0 x y/\p1 x y/\p2 x y/\p3 x y)(k:∀x y,p0 x y->p1 x y->p2 x y->p3 x y->G):G:=h.elim fun x h1=>h1.elim fun y h2=>k x y h2.1 h2.2.1 h2.2.2.1 h2.2.2.2
theorem dL{A B C:Sort _}{p0 p1 p2:A->B->C->Prop}{G:Prop}(h:∃x y z,p0 x y z/\p1 x y z/\p2 x y z)(k:∀x y z,p0 x y z->p1 x y z->p2 x y z->G):G:=h.elim fun x h1=>h1.elim fun y h2=>h2.elim fun z h3=>k x y z h3.1 h3.2.1 h3.2.2
theorem d7{A B:Sort _}{p0 p1 p2 p3 p4:A->B->Prop}{G:Prop}(h:∃x y,p0 x y/\p1 x y/\p2 x y/\p3 x y/\p4 x y)(k:∀x y,p0 x y->p1 x y->p2 x y->p3 x y->p4 x y->G):G:=h.elim fun x h1=>h1.elim fun y h2=>k x y h2.1 h2.2.1 h2.2.2.1 h2.2.2.2.1 h2.2.2.2.2
theorem b8{A B C:Sort _}{p0 p1 p2 p3:A->B->C->Prop}{G:Prop}(h:∃x y z,p0 x y z/\p1 x y z/\p2 x y z/\p3 x y z)(k:∀x y z,p0 x y z->p1 x y z->p2 x y z->p3 x y z->G):G:=h.elim fun x h1=>h1.elim fun y h2=>h2.elim fun z h3=>k x y z h3.1 h3.2.1 h3.2.2.1 h3.2.2.2
theorem kI{A B:Sort _}{p0 p1 p2 p3 p4 p5:A->B->Prop}{G:Prop}(h:∃x y,p0 x y/\p1 x y/\p2 x y/\p3 x y/\p4 x y/\p5 x y)(k:∀x y,p0 x y->p1 x y->p2 x y->p3 x y->p4 x y->p5 x y->G):G:=h.elim fun x h1=>h1.elim fun y h2=>k x y h2.1 h2.2.1 h2.2.2.1 h2.2.2.2.1 h2.2.2.2.2.1 h2.2.2.2.2.2
theorem jJ{A B C D:Sort _}{p0 p1 p2 p3 p4:A->B->C->D->Prop}{G:Prop}(h:∃x y z u,p0 x y z u/\p1 x y z u/\p2 x y z u/\p3 x y z u/\p4 x y z u)(k:∀x y z u,p0 x y z u->p1 x y z u->p2 x y z u->p3 x y z u->p4 x y z u->G):G:=h.elim fun x h1=>h1.elim fun y h2=>h2.elim fun z h3=>h3.elim fun u h4=>k x y z u h4.1 h4.2.1 h4.2.2.1 h4.2.2.2.1 h4.2.2.2.2
theorem pJ{A B C D E:Sort _}{p0 p1 p2 p3:A->B->C->D->E->Prop}{G:Prop}(h:∃x y z u v,p0 x y z u v/\p1 x y z u v/\p2 x y z u v/\p3 x y z u v)(k:∀x y z u v,p0 x y z u v->p1 x y z u v->p2 x y z u v->p3 x y z u v->G):G:=h.elim fun x h1=>h1.elim fun y h2=>h2.elim fun z h3=>h3.elim fun u h4=>h4.elim fun v h5=>k x y z u v h5.1 h5.2.1 h5.2.2.1 h5.2.2.2
theorem dI{A B C D E:Sort _}{p0:Prop}{p1 p2 p3 p4 p5:A->B->C->D->E->Prop}{G:Prop}(h:p0/\∃x y z u v,p1 x y z u v/\p2 x y z u v/\p3 x y z u v/\p4 x y z u v/\p5 x y z u v)(k:p0->∀x y z u v,p1 x y z u v->p2 x y z u v->p3 x y z u v->p4 x y z u v->p5 x y z u v->G):G:=h.2.elim fun x h1=>h1.elim fun y h2=>h2.elim fun z h3=>h3.elim fun u h4=>h4.elim fun v h5=>k h.1 x y z u v h5.1 h5.2.1 h5.2.2.1 h5.2.2.2.1 h5.2.2.2.2
end Mine
namespace Mine
open PySem PySem.W PySem.Calls PyProof.Rows
noncomputable def gx(tb:String->Option Builtin)(p:Program)(w:World)(n0:Nat)(ann:Option Value):Nat->SharedT->Thread->Option SharedT
 |0,_,_=>none
 |n+1,s,t=>match through t with
  |true=>some s
  |false=>match stepOk n0 ann t with
   |false=>none
   |true=>match stepT (denote tb) p w s t with
    |some (⟨T,m,l,g,d,0,o⟩,t')=>gx tb p w n0 ann n ⟨T,m,l,g,d,0,o⟩ t'
    |some (⟨T,m,l,g,d,k+1,o⟩,t')=>gx tb p w n0 ann n ⟨T,m,l,g,d,k+1,o⟩ t'
    |none=>none
theorem hJ{tb:String->Option Builtin}{p:Program}{w:World}{n0:Nat}{ann:Option Value}:∀ {n:Nat}{s s':SharedT}{t:Thread},gx tb p w n0 ann n s t=some s'->topRun tb p w n0 ann n s.abs t=some s'.abs
 |0,_,_,_,h=>by cases h
 |n+1,s,s',t,h=>by
  unfold gx at h
  unfold topRun
  cases he:through t with
  |true=>rw[he] at h;cases h;rfl
  |false =>
   rw[he] at h
   cases hk:stepOk n0 ann t with
   |false=>rw[hk] at h;cases h
   |true =>
    rw[hk] at h
    cases hs:stepT (denote tb) p w s t with
    |none=>rw[hs] at h;cases h
    |some r =>
     obtain ⟨⟨T,m,l,g,d,k,o⟩,t2⟩:=r
     rw[hs] at h
     rw[stepT_spec hs]
     cases k with
     |zero=>exact hJ h
     |succ k=>exact hJ h
noncomputable def bt:List Obj->Nat->BT->BT
 | [],_,t=>t
 |o::l,n,t=>bt l (n+1) (t.ins n o)
noncomputable def w6(P:Params)(os:OsState):SharedT:=⟨bt (boot_heap P).objs.toList 0 .nil,(boot_heap P).objs.size,(boot_heap P).life,Array.mk [],boot_drawn,boot_toks,os⟩
theorem u4(P:Params)(os:OsState):(w6 P os).abs=⟨boot_heap P,Array.mk [],boot_drawn,boot_toks,os⟩:=by kernel_rfl
noncomputable def uz(p q:Program)(loose:List Str)(Xt:Shared->Bool){α:Type}(Yf:Shared->α)(P:Params)(s:Shared):=
 ((staticsOk (importedModules p.main.body) (boot_heap P) s.heap && namesBound p s.heap && gensDone s && laidKept (boot_heap P) s.heap),openSeen q loose (importedModules p.main.body) Xt true s,Yf s)
noncomputable def FM(p q:Program)(loose:List Str)(Xt:Shared->Bool){α:Type}(Yf:Shared->α)(m0:Nat)(ann:Option Value)(N:Nat)(w:World)(os:OsState):=
 (gx treeTable p w m0 ann N (w6 w.params os) (topStub p)).map fun s=>uz p q loose Xt Yf w.params s.abs
theorem yw{p q:Program}{loose:List Str}{Xt:Shared->Bool}{α:Type}{Yf:Shared->α}{Ya:World->α}{N:Nat}{m0:Nat}{ann:Option Value}
  (e:opening p=plainProg p.main.scope.names) (hN:Nat.ble 600 N=true) (f:∀s,fenceModules? p s=some s)
  (size:∀w:World,((boot_heap w.params).isNs mainGlobals,(boot_heap w.params).objs.size,(boot_heap w.params).nsMap mainGlobals "__annotations__")=(true,m0,ann))
  (run:∀ (w:World) (os:OsState),FM p q loose Xt Yf m0 ann N w os=some (true,openGood q loose,Ya w)):LeftO p q loose Xt Yf Ya N:=fun w=>by
 refine ae (IT.mp (boot_open e hN f w)) fun zq106 e e'=>?_;obtain ⟨h,gs,d,k,os⟩:=zq106
 obtain ⟨rfl,rfl,rfl,rfl⟩:h=boot_heap w.params/\gs=Array.mk []/\d=boot_drawn/\k=boot_toks:=by simpa using e'
 obtain ⟨z1,z2,z3⟩:_/\_/\_:=by simpa only [Prod.mk.injEq] using size w
 refine ae (IT.mp (run w os)) fun s1 hr hl=>?_
 have r:=hJ hr
 rw[u4] at r
 obtain ⟨l1,l2,l3⟩:_/\_/\_:=by simpa only [uz,Prod.mk.injEq] using hl
 have t:topFrom treeTable p w N ⟨boot_heap w.params,Array.mk [],boot_drawn,boot_toks,os⟩=some s1.abs:=by
  unfold topFrom
  dsimp only
  rw[z1,z2,z3,r]
  show (match staticsOk (importedModules p.main.body) (boot_heap w.params) s1.abs.heap && namesBound p s1.abs.heap && gensDone s1.abs && laidKept (boot_heap w.params) s1.abs.heap with|true=>_|false=>_)=_
  rw[l1]
 unfold openEnds
 rw[e]
 show (topFrom treeTable p w N _).map _=_
 rw[t]
 exact congrArg some (Prod.ext l2 l3)
noncomputable def qZ(p:Program)(m0:Nat)(ann:Option Value)(N:Nat)(w:World)(os:OsState):=gx treeTable p w m0 ann N (w6 w.params os) (topStub p)
theorem vx{p q:Program}{loose:List Str}{Xt:Shared->Bool}{α:Type}{Yf:Shared->α}{Ya:World->α}{N:Nat}{m0:Nat}{ann:Option Value}
  (e:opening p=plainProg p.main.scope.names) (hN:Nat.ble 600 N=true) (f:∀s,fenceModules? p s=some s)
  (size:∀w:World,((boot_heap w.params).isNs mainGlobals,(boot_heap w.params).objs.size,(boot_heap w.params).nsMap mainGlobals "__annotations__")=(true,m0,ann))
  (r1:∀ (w:World) (os:OsState),(qZ p m0 ann N w os).map (fun s=>((staticsOk (importedModules p.main.body) (boot_heap w.params) s.abs.heap && namesBound p s.abs.heap && gensDone s.abs && laidKept (boot_heap w.params) s.abs.heap),Yf s.abs))=some (true,Ya w))
  (r2:∀ (w:World) (os:OsState),(qZ p m0 ann N w os).map (fun s=>(openSeen q loose (importedModules p.main.body) Xt true s.abs).1)=some (openGood q loose).1)
  (r3:∀ (w:World) (os:OsState),(qZ p m0 ann N w os).map (fun s=>(openSeen q loose (importedModules p.main.body) Xt true s.abs).2)=some (openGood q loose).2):LeftO p q loose Xt Yf Ya N:=
 yw e hN f size fun w os=>by
  refine ae (IT.mp (r1 w os)) fun s hr h1=>?_
  have h2:=r2 w os
  have h3:=r3 w os
  rw[hr] at h2 h3
  obtain ⟨a,b⟩:=Prod.mk.inj h1
  show (qZ p m0 ann N w os).map _=_
  rw[hr]
  exact congrArg some (Prod.ext a (Prod.ext (Prod.ext (G5 h2) (G5 h3)) b))
end Mine
section
open PySem PyProof.Rows PySem.Calls PySem.W
set_option Elab.async false
namespace Mine
theorem uH(w:World):((boot_heap w.params).isNs mainGlobals,(boot_heap w.params).objs.size,(boot_heap w.params).nsMap mainGlobals "__annotations__")=(true,11,some (.ref 6)):=by kernel_rfl
noncomputable def iB:Program:=PySem.W.view PySem.Challenge.pw_uf020007_12 [1,2,3,4,5,7,8,9,10,11,12,14,15,16,17,18,19,20,21,22,24,25,26,28,29,30,31,32,33,34,35,36,38,39,40,41,42,43,44,45,46,47,48,49,50,52,53,54,55,56,57,58,59,60,61,62,63,64,65,66,67,68,69,70,71,72,73]
noncomputable def de(P:Params)(x:String)(t:Tok)(v:Value):DictEntry:={ hash:=PyData.keyHash P (Str.ofString x),key:=Value.str (Str.ofString x) t,val:=v }
noncomputable def dr(P:Params)(x:String)(t:Tok)(a:Addr):DictEntry:=de P x t (.ref a)
noncomputable def z9(P:Params):List DictEntry:=[de P "__name__" 165 (Value.str (Str.ofString "law_uf020007_12") 619),de P "__doc__" 166 (Value.none),de P "__package__" 167 (Value.none),de P "__loader__" 168 (Value.builtin "__main__.__loader__#opaque"),de P "__spec__" 169 (Value.none),dr P "__annotations__" 170 6,dr P "__builtins__" 171 4,de P "__file__" 173 (Value.str (Str.ofString "/claim/cut.py") 172)]
noncomputable def Aj(P:Params):List DictEntry:=[de P "__cached__" 174 (Value.none),dr P "PegError" 206 24,dr P "NoPart" 222 37,dr P "NoRow" 238 49,dr P "NoStretch" 254 61,dr P "NoQuotient" 270 73,dr P "divisor" 281 82,dr P "part" 290 89]
noncomputable def AV(P:Params):List DictEntry:=[dr P "below" 298 96,dr P "part_sum" 306 103,dr P "part_product" 314 110,dr P "turned_about" 321 117,dr P "sign_at" 334 124,dr P "trimmed" 342 131,dr P "reduced" 348 136,dr P "slope" 354 141]
noncomputable def zV(P:Params):List DictEntry:=[dr P "without_last" 360 146,dr P "rest_of" 369 153,dr P "common" 378 160,dr P "quotient" 389 167,dr P "plain" 397 174,dr P "multiplied" 410 181,dr P "seen" 416 186,dr P "turns" 428 193]
noncomputable def A7(P:Params):List DictEntry:=[dr P "HALF" 433 194,dr P "QUARTER" 436 195,dr P "is_alone" 445 202,dr P "width_of" 452 209,dr P "narrowed" 466 216,dr P "halved" 473 223,dr P "is_same" 484 230,dr P "compare" 492 237]
noncomputable def A4(P:Params):List DictEntry:=[dr P "sign_of_peg" 502 244,dr P "NOUGHT" 507 245,dr P "ONE" 510 246,dr P "power_sums" 523 253,dr P "signed" 531 260,dr P "row_of" 547 267,dr P "settled" 559 274,dr P "sum_bounds" 567 281]
noncomputable def y4(P:Params):List DictEntry:=[dr P "product_bounds" 581 288,dr P "added" 587 293,dr P "times" 593 298,dr P "opposite" 599 303,dr P "taken" 607 310,dr P "divided" 618 317,dr P "_law_whole" 627 324,dr P "_law_cell_at" 635 331]
noncomputable def Ah(P:Params):List DictEntry:=[dr P "_law_divisor" 644 338,dr P "_law_part" 653 345,dr P "_law_smallest" 659 350,dr P "_law_value" 670 357,dr P "_law_by" 676 362,dr P "_law_seen" 682 367,dr P "_law_turns" 694 374,dr P "_law_is_part" 701 381]
noncomputable def AL(P:Params):List DictEntry:=[dr P "_law_is_peg" 707 386,dr P "_law_row_by" 713 391,dr P "_law_peg_by" 719 396,dr P "_law_below" 727 403,dr P "_law_narrow" 736 410,dr P "_law_span" 746 417,dr P "_law_stretch" 752 422,dr P "_law_plus" 760 429]
noncomputable def Aq(P:Params):List DictEntry:=[dr P "_law_corners" 768 436,dr P "_law_told" 777 443,dr P "_law_meets" 788 450,dr P "law" 794 455]
noncomputable def E4(P:Params):Obj:={ cls:=Value.type "dict",data:=Data.dict ⟨z9 P ++ (Aj P ++ (AV P ++ (zV P ++ (A7 P ++ (A4 P ++ (y4 P ++ (Ah P ++ (AL P ++ (Aq P)))))))))⟩ 76 }
noncomputable def ua(P:Params):Obj:={ cls:=Value.type "tuple",data:=Data.seq #[Value.int 1 431,Value.int 2 432] }
noncomputable def tM(P:Params):Obj:={ cls:=Value.type "tuple",data:=Data.seq #[Value.int 1 434,Value.int 4 435] }
noncomputable def um(P:Params):Obj:={ cls:=Value.type "tuple",data:=Data.seq #[Value.int 0 505,Value.int 1 506] }
noncomputable def sJ(P:Params):Obj:={ cls:=Value.type "tuple",data:=Data.seq #[Value.int 1 508,Value.int 1 509] }
noncomputable def K12:Params->Frag:=fun P=>[(nat_lit 3,E4 P),(nat_lit 194,ua P),(nat_lit 195,tM P),(nat_lit 245,um P),(nat_lit 246,sJ P)]
noncomputable def as12:List Addr:=[3,194,195,245,246]
theorem CW(w:World)(os:OsState):(qZ PySem.Challenge.pw_uf020007_12 11 (some (.ref 6)) 4500 w os).map (fun s=>((staticsOk (importedModules PySem.Challenge.pw_uf020007_12.main.body) (boot_heap w.params) s.abs.heap && namesBound PySem.Challenge.pw_uf020007_12 s.abs.heap && gensDone s.abs && laidKept (boot_heap w.params) s.abs.heap),(fun s=>as12.map s.heap.get?) s.abs))=some (true,(K12 w.params).map fun p=>some p.2):=by kernel_rfl
theorem ED(w:World)(os:OsState):(qZ PySem.Challenge.pw_uf020007_12 11 (some (.ref 6)) 4500 w os).map (fun s=>(openSeen iB [] (importedModules PySem.Challenge.pw_uf020007_12.main.body) (fun s=>xlAt iB [] s && recOk (RowW.records PySem.Challenge.rw_uf020007_12.row.toRowW) s) true s.abs).1)=some (openGood iB []).1:=by kernel_rfl
theorem DK(w:World)(os:OsState):(qZ PySem.Challenge.pw_uf020007_12 11 (some (.ref 6)) 4500 w os).map (fun s=>(openSeen iB [] (importedModules PySem.Challenge.pw_uf020007_12.main.body) (fun s=>xlAt iB [] s && recOk (RowW.records PySem.Challenge.rw_uf020007_12.row.toRowW) s) true s.abs).2)=some (openGood iB []).2:=by kernel_rfl
theorem Ex:LeftO PySem.Challenge.pw_uf020007_12 iB [] (fun s=>xlAt iB [] s && recOk (RowW.records PySem.Challenge.rw_uf020007_12.row.toRowW) s) (fun s=>as12.map s.heap.get?) (fun w=>(K12 w.params).map fun p=>some p.2) 4500:=
 vx (by kernel_rfl) (by kernel_rfl) (fun s=>by kernel_rfl) uH CW ED DK
end Mine
end
namespace Mine
inductive LX where
 |v (i:Nat)
 |n (k:Nat)
 |a (x y:LX)
 |m (k:Nat) (x:LX)
 |r (x:LX) (k:Nat)
 |s (x y:LX)
 |g (x:LX)
 |c (x:LX)
instance(n:Nat):OfNat LX n:=⟨.n (OfNat.ofNat n)⟩
instance:Add LX:=⟨.a⟩
theorem owk{a b c:Nat}(k:b<=c)(h:a<=b):a<=c:=GP h k
noncomputable abbrev Y0:LX:=.v 0
noncomputable abbrev Y1:LX:=.v 1
noncomputable abbrev Y2:LX:=.v 2
noncomputable abbrev Y3:LX:=.v 3
noncomputable abbrev Y4:LX:=.v 4
noncomputable abbrev Y5:LX:=.v 5
noncomputable abbrev Y6:LX:=.v 6
noncomputable abbrev Y7:LX:=.v 7
noncomputable abbrev Y8:LX:=.v 8
noncomputable def LX.den(c:List Nat):LX->Nat
 | .v i=>c.getD i 0
 | .n k=>k
 | .a x y=>x.den c+y.den c
 | .m k x=>k*x.den c
 | .r x k=>x.den c*k
 | .s _ _=>0
 | .g _=>0
 | .c _=>0
noncomputable def LX.di(c:List Nat)(d:List Int):LX->Int
 | .v i=>d.getD i 0
 | .n k=>(k:Int)
 | .a x y=>x.di c d+y.di c d
 | .m k x=>(k:Int)*x.di c d
 | .r x k=>x.di c d*(k:Int)
 | .s x y=>x.di c d-y.di c d
 | .g x=>- x.di c d
 | .c x=>((x.den c:Nat):Int)
noncomputable def adz:List Int->List Int->List Int
 | [],ys=>ys
 |x::xs,[]=>x::xs
 |x::xs,y::ys=>(x+y)::adz xs ys
noncomputable def smz(k:Int)(xs:List Int):List Int:=xs.map (k*·)
noncomputable def unz:Nat->List Int
 |0=>[1]
 |i+1=>0::unz i
noncomputable def dtz:List Int->List Int->Int
 | [],_=>0
 |_::_,[]=>0
 |k::r,x::c=>k*x+dtz r c
theorem rg:∀ (xs ys c:List Int),dtz (adz xs ys) c=dtz xs c+dtz ys c
 | [],_,_=>(HG _).symm
 |_::_,[],_=>(Hv _).symm
 |_::_,_::_,[]=>rfl
 |x::xs,y::ys,z::c=>by
  show (x+y)*z+dtz (adz xs ys) c=x*z+dtz xs c+(y*z+dtz ys c)
  rw[rg xs ys c,Int.add_mul,Jr,Jr,Int.add_left_comm (y*z)]
theorem rZ(k:Int):∀ (xs c:List Int),dtz (smz k xs) c=k*dtz xs c
 | [],_=>(Hh k).symm
 |_::_,[]=>(Hh k).symm
 |x::xs,z::c=>by
  show k*x*z+dtz (smz k xs) c=k*(x*z+dtz xs c)
  rw[rZ k xs c,Int.mul_add,HJ]
theorem rW:∀ (i:Nat) (c:List Int),dtz (unz i) c=c.getD i 0
 |0,[]=>rfl
 |_+1,[]=>rfl
 |0,x::c=>by show 1*x+dtz [] c=x;rw[Hs];exact Hv _
 |i+1,x::c=>by show 0*x+dtz (unz i) c=_;rw[rW i c,HO,HG];rfl
abbrev P2:=List Int × List Int
noncomputable def adp(x y:P2):P2:=(adz x.1 y.1,adz x.2 y.2)
noncomputable def smp(k:Int)(x:P2):P2:=(smz k x.1,smz k x.2)
noncomputable def evw(c:List Nat)(d:List Int)(x:P2):Int:=dtz x.1 (1::c.map Int.ofNat)+dtz x.2 d
theorem ju(c:List Nat)(d:List Int)(x y:P2):evw c d (adp x y)=evw c d x+evw c d y:=by
 show dtz (adz x.1 y.1) _+dtz (adz x.2 y.2) d=dtz x.1 _+dtz x.2 d+(dtz y.1 _+dtz y.2 d)
 rw[rg,rg,Jr,Jr,Int.add_left_comm (dtz y.1 _)]
theorem gk(c:List Nat)(d:List Int)(k:Int)(x:P2):evw c d (smp k x)=k*evw c d x:=by
 show dtz (smz k x.1) _+dtz (smz k x.2) d=k*(dtz x.1 _+dtz x.2 d)
 rw[rZ,rZ,Int.mul_add]
noncomputable def LX.nf:LX->P2
 | .v i=>(0::unz i,[])
 | .n k=>([(k:Int)],[])
 | .a x y=>adp x.nf y.nf
 | .m k x=>smp k x.nf
 | .r x k=>smp k x.nf
 | .s _ _=>([],[])
 | .g _=>([],[])
 | .c _=>([],[])
noncomputable def LX.ni:LX->P2
 | .v i=>([],unz i)
 | .n k=>([(k:Int)],[])
 | .a x y=>adp x.ni y.ni
 | .m k x=>smp k x.ni
 | .r x k=>smp k x.ni
 | .s x y=>adp x.ni (smp (-1) y.ni)
 | .g x=>smp (-1) x.ni
 | .c x=>x.nf
theorem pZ:∀ (c:List Nat) (i:Nat),(c.map Int.ofNat).getD i 0=((c.getD i 0:Nat):Int)
 | [],_=>rfl
 |_::_,0=>rfl
 |_::c,i+1=>pZ c i
theorem Bz(c:List Nat)(d:List Int)(k:Nat):evw c d ([(k:Int)],[])=(k:Int):=by
 show (k:Int)*1+0+0=k
 rw[Hv,Hv,H7]
theorem fC(c:List Nat)(d:List Int):∀e:LX,evw c d e.nf=(e.den c:Int)
 | .v i=>by
  show 0*1+dtz (unz i) (c.map Int.ofNat)+0=_
  rw[rW,pZ,HO,HG,Hv];rfl
 | .n k=>Bz c d k
 | .a x y=>(ju c d _ _).trans (by rw[fC c d x,fC c d y];exact (Int.natCast_add _ _).symm)
 | .m k x=>(gk c d _ _).trans (by rw[fC c d x];exact (HQ _ _).symm)
 | .r x k=>(gk c d _ _).trans (by rw[fC c d x,HS];exact (HQ _ _).symm)
 | .s _ _=>rfl
 | .g _=>rfl
 | .c _=>rfl
theorem ew(c:List Nat)(d:List Int):∀e:LX,evw c d e.ni=e.di c d
 | .v i=>by show 0+dtz (unz i) d=_;rw[rW,HG];rfl
 | .n k=>Bz c d k
 | .a x y=>(ju c d _ _).trans (by rw[ew c d x,ew c d y];rfl)
 | .m k x=>(gk c d _ _).trans (by rw[ew c d x];rfl)
 | .r x k=>(gk c d _ _).trans (by rw[ew c d x,HS];rfl)
 | .s x y=>(ju c d _ _).trans (by rw[gk,ew c d x,ew c d y,HC,Hs];rfl)
 | .g x=>(gk c d _ _).trans (by rw[ew c d x,HC,Hs];rfl)
 | .c x=>fC c d x
inductive QX where
 |le (x y:LX)
 |eq (x y:LX)
 |il (x y:LX)
 |ie (x y:LX)
 |an (p q:QX)
 |or (p q:QX)
 |no (p:QX)
 |ff
noncomputable def osb(a b s:LX):QX:=.or (.an (.le b a) (.eq a (.a s b))) (.an (.le a b) (.eq s (.n 0)))
noncomputable def otn(z n:LX):QX:=.or (.an (.il (.n 0) z) (.ie (.c n) z)) (.an (.il z (.n 0)) (.eq n (.n 0)))
noncomputable def ona(z n:LX):QX:=.or (.an (.il (.n 0) z) (.ie (.c n) z)) (.an (.il z (.n 0)) (.ie (.c n) (.g z)))
noncomputable def QX.den(c:List Nat)(d:List Int):QX->Prop
 | .le x y=>x.den c<=y.den c
 | .eq x y=>x.den c=y.den c
 | .il x y=>x.di c d<=y.di c d
 | .ie x y=>x.di c d=y.di c d
 | .an p q=>p.den c d/\q.den c d
 | .or p q=>p.den c d\/q.den c d
 | .no p=>¬ p.den c d
 | .ff=>False
noncomputable def ct(k:Int)(x y:P2):P2:=adp (adp y (smp (-1) x)) ([-k],[])
theorem mt(c:List Nat)(d:List Int)(k:Int)(x y:P2)(h:evw c d x+k<=evw c d y):0<=evw c d (ct k x y):=by
 have h1:evw c d (ct k x y)=evw c d y-(evw c d x+k):=by
  unfold ct
  rw[ju,ju,gk,HC,Hs,show evw c d ([-k],[])=-k from (by show -k*1+0+0=-k;rw[Hv,Hv,H7])]
  rw[Int.sub_eq_add_neg,Int.neg_add,Jr]
 rw[h1];exact Int.sub_nonneg_of_le h
noncomputable def ze(A B:List (List P2)):List (List P2):=A.flatMap fun a=>B.map (a++·)
noncomputable def leD(x y:P2):Bool->List (List P2)
 |true=>[[ct 0 x y]]
 |false=>[[ct 1 y x]]
noncomputable def eqD(x y:P2):Bool->List (List P2)
 |true=>[[ct 0 x y,ct 0 y x]]
 |false=>[[ct 1 x y],[ct 1 y x]]
noncomputable def QX.dnf:QX->Bool->List (List P2)
 | .le x y,b=>leD x.nf y.nf b
 | .eq x y,b=>eqD x.nf y.nf b
 | .il x y,b=>leD x.ni y.ni b
 | .ie x y,b=>eqD x.ni y.ni b
 | .an p q,true=>ze (p.dnf true) (q.dnf true)
 | .an p q,false=>p.dnf false++q.dnf false
 | .or p q,true=>p.dnf true++q.dnf true
 | .or p q,false=>ze (p.dnf false) (q.dnf false)
 | .no p,b=>p.dnf (!b)
 | .ff,true=>[]
 | .ff,false=>[[]]
noncomputable def Gd(c:List Nat)(d:List Int)(D:List (List P2)):Prop:=∃cs,cs∈D/\∀f,f∈cs->0<=evw c d f
theorem Gd.l{c:List Nat}{d:List Int}{A B:List (List P2)}:Gd c d A->Gd c d (A++B)
 | ⟨x,h,k⟩=>⟨x,I7 _ h,k⟩
theorem Gd.r{c:List Nat}{d:List Int}{A B:List (List P2)}:Gd c d B->Gd c d (A++B)
 | ⟨x,h,k⟩=>⟨x,List.mem_append_right _ h,k⟩
theorem Gd.mul{c:List Nat}{d:List Int}{A B:List (List P2)}:Gd c d A->Gd c d B->Gd c d (ze A B)
 | ⟨x,h,k⟩,⟨y,h',k'⟩=>⟨x++y,List.mem_flatMap.mpr ⟨x,h,Hq.mpr ⟨y,h',rfl⟩⟩,fun f hf=>(Hy.mp hf).elim (k f) (k' f)⟩
theorem Gd.one{c:List Nat}{d:List Int}{f:P2}(h:0<=evw c d f):Gd c d [[f]]:=
 ⟨[f],He.mpr rfl,fun g hg=>He.mp hg ▸ h⟩
theorem leD_ok{c:List Nat}{d:List Int}{x y:P2}:(evw c d x<=evw c d y->Gd c d (leD x y true))/\(¬ evw c d x<=evw c d y->Gd c d (leD x y false)):=
 ⟨fun h=>Gd.one (mt _ _ _ _ _ ((Hv _).symm ▸ h)),fun h=>Gd.one (mt _ _ _ _ _ (IM.mp h))⟩
theorem eqD_ok{c:List Nat}{d:List Int}{x y:P2}:(evw c d x=evw c d y->Gd c d (eqD x y true))/\(¬ evw c d x=evw c d y->Gd c d (eqD x y false)):=
 ⟨fun h=>Gd.mul (Gd.one (mt _ _ _ _ _ (Int.le_of_eq ((Hv _).trans h)))) (Gd.one (mt _ _ _ _ _ (Int.le_of_eq ((Hv _).trans h.symm)))),
  fun h=>(Int.lt_or_lt_of_ne h).elim (fun h=>Gd.l (Gd.one (mt _ _ _ _ _ h)) (B:=[[ct 1 y x]])) (fun h=>Gd.r (Gd.one (mt _ _ _ _ _ h)) (A:=[[ct 1 x y]]))⟩
theorem dU(c:List Nat)(d:List Int):∀p:QX,(p.den c d->Gd c d (p.dnf true))/\(¬ p.den c d->Gd c d (p.dnf false))
 | .le x y=>⟨fun h=>leD_ok.1 (by rw[fC,fC];exact Il.mpr h),fun h=>leD_ok.2 (by rw[fC,fC];exact fun k=>h (Il.mp k))⟩
 | .eq x y=>⟨fun h=>eqD_ok.1 (by rw[fC,fC];exact congrArg Int.ofNat h),fun h=>eqD_ok.2 (by rw[fC,fC];exact fun k=>h (Int.ofNat.inj k))⟩
 | .il x y=>⟨fun h=>leD_ok.1 (by rw[ew,ew];exact h),fun h=>leD_ok.2 (by rw[ew,ew];exact h)⟩
 | .ie x y=>⟨fun h=>eqD_ok.1 (by rw[ew,ew];exact h),fun h=>eqD_ok.2 (by rw[ew,ew];exact h)⟩
 | .an p q=>⟨fun h=>Gd.mul ((dU c d p).1 h.1) ((dU c d q).1 h.2),fun h=>(Classical.em (p.den c d)).elim (fun k=>Gd.r ((dU c d q).2 fun l=>h ⟨k,l⟩)) (fun k=>Gd.l ((dU c d p).2 k))⟩
 | .or p q=>⟨fun h=>h.elim (fun k=>Gd.l ((dU c d p).1 k)) (fun k=>Gd.r ((dU c d q).1 k)),fun h=>Gd.mul ((dU c d p).2 fun k=>h (.inl k)) ((dU c d q).2 fun k=>h (.inr k))⟩
 | .no p=>⟨(dU c d p).2,fun h=>(dU c d p).1 (Classical.not_not.mp h)⟩
 | .ff=>⟨False.elim,fun _=>⟨[],He.mpr rfl,fun _ h=>nomatch h⟩⟩
noncomputable def cmb:List P2->List Nat->P2
 |f::fs,k::ks=>adp (smp k f) (cmb fs ks)
 |_,_=>([],[])
theorem yu{c:List Nat}{d:List Int}:∀ (fs:List P2) (ks:List Nat),(∀f,f∈fs->0<=evw c d f)->0<=evw c d (cmb fs ks)
 | [],_,_=>JJ _
 |_::_,[],_=>JJ _
 |f::fs,k::ks,h=>by
  show 0<=evw c d (adp (smp k f) (cmb fs ks))
  rw[ju,gk]
  exact Int.add_nonneg (Int.mul_nonneg (HW k) (h f (GW ..))) (yu fs ks fun g hg=>h g (G3 _ hg))
noncomputable def npz(g:List Int):Bool:=g.all fun k=>decide (k<=0)
noncomputable def zrz(g:List Int):Bool:=g.all fun k=>decide (k=0)
noncomputable def ngz:P2->Bool
 | ([],_)=>false
 | (k::r,s)=>decide (k+1<=0) && (npz r && zrz s)
theorem xn:∀ {g:List Int}{c:List Nat},npz g=true->dtz g (c.map Int.ofNat)<=0
 | [],_,_=>JJ _
 |_::_,[],_=>JJ _
 |k::r,x::c,h=>Int.add_nonpos (Int.mul_nonpos_of_nonpos_of_nonneg (of_decide_eq_true (HK.mp h).1) (HW x)) (xn (HK.mp h).2)
theorem xg:∀ {g d:List Int},zrz g=true->dtz g d=0
 | [],_,_=>rfl
 |_::_,[],_=>rfl
 |k::r,x::c,h=>by
  show k*x+dtz r c=0
  rw[show k=0 from of_decide_eq_true (HK.mp h).1,xg (HK.mp h).2,HO];rfl
theorem EG{c:List Nat}{d:List Int}:∀ {x:P2},ngz x=true->¬ 0<=evw c d x
 | ([],_),h=>nomatch h
 | (k::r,s),h=>fun h0=>by
  have h1:=HK.mp h
  have h2:=HK.mp h1.2
  have h0:0<=k*1+dtz r (c.map Int.ofNat)+dtz s d:=h0
  rw[xg h2.2,Hv,H7] at h0
  exact IM.mpr (Int.lt_of_lt_of_le (Int.lt_of_lt_of_le (Int.lt_succ k) (of_decide_eq_true h1.1)) (JJ 0)) (HY h0 (HY (Int.add_le_add_left (xn h2.1) k) (Int.le_of_eq (Hv k))))
noncomputable def chk(D:List (List P2))(ks:List (List Nat)):Bool:=D.all fun cs=>ks.any fun k=>ngz (cmb cs k)
theorem CJ{c:List Nat}{d:List Int}(D:List (List P2))(ks:List (List Nat))(h:chk D ks=true):¬ Gd c d D
 | ⟨x,hx,hs⟩=>(List.any_eq_true.mp (JQ.mp h x hx)).elim fun k hk=>EG hk.2 (yu x k hs)
noncomputable def QX.all:List QX->List (List P2)->List (List P2)
 | [],D=>D
 |p::r,D=>QX.all r (ze D (p.dnf true))
noncomputable def Hyp(c:List Nat)(d:List Int):List QX->Prop->Prop
 | [],P=>P
 |p::r,P=>p.den c d->Hyp c d r P
theorem BM{c:List Nat}{d:List Int}{P:Prop}{ks:List (List Nat)}:∀ (hs:List QX) (D:List (List P2)),chk (QX.all hs D) ks=true->(¬ P->Gd c d D)->Hyp c d hs P
 | [],_,h,hp=>HD fun hn=>CJ _ _ h (hp hn)
 |p::r,_,h,hp=>fun h1=>BM r _ h fun hn=>Gd.mul (hp hn) ((dU c d p).1 h1)
theorem om(c:List Nat)(d:List Int)(hs:List QX)(g:QX)(ks:List (List Nat))(h:chk (QX.all hs (g.dnf false)) ks=true):Hyp c d hs (g.den c d):=
 BM hs _ h (dU c d g).2
noncomputable def dgs:Nat->Nat->List Nat
 |0,_=>[]
 |k+1,n=>bif Nat.beq n 0 then [] else n%10::dgs k (n/10)
theorem oqz(c:List Nat)(d:List Int)(hs:List QX)(g:QX)(ks:List Nat)(h:chk (QX.all hs (g.dnf false)) (ks.map (dgs 40))=true):Hyp c d hs (g.den c d):=om c d hs g _ h
theorem lin(c:List Nat)(hs:List (Nat × LX × LX))(x y:LX)(h:chk (QX.all (hs.map fun p=>.le p.2.1 p.2.2) (leD x.nf y.nf false)) [1::hs.map fun p=>p.1]=true):Hyp c [] (hs.map fun p=>.le p.2.1 p.2.2) (x.den c<=y.den c):=
 om c [] _ (.le x y) _ h
theorem am(a b:Nat):(b<=a/\a=(a-b)+b)\/(a<=b/\a-b=0):=
 (Jz b a).imp (fun h=>⟨h,(JE h).symm⟩) (fun h=>⟨h,Nat.sub_eq_zero_of_le h⟩)
theorem bn(z:Int):(0<=z/\(z.natAbs:Int)=z)\/(z<=0/\(z.natAbs:Int)=-z):=
 (Int.le_total 0 z).imp (fun h=>⟨h,Int.natAbs_of_nonneg h⟩) (fun h=>⟨h,Int.ofNat_natAbs_of_nonpos h⟩)
theorem aQ(z:Int):(0<=z/\(z.toNat:Int)=z)\/(z<=0/\z.toNat=0):=
 (Int.le_total 0 z).imp (fun h=>⟨h,Int.toNat_of_nonneg h⟩) (fun h=>⟨h,Int.toNat_of_nonpos h⟩)
theorem lP(a b:Nat):(a<=b/\min a b=a)\/(b<=a/\min a b=b):=
 (Jz a b).imp (fun h=>⟨h,Jl h⟩) (fun h=>⟨h,Je h⟩)
theorem fJ(a b:Nat):(b<=a/\max a b=a)\/(a<=b/\max a b=b):=
 (Jz b a).imp (fun h=>⟨h,Nat.max_eq_left h⟩) (fun h=>⟨h,Nat.max_eq_right h⟩)
theorem qH{α:Type}(p:Prop)[Decidable p](a b:α):(p/\(if p then a else b)=a)\/(¬ p/\(if p then a else b)=b):=
 (Decidable.em p).imp (fun h=>⟨h,if_pos h⟩) (fun h=>⟨h,if_neg h⟩)
theorem BY(a b:Nat)(h:0<b):a=b*(a / b)+a % b/\a % b+1<=b:=⟨(Nat.div_add_mod a b).symm,Nat.mod_lt a h⟩
theorem aV(a b:Nat):a<=(a-b)+b/\a-b<=a:=⟨Nat.sub_le_iff_le_add.mp (GU _),Nat.sub_le a b⟩
theorem kD(a b:Nat):min a b<=a/\min a b<=b:=⟨Jm a b,JR a b⟩
theorem D4(a b:Nat):a<=max a b/\b<=max a b:=⟨Nat.le_max_left a b,Nat.le_max_right a b⟩
theorem bC(z:Int):z<=(z.natAbs:Int)/\-z<=(z.natAbs:Int):=⟨Int.le_natAbs,Int.natAbs_neg z ▸ Int.le_natAbs⟩
end Mine
set_option genSizeOf false
set_option genInjectivity false
namespace Mine
open PySem
inductive V where
 |int (i:Int)
 |bool (b:Bool)
 |none
 |str (s:Str)
 |tup (xs:List V)
 |lst (n:Nat)
 |fn (k:Nat)
 |exc (k:Nat)
abbrev Hp:=List (List V)
abbrev Loc:=List (Option V)
inductive BOp where
 |add|sub|mul|fdiv|mod|pow
inductive COp where
 |lt|le|gt|ge|eq|ne|isin|notin|is
inductive Bi where
 |abs|len|int|list|tuple|min|listrev
inductive Ty where
 |int|bool|tuple|list|cls (k:Nat)
mutual
inductive PE where
 |cint (i:Int)
 |cbool (b:Bool)
 |cnone
 |var (i:Nat)
 |fnv (k:Nat)
 |glob (x:Str) (a b:Int)
 |bin (op:BOp) (a b:PE)
 |neg (a:PE)
 |nt (a:PE)
 |cmp (op:COp) (a b:PE)
 |and (es:PEs)
 |or (es:PEs)
 |call (f:Nat) (es:PEs)
 |callv (i f:Nat) (es:PEs)
 |bi (b:Bi) (es:PEs)
 |isi (a:PE) (ts:List Ty)
 |idx (a b:PE)
 |slc (a:PE) (lo hi:PO)
 |tup (es:PEs)
 |lst (es:PEs)
 |comp (elt:PE) (tg:Nat) (caps:List Nat) (it:PI) (cond:PO)
inductive PEs where
 |nil
 |cons (e:PE) (r:PEs)
inductive PO where
 |no
 |some (e:PE)
inductive PI where
 |seq (e:PE)
 |rev (e:PE)
 |rng (es:PEs)
end
inductive PS where
 |skip
 |seq (a b:PS)
 |assign (i:Nat) (e:PE)
 |unpack (xs:List Nat) (e:PE)
 |setidx (i:Nat) (k e:PE)
 |app (i:Nat) (e:PE)
 |pop (i:Nat)
 |rev (i:Nat)
 |ret (e:PE)
 |ite (c:PE) (a b:PS)
 |whl (c:PE) (b:PS)
 |forr (i:Nat) (it:PI) (b:PS)
 |raise (k:Nat)
 |opaq
noncomputable def af:Loc->Nat->Option V
 | [],_=>none
 |x::_,0=>x
 |_::r,n+1=>af r n
noncomputable def aH:Loc->Nat->V->Loc
 | [],_,_=>[]
 |_::r,0,v=>some v::r
 |x::r,n+1,v=>x::aH r n v
noncomputable def iz:Loc->List Nat->List V->Loc
 |ρ,i::is,v::vs=>iz (aH ρ i v) is vs
 |ρ,_,_=>ρ
noncomputable def items(H:Hp):V->Option (List V)
 | .tup xs=>some xs
 | .lst n=>H[n]?
 |_=>none
noncomputable def bm(H:Hp):V->Option Bool
 | .bool b=>some b
 | .int i=>some (i != 0)
 | .none=>some false
 | .tup xs=>some (!xs.isEmpty)
 | .lst n=>(H[n]?).map fun xs=>!xs.isEmpty
 |_=>none
noncomputable def cD(n:Nat)(k:Int):Option Nat:=
 if 0<=k then (if k<n then some k.toNat else none) else (if 0<=k+n then some (k+n).toNat else none)
noncomputable def dH(n:Nat)(k:Int):Nat:=
 (max 0 (min (if k<0 then k+n else k) n)).toNat
noncomputable def cut(xs:List V)(lo hi:Nat):List V:=(xs.take hi).drop lo
abbrev Call:=Nat->List V->Hp->(V->Hp->Prop)->(Nat->Hp->Prop)->Prop
noncomputable def lim:Nat:=1000000
noncomputable def ifSome{β:Type}(o:Option β)(P:β->Prop):Prop:=match o with
 |some v=>P v
 |none=>False
theorem aa{β:Type}{v:β}{P:β->Prop}:ifSome (some v) P=P v:=rfl
theorem ifSome.get{β:Type}{o:Option β}{P:β->Prop}(q:ifSome o P):∃v,o=some v/\P v:=by
 cases o with
 |none=>exact False.elim q
 |some v=>exact ⟨v,rfl,q⟩
theorem ifSome.mk{β:Type}{o:Option β}{P:β->Prop}{v:β}(e:o=some v)(q:P v):ifSome o P:=by rw[e];exact q
noncomputable def ifLst(o:Option V)(P:Nat->Prop):Prop:=match o with
 |some (.lst n)=>P n
 |_=>False
theorem bO{n:Nat}{P:Nat->Prop}:ifLst (some (.lst n)) P=P n:=rfl
theorem ifLst.get{o:Option V}{P:Nat->Prop}(q:ifLst o P):∃n,o=some (.lst n)/\P n:=by
 cases o with
 |none=>exact False.elim q
 |some v=>cases v <;> first|exact False.elim q|exact ⟨_,rfl,q⟩
noncomputable def ifTup(v:V)(P:List V->Prop):Prop:=match v with
 | .tup xs=>P xs
 |_=>False
theorem fy{xs:List V}{P:List V->Prop}:ifTup (.tup xs) P=P xs:=rfl
theorem ifTup.get{v:V}{P:List V->Prop}(q:ifTup v P):∃xs,v=.tup xs/\P xs:=by
 cases v <;> first|exact False.elim q|exact ⟨_,rfl,q⟩
noncomputable def ifInt(v:V)(P:Int->Prop):Prop:=match v with
 | .int i=>P i
 |_=>False
theorem fu{i:Int}{P:Int->Prop}:ifInt (.int i) P=P i:=rfl
theorem ifInt.get{v:V}{P:Int->Prop}(q:ifInt v P):∃i,v=.int i/\P i:=by
 cases v <;> first|exact False.elim q|exact ⟨_,rfl,q⟩
noncomputable def pY(b:Int):Prop:=b≠0
noncomputable def ifIL(v:V)(P:Int->Prop)(L:Nat->Prop):Prop:=match v with
 | .int i=>P i
 | .lst n=>L n
 |_=>False
theorem ifIL.get{v:V}{P:Int->Prop}{L:Nat->Prop}(q:ifIL v P L):(∃i,v=.int i/\P i)\/∃n,v=.lst n/\L n:=by
 cases v <;> first|exact False.elim q|exact .inl ⟨_,rfl,q⟩ |exact .inr ⟨_,rfl,q⟩
noncomputable def ifI2(x y:V)(P:Int->Int->Prop):Prop:=ifInt x fun a=>ifInt y fun b=>P a b
theorem ifI2.get{x y:V}{P:Int->Int->Prop}(q:ifI2 x y P):∃a b,x=.int a/\y=.int b/\P a b:=by
 obtain ⟨a,e,q⟩:=ifInt.get q
 obtain ⟨b,e',q⟩:=ifInt.get q
 exact ⟨a,b,e,e',q⟩
noncomputable def gN(op:BOp)(x y:V)(H:Hp)(Q:V->Hp->Prop):Prop:=
 match op with
 | .add=>ifIL x (fun a=>ifInt y fun b=>Q (.int (a+b)) H) fun m=>ifLst (some y) fun n=>ifSome H[m]? fun xs=>ifSome H[n]? fun ys=>xs.length+ys.length<=lim/\Q (.lst H.length) (H++[xs++ys])
 | .sub=>ifI2 x y fun a b=>Q (.int (a-b)) H
 | .mul=>ifIL x (fun a=>ifInt y fun b=>IntMulOk a b/\Q (.int (a*b)) H) fun m=>ifInt y fun k=>∃x,H[m]?=some [x]/\0<=k/\k<=lim/\Q (.lst H.length) (H++[List.replicate k.toNat x])
 | .fdiv=>ifI2 x y fun a b=>pY b/\Q (.int (a.fdiv b)) H
 | .mod=>ifI2 x y fun a b=>b≠0/\Q (.int (a.fmod b)) H
 | .pow=>ifI2 x y fun a b=>0<=b/\b<=1000/\a.natAbs<2^64/\Q (.int (a^b.toNat)) H
noncomputable def vi(H:Hp)(x:V)(d:PyData):Prop:=
 (∃cs:List Int,x=.tup (cs.map .int)/\d=.tuple (cs.map .int))\/(∃k,∃cs:List Int,x=.lst k/\H[k]?=some (cs.map .int)/\d=.list (cs.map .int))
noncomputable def l6(x y:V)(H:Hp)(Q:Bool->Prop):Prop:=
 ∃da db,vi H x da/\vi H y db/\Q (PyData.eqv da db)
noncomputable def Cv(x y:V)(H:Hp)(P:Prop):Prop:=
 ∃m n a as,x=.lst m/\y=.lst n/\H[m]?=some (a::as)/\H[n]?=some []/\P
noncomputable def ifIO(v:V)(P:Int->Prop)(D:Prop):Prop:=match v with
 | .int i=>P i
 |_=>D
theorem ifIO.get{v:V}{P:Int->Prop}{D:Prop}(q:ifIO v P D):(∃i,v=.int i/\P i)\/D:=by
 cases v <;> first|exact .inr q|exact .inl ⟨_,rfl,q⟩
noncomputable def isN(x:V):Bool:=match x with | .none=>true|_=>false
noncomputable def ifNo(v:V)(P:Prop):Prop:=match v with
 | .none=>P
 |_=>False
theorem ifNo.get{v:V}{P:Prop}(q:ifNo v P):v=.none/\P:=by
 cases v <;> first|exact False.elim q|exact ⟨rfl,q⟩
noncomputable def dJ(op:COp)(x y:V)(H:Hp)(Q:V->Hp->Prop):Prop:=
 match op with
 | .lt=>ifI2 x y fun a b=>Q (.bool (decide (a<b))) H
 | .le=>ifI2 x y fun a b=>Q (.bool (decide (a<=b))) H
 | .gt=>ifI2 x y fun a b=>Q (.bool (decide (b<a))) H
 | .ge=>ifI2 x y fun a b=>Q (.bool (decide (b<=a))) H
 | .eq=>ifIO x (fun a=>ifInt y fun b=>Q (.bool (decide (a=b))) H) (l6 x y H (fun b=>Q (.bool b) H)\/Cv x y H (Q (.bool false) H))
 | .ne=>ifIO x (fun a=>ifInt y fun b=>Q (.bool (!decide (a=b))) H) (l6 x y H fun b=>Q (.bool (!b)) H)
 | .is=>ifNo y (Q (.bool (isN x)) H)
 | .isin=>ifNo x (ifLst (some y) fun n=>ifSome H[n]? fun xs=>(∀z∈xs,∃t,z=.tup t)/\Q (.bool false) H)
 | .notin=>False
noncomputable def if1(vs:List V)(P:V->Prop):Prop:=match vs with
 | [x]=>P x
 |_=>False
theorem if1.get{vs:List V}{P:V->Prop}(q:if1 vs P):∃x,vs=[x]/\P x:=by
 rcases vs with _ | ⟨x,_ | ⟨_,_⟩⟩ <;> first|exact False.elim q|exact ⟨_,rfl,q⟩
noncomputable def if2(vs:List V)(P:V->V->Prop):Prop:=match vs with
 | [x,y]=>P x y
 |_=>False
theorem if2.get{vs:List V}{P:V->V->Prop}(q:if2 vs P):∃x y,vs=[x,y]/\P x y:=by
 rcases vs with _ | ⟨x,_ | ⟨y,_ | ⟨_,_⟩⟩⟩ <;> first|exact False.elim q|exact ⟨_,_,rfl,q⟩
noncomputable def ifBo(v:V)(P:Bool->Prop):Prop:=match v with
 | .bool b=>P b
 |_=>False
theorem ifBo.get{v:V}{P:Bool->Prop}(q:ifBo v P):∃b,v=.bool b/\P b:=by
 cases v <;> first|exact False.elim q|exact ⟨_,rfl,q⟩
noncomputable def ld(b:Bi)(vs:List V)(H:Hp)(Q:V->Hp->Prop):Prop:=
 match b with
 | .abs=>if1 vs fun x=>ifInt x fun a=>Q (.int (if a<0 then -a else a)) H
 | .len=>if1 vs fun x=>ifSome (items H x) fun xs=>Q (.int xs.length) H
 | .int=>if1 vs fun x=>ifBo x fun b=>Q (.int (if b then 1 else 0)) H
 | .list=>if1 vs fun x=>ifSome (items H x) fun xs=>Q (.lst H.length) (H++[xs])
 | .tuple=>if1 vs fun x=>ifSome (items H x) fun xs=>Q (.tup xs) H
 | .listrev=>if1 vs fun x=>∃xs,x=.tup xs/\Q (.lst H.length) (H++[xs.reverse])
 | .min=>if2 vs fun x y=>ifI2 x y fun a b=>Q (.int (if b<a then b else a)) H
noncomputable def zA(sub:Nat->Nat->Bool)(v:V)(t:Ty):Option Bool:=
 match v,t with
 | .exc c,.cls k=>some (sub c k)
 | .exc _,_=>none
 | .fn _,_=>none
 |_,.cls _=>none
 | .int _,.int=>some true
 | .bool _,.int=>some true
 | .bool _,.bool=>some true
 | .tup _,.tuple=>some true
 | .lst _,.list=>some true
 |_,_=>some false
noncomputable def dX(x y:V)(H:Hp)(Q:V->Hp->Prop):Prop:=
 ifInt y fun k=>ifSome (items H x) fun xs=>ifSome (cD xs.length k) fun i=>ifSome xs[i]? fun v=>Q v H
noncomputable def endAt(n d:Nat)(o:Option V):Option Nat:=match o with
 |none=>some d
 |some (.int a)=>some (dH n a)
 |_=>none
theorem endAt.get{n d a:Nat}{o:Option V}(h:endAt n d o=some a):(o=none/\a=d)\/∃i,o=some (.int i)/\a=dH n i:=by
 cases o with
 |none=>cases h;exact .inl ⟨rfl,rfl⟩
 |some v=>cases v <;> cases h;exact .inr ⟨_,rfl,rfl⟩
noncomputable def Ft(n:Nat)(lo hi:Option V):Option (Nat × Nat):=(endAt n 0 lo).bind fun a=>(endAt n n hi).map fun b=>(a,b)
noncomputable def mL(x:V)(lo hi:Option V)(H:Hp)(Q:V->Hp->Prop):Prop:=
 ifLst (some x) fun n=>ifSome H[n]? fun xs=>ifSome (Ft xs.length lo hi) fun p=>Q (.lst H.length) (H++[cut xs p.1 p.2])
noncomputable def dx(a b c:Int):List Int:=(List.range (Builtin.Range.rangeSize a b c).toNat).map fun (i:Nat)=>a+c*(i:Int)
noncomputable def cI(a:Int):Prop:=-(2^40)<a/\a<2^40
noncomputable def toI(v:V):Option Int:=match v with
 | .int i=>some i
 |_=>none
theorem toI.get{v:V}{i:Int}(h:toI v=some i):v=.int i:=by
 cases v <;> cases h;rfl
noncomputable def vints:List V->Option (List Int)
 | []=>some []
 |v::r=>(toI v).bind fun i=>(vints r).map fun l=>i::l
theorem vints.get:∀ {vs:List V}{l:List Int},vints vs=some l->vs=l.map .int
 | [],_,h=>by cases h;rfl
 |v::r,_,h=>by
  obtain ⟨i,h1,h2⟩:=JD.mp h
  obtain ⟨l,h3,e⟩:=IT.mp h2
  subst e
  rw[toI.get h1,vints.get h3];rfl
noncomputable def Gj(l:List Int):Option (Int × Int × Int):=match l with
 | [b]=>some (0,b,1)
 | [a,b]=>some (a,b,1)
 | [a,b,c]=>some (a,b,c)
 |_=>none
noncomputable def Bo(vs:List V):Option (Int × Int × Int):=(vints vs).bind Gj
noncomputable def oZ(vs:List V)(H:Hp)(Q:List V->Option Nat->Hp->Prop):Prop:=
 ∃a b c,Bo vs=some (a,b,c)/\cI a/\cI b/\(c=1\/c=-1\/c=2)/\Q ((dx a b c).map V.int) none H
noncomputable def jA:V->Option Nat
 | .lst n=>some n
 |_=>none
noncomputable def cZ(step:V->Hp->(Option V->Hp->Prop)->Prop):List V->Hp->(List V->Hp->Prop)->Prop
 | [],H,Q=>Q [] H
 |x::xs,H,Q=>step x H fun o H1=>cZ step xs H1 fun ys H2=>Q (match o with|some y=>y::ys|none=>ys) H2
noncomputable def jH(tg:Nat)(x:V):Option Loc:=
 match tg,x with
 |1,x=>some [some x]
 |2,.tup [a,b]=>some [some a,some b]
 |_,_=>none
section
variable (sub:Nat->Nat->Bool)(Φ:Call)
mutual
noncomputable def wpE:PE->Loc->Hp->(V->Hp->Prop)->Prop
 | .cint i,_,H,Q=>Q (.int i) H
 | .cbool b,_,H,Q=>Q (.bool b) H
 | .cnone,_,H,Q=>Q .none H
 | .var i,ρ,H,Q=>ifSome (af ρ i) fun v=>Q v H
 | .fnv k,_,H,Q=>Q (.fn k) H
 | .glob _ a b,_,H,Q=>Q (.tup [.int a,.int b]) H
 | .bin op a b,ρ,H,Q=>wpE a ρ H fun x H1=>wpE b ρ H1 fun y H2=>gN op x y H2 Q
 | .neg a,ρ,H,Q=>wpE a ρ H fun x H1=>match x with | .int i=>Q (.int (-i)) H1|_=>False
 | .nt a,ρ,H,Q=>wpE a ρ H fun x H1=>ifSome (bm H1 x) fun t=>Q (.bool (!t)) H1
 | .cmp op a b,ρ,H,Q=>wpE a ρ H fun x H1=>wpE b ρ H1 fun y H2=>dJ op x y H2 Q
 | .and es,ρ,H,Q=>bX true es ρ H Q
 | .or es,ρ,H,Q=>bX false es ρ H Q
 | .call f es,ρ,H,Q=>eV es ρ H fun vs H1=>Φ f vs H1 Q fun _ _=>False
 | .callv i f es,ρ,H,Q=>ifSome (af ρ i) fun v=>∃k,(k=f\/k=f+1)/\v=.fn k/\eV es ρ H fun vs H1=>Φ k vs H1 Q fun _ _=>False
 | .bi b es,ρ,H,Q=>eV es ρ H fun vs H1=>ld b vs H1 Q
 | .isi a ts,ρ,H,Q=>wpE a ρ H fun x H1=>ifSome (ts.mapM (zA sub x)) fun bs=>Q (.bool (bs.any id)) H1
 | .idx a b,ρ,H,Q=>wpE a ρ H fun x H1=>wpE b ρ H1 fun y H2=>dX x y H2 Q
 | .slc a lo hi,ρ,H,Q=>wpE a ρ H fun x H1=>wpO lo ρ H1 fun l H2=>wpO hi ρ H2 fun h H3=>mL x l h H3 Q
 | .tup es,ρ,H,Q=>eV es ρ H fun vs H1=>Q (.tup vs) H1
 | .lst es,ρ,H,Q=>eV es ρ H fun vs H1=>Q (.lst H1.length) (H1++[vs])
 | .comp elt tg caps it cond,ρ,H,Q=>wpI it ρ H fun xs _ H1=>xs.length<=lim/\cZ (fun x H2 k=>ifSome (jH tg x) fun ρt =>
   wpO cond (ρt++caps.map (af ρ)) H2 fun c H3=>ifSome (match c with|some c=>bm H3 c|none=>some true) fun t =>
    if t then wpE elt (ρt++caps.map (af ρ)) H3 fun y H4=>k (some y) H4 else k none H3) xs H1 fun ys H5=>Q (.lst H5.length) (H5++[ys])
noncomputable def eV:PEs->Loc->Hp->(List V->Hp->Prop)->Prop
 | .nil,_,H,Q=>Q [] H
 | .cons e r,ρ,H,Q=>wpE e ρ H fun v H1=>eV r ρ H1 fun vs H2=>Q (v::vs) H2
noncomputable def bX(b:Bool):PEs->Loc->Hp->(V->Hp->Prop)->Prop
 | .nil,_,_,_=>False
 | .cons e .nil,ρ,H,Q=>wpE e ρ H Q
 | .cons e r,ρ,H,Q=>wpE e ρ H fun v H1=>ifSome (bm H1 v) fun t=>if t=b then bX b r ρ H1 Q else Q v H1
noncomputable def wpO:PO->Loc->Hp->(Option V->Hp->Prop)->Prop
 | .no,_,H,Q=>Q none H
 | .some e,ρ,H,Q=>wpE e ρ H fun v H1=>Q (some v) H1
noncomputable def wpI:PI->Loc->Hp->(List V->Option Nat->Hp->Prop)->Prop
 | .seq e,ρ,H,Q=>wpE e ρ H fun v H1=>ifSome (items H1 v) fun xs=>Q xs (jA v) H1
 | .rev e,ρ,H,Q=>wpE e ρ H fun v H1=>ifSome (items H1 v) fun xs=>Q xs.reverse (jA v) H1
 | .rng es,ρ,H,Q=>eV es ρ H fun vs H1=>oZ vs H1 Q
end
noncomputable def cU(body:Loc->Hp->(Loc->Hp->Prop)->Prop)(i:Nat):List V->Loc->Hp->(Loc->Hp->Prop)->Prop
 | [],ρ,H,N=>N ρ H
 |x::xs,ρ,H,N=>body (aH ρ i x) H fun ρ' H'=>cU body i xs ρ' H' N
noncomputable def og(W:Nat->Prop)(ρ:Loc)(H:Hp)(i:Nat)(Q:Nat->List V->Prop):Prop:=
 ifLst (af ρ i) fun n=>W n/\ifSome H[n]? fun xs=>Q n xs
noncomputable def wpS:(Nat->Prop)->PS->Loc->Hp->(Loc->Hp->Prop)->(V->Hp->Prop)->(Nat->Hp->Prop)->Prop
 |_,.skip,ρ,H,N,_,_=>N ρ H
 |W,.seq a b,ρ,H,N,R,X=>wpS W a ρ H (fun ρ1 H1=>wpS W b ρ1 H1 N R X) R X
 |_,.assign i e,ρ,H,N,_,_=>wpE sub Φ e ρ H fun v H1=>N (aH ρ i v) H1
 |_,.unpack is e,ρ,H,N,_,_=>wpE sub Φ e ρ H fun v H1=>ifTup v fun vs=>vs.length=is.length/\N (iz ρ is vs) H1
 |W,.setidx i k e,ρ,H,N,_,_=>wpE sub Φ e ρ H fun v H1=>ifLst (af ρ i) fun n=>W n/\wpE sub Φ k ρ H1 fun kv H2=>ifInt kv fun j=>ifSome H2[n]? fun xs =>
   ifSome (cD xs.length j) fun p=>N ρ (H2.set n (xs.set p v))
 |W,.app i e,ρ,H,N,_,_=>ifLst (af ρ i) fun n=>W n/\wpE sub Φ e ρ H fun v H1=>ifSome H1[n]? fun xs=>xs.length<lim/\N ρ (H1.set n (xs++[v]))
 |W,.pop i,ρ,H,N,_,_=>og W ρ H i fun n xs=>∃ys k,xs=ys++[.int k]/\N ρ (H.set n ys)
 |W,.rev i,ρ,H,N,_,_=>og W ρ H i fun n xs=>N ρ (H.set n xs.reverse)
 |_,.ret e,ρ,H,_,R,_=>wpE sub Φ e ρ H R
 |W,.ite c a b,ρ,H,N,R,X=>wpE sub Φ c ρ H fun v H1=>ifSome (bm H1 v) fun t=>if t then wpS W a ρ H1 N R X else wpS W b ρ H1 N R X
 |W,.whl c b,ρ,H,N,R,_=>∃ (I:Loc->Hp->Prop) (μ:Loc->Hp->Nat),I ρ H/\∀ρ1 H1,I ρ1 H1->wpE sub Φ c ρ1 H1 fun v H2=>ifSome (bm H2 v) fun t =>
   if t then wpS W b ρ1 H2 (fun ρ3 H3=>I ρ3 H3/\μ ρ3 H3<μ ρ1 H1) R (fun _ _=>False) else N ρ1 H2
 |W,.forr i it b,ρ,H,N,R,_=>wpI sub Φ it ρ H fun xs src H1=>cU (fun ρ2 H2 k=>wpS (fun m=>W m/\some m≠src) b ρ2 H2 k R fun _ _=>False) i xs ρ H1 N
 |_,.raise k,_,H,_,_,X=>X k H
 |_,.opaq,_,_,_,_,_=>False
end
section
set_option autoImplicit true
set_option relaxedAutoImplicit true
variable {sub:Nat->Nat->Bool}{Φ:Call}
theorem qE1:wpE sub Φ (.cint i) z1 H Q=(Q (.int i) H):=rfl
theorem qE2:wpE sub Φ (.cbool b) z1 H Q=(Q (.bool b) H):=rfl
theorem qE4:wpE sub Φ (.cnone) z1 H Q=(Q .none H):=rfl
theorem qE5:wpE sub Φ (.var i) ρ H Q=(ifSome (af ρ i) fun v=>Q v H):=rfl
theorem qE6:wpE sub Φ (.fnv k) z1 H Q=(Q (.fn k) H):=rfl
theorem qE7:wpE sub Φ (.glob y1 a b) z1 H Q=(Q (.tup [.int a,.int b]) H):=rfl
theorem qE8:wpE sub Φ (.bin op a b) ρ H Q=(wpE sub Φ a ρ H fun x H1=>wpE sub Φ b ρ H1 fun y H2=>gN op x y H2 Q):=rfl
theorem qE9:wpE sub Φ (.neg a) ρ H Q=(wpE sub Φ a ρ H fun x H1=>match x with | .int i=>Q (.int (-i)) H1|_=>False):=rfl
theorem jh:wpE sub Φ (.nt a) ρ H Q=(wpE sub Φ a ρ H fun x H1=>ifSome (bm H1 x) fun t=>Q (.bool (!t)) H1):=rfl
theorem bx:wpE sub Φ (.cmp op a b) ρ H Q=(wpE sub Φ a ρ H fun x H1=>wpE sub Φ b ρ H1 fun y H2=>dJ op x y H2 Q):=rfl
theorem lZ:wpE sub Φ (.and es) ρ H Q=(bX sub Φ true es ρ H Q):=rfl
theorem iP:wpE sub Φ (.or es) ρ H Q=(bX sub Φ false es ρ H Q):=rfl
theorem aM:wpE sub Φ (.call f es) ρ H Q=(eV sub Φ es ρ H fun vs H1=>Φ f vs H1 Q fun _ _=>False):=rfl
theorem Fk:wpE sub Φ (.callv i f es) ρ H Q=(ifSome (af ρ i) fun v=>∃k,(k=f\/k=f+1)/\v=.fn k/\eV sub Φ es ρ H fun vs H1=>Φ k vs H1 Q fun _ _=>False):=rfl
theorem b6:wpE sub Φ (.bi b es) ρ H Q=(eV sub Φ es ρ H fun vs H1=>ld b vs H1 Q):=rfl
theorem w8:wpE sub Φ (.isi a ts) ρ H Q=(wpE sub Φ a ρ H fun x H1=>ifSome (ts.mapM (zA sub x)) fun bs=>Q (.bool (bs.any id)) H1):=rfl
theorem aU:wpE sub Φ (.idx a b) ρ H Q=(wpE sub Φ a ρ H fun x H1=>wpE sub Φ b ρ H1 fun y H2=>dX x y H2 Q):=rfl
theorem xW:wpE sub Φ (.slc a lo hi) ρ H Q=(wpE sub Φ a ρ H fun x H1=>wpO sub Φ lo ρ H1 fun l H2=>wpO sub Φ hi ρ H2 fun h H3=>mL x l h H3 Q):=rfl
theorem dN:wpE sub Φ (.tup es) ρ H Q=(eV sub Φ es ρ H fun vs H1=>Q (.tup vs) H1):=rfl
theorem fY:wpE sub Φ (.lst es) ρ H Q=(eV sub Φ es ρ H fun vs H1=>Q (.lst H1.length) (H1++[vs])):=rfl
theorem f9:wpE sub Φ (.comp elt tg caps it cnd) ρ H Q=(wpI sub Φ it ρ H fun xs _ H1=>xs.length<=lim/\cZ (fun x H2 k=>ifSome (jH tg x) fun ρt=>wpO sub Φ cnd (ρt++caps.map (af ρ)) H2 fun c H3=>ifSome (match c with|some c=>bm H3 c|none=>some true) fun t=>if t then wpE sub Φ elt (ρt++caps.map (af ρ)) H3 fun y H4=>k (some y) H4 else k none H3) xs H1 fun ys H5=>Q (.lst H5.length) (H5++[ys])):=rfl
theorem aA:eV sub Φ (.nil) z1 H Q=(Q [] H):=rfl
theorem az:eV sub Φ (.cons e r) ρ H Q=(wpE sub Φ e ρ H fun v H1=>eV sub Φ r ρ H1 fun vs H2=>Q (v::vs) H2):=rfl
theorem qO1:wpO sub Φ (.no) z1 H Q=(Q none H):=rfl
theorem qO2:wpO sub Φ (.some e) ρ H Q=(wpE sub Φ e ρ H fun v H1=>Q (some v) H1):=rfl
theorem qI1:wpI sub Φ (.seq e) ρ H Q=(wpE sub Φ e ρ H fun v H1=>ifSome (items H1 v) fun xs=>Q xs (jA v) H1):=rfl
theorem qI2:wpI sub Φ (.rev e) ρ H Q=(wpE sub Φ e ρ H fun v H1=>ifSome (items H1 v) fun xs=>Q xs.reverse (jA v) H1):=rfl
theorem qI3:wpI sub Φ (.rng es) ρ H Q=(eV sub Φ es ρ H fun vs H1=>oZ vs H1 Q):=rfl
theorem qS1:wpS sub Φ z0 (.skip) ρ H N z5 z6=(N ρ H):=rfl
theorem qS2:wpS sub Φ W (.seq a b) ρ H N R X=(wpS sub Φ W a ρ H (fun ρ1 H1=>wpS sub Φ W b ρ1 H1 N R X) R X):=rfl
theorem qS3:wpS sub Φ z0 (.assign i e) ρ H N z5 z6=(wpE sub Φ e ρ H fun v H1=>N (aH ρ i v) H1):=rfl
theorem qS4:wpS sub Φ z0 (.unpack is e) ρ H N z5 z6=(wpE sub Φ e ρ H fun v H1=>ifTup v fun vs=>vs.length=is.length/\N (iz ρ is vs) H1):=rfl
theorem qS5:wpS sub Φ W (.setidx i k e) ρ H N z5 z6=(wpE sub Φ e ρ H fun v H1=>ifLst (af ρ i) fun n=>W n/\wpE sub Φ k ρ H1 fun kv H2=>ifInt kv fun j=>ifSome H2[n]? fun xs=>ifSome (cD xs.length j) fun p=>N ρ (H2.set n (xs.set p v))):=rfl
theorem qS6:wpS sub Φ W (.app i e) ρ H N z5 z6=(ifLst (af ρ i) fun n=>W n/\wpE sub Φ e ρ H fun v H1=>ifSome H1[n]? fun xs=>xs.length<lim/\N ρ (H1.set n (xs++[v]))):=rfl
theorem qS7:wpS sub Φ W (.pop i) ρ H N z5 z6=(og W ρ H i fun n xs=>∃ys k,xs=ys++[.int k]/\N ρ (H.set n ys)):=rfl
theorem qS8:wpS sub Φ W (.rev i) ρ H N z5 z6=(og W ρ H i fun n xs=>N ρ (H.set n xs.reverse)):=rfl
theorem qS9:wpS sub Φ z0 (.ret e) ρ H z4 R z6=(wpE sub Φ e ρ H R):=rfl
theorem bw:wpS sub Φ W (.ite c a b) ρ H N R X=(wpE sub Φ c ρ H fun v H1=>ifSome (bm H1 v) fun t=>if t then wpS sub Φ W a ρ H1 N R X else wpS sub Φ W b ρ H1 N R X):=rfl
theorem jW:wpS sub Φ W (.whl c b) ρ H N R z6=(∃ (I:Loc->Hp->Prop) (μ:Loc->Hp->Nat),I ρ H/\∀ρ1 H1,I ρ1 H1->wpE sub Φ c ρ1 H1 fun v H2=>ifSome (bm H2 v) fun t=>if t then wpS sub Φ W b ρ1 H2 (fun ρ3 H3=>I ρ3 H3/\μ ρ3 H3<μ ρ1 H1) R (fun _ _=>False) else N ρ1 H2):=rfl
theorem dp:wpS sub Φ W (.forr i it b) ρ H N R z6=(wpI sub Φ it ρ H fun xs src H1=>cU (fun ρ2 H2 k=>wpS sub Φ (fun m=>W m/\some m≠src) b ρ2 H2 k R fun _ _=>False) i xs ρ H1 N):=rfl
theorem vq:wpS sub Φ z0 (.raise k) z2 H z4 z5 X=(X k H):=rfl
end
structure Fn where
 np:Nat
 nv:Nat
 body:PS
noncomputable def eG(np nv:Nat)(vs:List V):Loc:=vs.map some++List.replicate (nv-np) none
noncomputable def ag(sub:Nat->Nat->Bool)(P:List Fn):Nat->Call
 |0=>fun _ _ _ _ _=>False
 |n+1=>fun f vs H Q X=>∃d,P[f]?=some d/\vs.length=d.np/\wpS sub (ag sub P n) (fun m=>H.length<=m) d.body (eG d.np d.nv vs) H (fun _ H'=>Q .none H') Q X
structure GC where
 fns:List Str
 cls:List Str
 globs:List (Str × Int × Int)
structure MC where
 g:GC
 scope:Scope
 names:List Str
noncomputable def MC.isGlob(c:MC) (x:Str):Bool:=decide (c.scope.names.lookup x=some NameKind.globalImplicit) && !(x == Str.ofString "__debug__")
noncomputable def MC.isVar(c:MC) (i:Nat) (x:Str):Bool:=decide (c.names[i]?=some x) && !(x == Str.ofString "__debug__") && !(x == Str.ofString "__classdict__") &&
 (decide (c.scope.names.lookup x=some NameKind.local) ||decide (c.scope.names.lookup x=some NameKind.cell) ||decide (c.scope.names.lookup x=some NameKind.free))
noncomputable def Dw:BOp->Operator
 | .add=>.Add | .sub=>.Sub | .mul=>.Mult | .fdiv=>.FloorDiv | .mod=>.Mod | .pow=>.Pow
noncomputable def lQ:COp->CmpOp
 | .lt=>.Lt | .le=>.LtE | .gt=>.Gt | .ge=>.GtE | .eq=>.Eq | .ne=>.NotEq | .isin=>.In | .notin=>.NotIn | .is=>.Is
noncomputable def nN:Bi->Str
 | .abs=>"abs" | .len=>"len" | .int=>"int" | .list=>"list" | .tuple=>"tuple" | .min=>"min" | .listrev=>"list"
noncomputable def Bi.isRev:Bi->Bool
 | .listrev=>true
 |_=>false
noncomputable def Ty.nm:Ty->Str
 | .int=>"int" | .bool=>"bool" | .tuple=>"tuple" | .list=>"list" | .cls _=>""
noncomputable def Ty.isCls:Ty->Bool
 | .cls _=>true
 |_=>false
noncomputable def tyN:List Ty->Str
 | [t]=>t.nm
 |_=>""
noncomputable def ty1:List Ty->Bool
 | [t]=>!t.isCls
 |_=>false
noncomputable def Gk(k:Const):Str:=match k with
 | .str u=>u
 |_=>""
noncomputable def vwE(e:Expr):List Expr × Pos × Nat × Scope × Str:=match e with
 | .BoolOp _ vs p=>(vs,p,0,default,"")
 | .BinOp a _ b p=>([a,b],p,0,default,"")
 | .UnaryOp _ a p=>([a],p,0,default,"")
 | .ListComp x gs sc p=>(x::gs.flatMap (fun g=>g.target::g.iter::g.ifs),p,0,sc,"")
 | .Compare l _ rs p=>(l::rs,p,0,default,"")
 | .Call f as _ p=>(f::as,p,0,default,"")
 | .Constant k n p=>([],p,n,default,Gk k)
 | .Attribute v _ p=>([v],p,0,default,"")
 | .Subscript a b p=>([a,b],p,0,default,"")
 | .Name x p=>([],p,0,default,x)
 | .List es p=>(es,p,0,default,"")
 | .Tuple es n p=>(es,p,n,default,"")
 | .Slice l h _ p=>([l.getD (.Name "" p),h.getD (.Name "" p)],p,0,default,"")
 |_=>([],default,0,default,"")
noncomputable def dy(e:Expr):List Expr:=(vwE e).1
noncomputable def bz(e:Expr):Pos:=(vwE e).2.1
noncomputable def qz(e:Expr):Nat:=(vwE e).2.2.1
noncomputable def CP(e:Expr):Scope:=(vwE e).2.2.2.1
noncomputable def g8(e:Expr):Str:=(vwE e).2.2.2.2
noncomputable def kid(i:Nat) (e:Expr):Expr:=(dy e).getD i (.Name "" default)
noncomputable def vwS(s:Stmt):List Expr × List Stmt × List Stmt × Pos:=match s with
 | .Return o p=>(o.toList,[],[],p)
 | .Assign ts v p=>(v::ts,[],[],p)
 | .For t v x y p=>([v,t],x,y,p)
 | .While v x y p=>([v],x,y,p)
 | .If v x y p=>([v],x,y,p)
 | .Raise o _ p=>(o.toList,[],[],p)
 | .Expr v p=>([v],[],[],p)
 |_=>([],[],[],default)
noncomputable def cj(i:Nat) (s:Stmt):Expr:=(vwS s).1.getD i (.Name "" default)
noncomputable def spos(s:Stmt):Pos:=(vwS s).2.2.2
noncomputable def shp(e:Expr):Nat:=match e with
 | .Starred ..=>1
 | .Slice ..=>2
 | .Set ..=>3
 | .ListComp .. | .SetComp .. | .DictComp ..=>4
 | .Tuple ..=>5
 |_=>0
noncomputable def cX(e:Expr):Bool:=shp e != 1
noncomputable def cS(es:List Expr):Bool:=es.all cX
noncomputable def pG(e:Expr):Bool:=shp e != 2
noncomputable def jd(e:Expr):Bool:=shp e != 3
noncomputable def fI(e:Expr):Bool:=shp e != 4
noncomputable def rO(e:Expr):Bool:=shp e != 5
noncomputable def mZ(c:MC)(sc:Scope)(xs:List Str)(cs:List Str)(caps:List Nat):Bool:=
 decide (sc.kind=ScopeKind.function) && (sc.names.all (fun p=>match p.2 with
  | .local=>decide (sc.names.lookup p.1=some NameKind.local)
  | .free=>cs.contains p.1
  | .globalImplicit=>true
  |_=>false) && ((decide xs.Nodup && xs.all fun x=>decide (sc.names.lookup x=some NameKind.local)) && (cs.all (fun n=>decide (sc.names.lookup n=some NameKind.free)) &&
  (cs.all (fun n=>decide (c.scope.names.lookup n=some NameKind.cell) ||decide (c.scope.names.lookup n=some NameKind.free)) && caps.all fun j=>decide (c.names[j]?=some (c.names.getD j ""))))))
noncomputable def MC.nm(c:MC) (i:Nat):Str:=c.names.getD i ""
noncomputable def MC.fn(c:MC) (k:Nat):Str:=c.g.fns.getD k ""
noncomputable def MC.fnOk(c:MC)(k:Nat):Bool:=decide (c.g.fns[k]?=some (c.fn k)) && c.isGlob (c.fn k)
noncomputable def MC.clN(c:MC) (k:Nat):Str:=c.g.cls.getD k ""
noncomputable def MC.cap(c:MC)(caps:List Nat):List Str:=caps.map c.nm
noncomputable def tgN(tg:Nat)(e:Expr):List Str:=match tg with
 |1=>[g8 e]
 |_=>[g8 (kid 0 e),g8 (kid 1 e)]
noncomputable def tgE(tg:Nat)(e:Expr):Expr:=match tg with
 |1=>.Name (g8 e) (bz e)
 |_=>.Tuple [.Name (g8 (kid 0 e)) (bz (kid 0 e)),.Name (g8 (kid 1 e)) (bz (kid 1 e))] (qz e) (bz e)
noncomputable def MC.inn(c:MC)(tg:Nat)(caps:List Nat)(e:Expr):MC:=⟨c.g,CP e,tgN tg (kid 1 e)++c.cap caps⟩
mutual
noncomputable def gE(c:MC):PE->Expr->Expr × Bool
 | .cint i,e=>(.Constant (.int i) (qz e) (bz e),true)
 | .cbool b,e=>(.Constant (.bool b) (qz e) (bz e),true)
 | .cnone,e=>(.Constant .none (qz e) (bz e),true)
 | .var i,e=>(.Name (c.nm i) (bz e),c.isVar i (c.nm i))
 | .fnv k,e=>(.Name (c.fn k) (bz e),c.fnOk k)
 | .glob x a b,e=>(.Name x (bz e),c.g.globs.contains (x,a,b) && c.isGlob x)
 | .bin op a b,e=>(.BinOp (gE c a (kid 0 e)).1 (Dw op) (gE c b (kid 1 e)).1 (bz e),(gE c a (kid 0 e)).2 && (gE c b (kid 1 e)).2)
 | .neg a,e=>(.UnaryOp .USub (gE c a (kid 0 e)).1 (bz e),(gE c a (kid 0 e)).2)
 | .nt a,e=>(.UnaryOp .Not (gE c a (kid 0 e)).1 (bz e),(gE c a (kid 0 e)).2)
 | .cmp op a b,e=>(.Compare (gE c a (kid 0 e)).1 [lQ op] [(gE c b (kid 1 e)).1] (bz e),!behindInMarks (lQ op) (gE c b (kid 1 e)).1 && ((gE c a (kid 0 e)).2 && (gE c b (kid 1 e)).2))
 | .and es,e=>(.BoolOp .And (gEs c es (dy e)).1 (bz e),(gEs c es (dy e)).2)
 | .or es,e=>(.BoolOp .Or (gEs c es (dy e)).1 (bz e),(gEs c es (dy e)).2)
 | .call f es,e=>(.Call (.Name (c.fn f) (bz (kid 0 e))) (gEs c es (dy e).tail).1 [] (bz e),c.fnOk f && (!(gEs c es (dy e).tail).1.isEmpty && (gEs c es (dy e).tail).2))
 | .callv i f es,e=>(.Call (.Name (c.nm i) (bz (kid 0 e))) (gEs c es (dy e).tail).1 [] (bz e),c.isVar i (c.nm i) && (decide (c.g.fns[f+1]?=some (c.fn (f+1))) && (!(gEs c es (dy e).tail).1.isEmpty && (gEs c es (dy e).tail).2)))
 | .bi b es,e=>match b.isRev with
  |false=>(.Call (.Name (nN b) (bz (kid 0 e))) (gEs c es (dy e).tail).1 [] (bz e),c.isGlob (nN b) && (!(gEs c es (dy e).tail).1.isEmpty && (gEs c es (dy e).tail).2))
  |true=>(.Call (.Name "list" (bz (kid 0 e))) [.Call (.Name "reversed" (bz (kid 0 (kid 1 e)))) (gEs c es (dy (kid 1 e)).tail).1 [] (bz (kid 1 e))] [] (bz e),
   (c.isGlob "list" && c.isGlob "reversed") && (!(gEs c es (dy (kid 1 e)).tail).1.isEmpty && (gEs c es (dy (kid 1 e)).tail).2))
 | .isi a ts,e=>(.Call (.Name "isinstance" (bz (kid 0 e))) [(gE c a (kid 1 e)).1,.Name (tyN ts) (bz (kid 2 e))] [] (bz e),((c.isGlob "isinstance" && c.isGlob (tyN ts)) && ty1 ts) && (cX (gE c a (kid 1 e)).1 && (gE c a (kid 1 e)).2))
 | .idx a b,e=>(.Subscript (gE c a (kid 0 e)).1 (gE c b (kid 1 e)).1 (bz e),pG (gE c b (kid 1 e)).1 && ((gE c a (kid 0 e)).2 && (gE c b (kid 1 e)).2))
 | .slc a lo hi,e=>(.Subscript (gE c a (kid 0 e)).1 (.Slice (gO c lo (kid 0 (kid 1 e))).1 (gO c hi (kid 1 (kid 1 e))).1 none (bz (kid 1 e))) (bz e),(gE c a (kid 0 e)).2 && ((gO c lo (kid 0 (kid 1 e))).2 && (gO c hi (kid 1 (kid 1 e))).2))
 | .tup es,e=>(.Tuple (gEs c es (dy e)).1 (qz e) (bz e),decide ((gEs c es (dy e)).1.length<=1000) && (gEs c es (dy e)).2)
 | .lst es,e=>(.List (gEs c es (dy e)).1 (bz e),decide ((gEs c es (dy e)).1.length<=1000) && (gEs c es (dy e)).2)
 | .comp elt tg caps it cond,e=>(.ListComp (gE (c.inn tg caps e) elt (kid 0 e)).1 [⟨tgE tg (kid 1 e),(gI c it (kid 2 e)).1,(y5 (c.inn tg caps e) cond (kid 3 e)).1,0⟩] (CP e) (bz e),
  ((decide (tg=1) ||decide (tg=2)) && mZ c (CP e) (tgN tg (kid 1 e)) (c.cap caps) caps) && ((gE (c.inn tg caps e) elt (kid 0 e)).2 && ((gI c it (kid 2 e)).2 && (y5 (c.inn tg caps e) cond (kid 3 e)).2)))
noncomputable def gEs(c:MC):PEs->List Expr->List Expr × Bool
 | .nil,_=>([],true)
 | .cons a r,es=>((gE c a (es.headD (.Name "" default))).1::(gEs c r es.tail).1,cX (gE c a (es.headD (.Name "" default))).1 && ((gE c a (es.headD (.Name "" default))).2 && (gEs c r es.tail).2))
noncomputable def gO(c:MC):PO->Expr->Option Expr × Bool
 | .no,_=>(none,true)
 | .some a,e=>(some (gE c a e).1,(gE c a e).2)
noncomputable def y5(c:MC):PO->Expr->List Expr × Bool
 | .no,_=>([],true)
 | .some a,e=>([(gE c a e).1],(gE c a e).2)
noncomputable def gI(c:MC):PI->Expr->Expr × Bool
 | .seq a,e=>((gE c a e).1,jd (gE c a e).1 && (gE c a e).2)
 | .rev a,e=>(.Call (.Name "reversed" (bz (kid 0 e))) [(gE c a (kid 1 e)).1] [] (bz e),c.isGlob "reversed" && (cX (gE c a (kid 1 e)).1 && (gE c a (kid 1 e)).2))
 | .rng es,e=>(.Call (.Name "range" (bz (kid 0 e))) (gEs c es (dy e).tail).1 [] (bz e),c.isGlob "range" && (!(gEs c es (dy e).tail).1.isEmpty && (gEs c es (dy e).tail).2))
end
noncomputable def gU(c:MC):List Nat->List Expr->List Expr
 | [],_=>[]
 |i::is,es=>.Name (c.nm i) (bz (es.headD (.Name "" default)))::gU c is es.tail
noncomputable def gM(c:MC)(i:Nat)(m:Str)(as:List Expr)(s:Stmt):Stmt:=
 .Expr (.Call (.Attribute (.Name (c.nm i) (bz (kid 0 (kid 0 (cj 0 s))))) m (bz (kid 0 (cj 0 s)))) as [] (bz (cj 0 s))) (spos s)
noncomputable def D8(c:MC)(i:Nat)(s:Stmt):Bool:=c.isVar i (c.nm i) && decide ((bz (kid 0 (cj 0 s))).endLine=(bz (cj 0 s)).line)
noncomputable def y8(e:PE):Bool:=match e with | .comp ..=>true|_=>false
mutual
noncomputable def gS(c:MC):PS->Stmt->Stmt × Bool
 | .skip,s=>(s,false)
 | .seq _ _,s=>(s,false)
 | .assign i e,s=>(.Assign [.Name (c.nm i) (bz (cj 1 s))] (gE c e (cj 0 s)).1 (spos s),(y8 e ||fI (gE c e (cj 0 s)).1) && (c.isVar i (c.nm i) && (gE c e (cj 0 s)).2))
 | .unpack is e,s=>(.Assign [.Tuple (gU c is (dy (cj 1 s))) (qz (cj 1 s)) (bz (cj 1 s))] (gE c e (cj 0 s)).1 (spos s),(is.all (fun i=>c.isVar i (c.nm i)) && decide is.Nodup) && ((fI (gE c e (cj 0 s)).1 && rO (gE c e (cj 0 s)).1) && (gE c e (cj 0 s)).2))
 | .setidx i k e,s=>(.Assign [.Subscript (.Name (c.nm i) (bz (kid 0 (cj 1 s)))) (gE c k (kid 1 (cj 1 s))).1 (bz (cj 1 s))] (gE c e (cj 0 s)).1 (spos s),(c.isVar i (c.nm i) && fI (gE c e (cj 0 s)).1) && ((gE c k (kid 1 (cj 1 s))).2 && (gE c e (cj 0 s)).2))
 | .app i e,s=>(gM c i "append" [(gE c e (kid 1 (cj 0 s))).1] s,D8 c i s && (cX (gE c e (kid 1 (cj 0 s))).1 && (gE c e (kid 1 (cj 0 s))).2))
 | .pop i,s=>(gM c i "pop" [] s,D8 c i s)
 | .rev i,s=>(gM c i "reverse" [] s,D8 c i s)
 | .ret e,s=>(.Return (some (gE c e (cj 0 s)).1) (spos s),(gE c e (cj 0 s)).2)
 | .ite t a b,s=>(.If (gE c t (cj 0 s)).1 (gB c a (vwS s).2.1).1 (gB c b (vwS s).2.2.1).1 (spos s),(gE c t (cj 0 s)).2 && ((gB c a (vwS s).2.1).2 && (gB c b (vwS s).2.2.1).2))
 | .whl t b,s=>(.While (gE c t (cj 0 s)).1 (gB c b (vwS s).2.1).1 [] (spos s),(gE c t (cj 0 s)).2 && (gB c b (vwS s).2.1).2)
 | .forr i it b,s=>(.For (.Name (c.nm i) (bz (cj 1 s))) (gI c it (cj 0 s)).1 (gB c b (vwS s).2.1).1 [] (spos s),c.isVar i (c.nm i) && ((gI c it (cj 0 s)).2 && (gB c b (vwS s).2.1).2))
 | .raise k,s=>(.Raise (some (.Call (.Name (c.clN k) (bz (kid 0 (cj 0 s)))) [.Constant (.str (g8 (kid 1 (cj 0 s)))) (qz (kid 1 (cj 0 s))) (bz (kid 1 (cj 0 s)))] [] (bz (cj 0 s)))) none (spos s),decide (c.g.cls[k]?=some (c.clN k)) && c.isGlob (c.clN k))
 | .opaq,s=>(s,false)
noncomputable def gB(c:MC):PS->List Stmt->List Stmt × Bool
 | .skip,_=>([],true)
 | .seq a r,b=>((gS c a (b.headD (.Pass default))).1::(gB c r b.tail).1,(gS c a (b.headD (.Pass default))).2 && (gB c r b.tail).2)
 | .opaq,b=>(b,true)
 | .assign _ _,b=>(b,false)
 | .unpack _ _,b=>(b,false)
 | .setidx _ _ _,b=>(b,false)
 | .app _ _,b=>(b,false)
 | .pop _,b=>(b,false)
 | .rev _,b=>(b,false)
 | .ret _,b=>(b,false)
 | .ite _ _ _,b=>(b,false)
 | .whl _ _,b=>(b,false)
 | .forr _ _ _,b=>(b,false)
 | .raise _,b=>(b,false)
end
end Mine
namespace Mine
open PySem PyProof.Rows
abbrev KeepsH (h h':Heap):Prop:=∀b o,h.get? b=some o->h'.get? b=some o
theorem KeepsH.trans{h h' h'':Heap}(a:KeepsH h h')(b:KeepsH h' h''):KeepsH h h'':=fun x o e=>b x o (a x o e)
theorem KeepsH.refl(h:Heap):KeepsH h h:=fun _ _ e=>e
theorem Fo{n i:Nat}{k:Int}(hz:n<=1000000)(h1:i<n)(h2:(0<=k/\k=i)\/(k<0/\k+n=i)):-1000000<=k/\k<=1000000:=oqz [n,i] [k] [(.le Y0 1000000),(.le (Y1+1) Y0),(.or (.an (.il 0 Y0) (.ie Y0 (.c Y1))) (.an (.il (Y0+1) 0) (.ie (.a Y0 (.c Y0)) (.c Y1))))] (.an (.il (.g 1000000) Y0) (.il Y0 1000000)) [100011,10111] rfl hz h1 h2
theorem sY{n i:Nat}{k:Int}(hz:n<=1000000)(h1:i<n)(h2:(0<=k/\k=i)\/(k<0/\k+n=i)):-(2^63)<=k/\k<2^63:=
 ⟨HY (by decide) (Fo hz h1 h2).1,Int.lt_of_le_of_lt (Fo hz h1 h2).2 (by decide)⟩
theorem CG{n:Nat}(h:n<=1000000):(n:Int)<2^63:=Int.lt_of_le_of_lt (Il.mpr h) (by decide)
theorem w63{a:Int}(h1:-(2^42)<=a)(h2:a<=2^42):-(2^63)<=a/\a<2^63:=⟨HY (by decide) h1,Int.lt_of_le_of_lt h2 (by decide)⟩
theorem AW{a:Int}(h:cI a):-(2^63)<=a/\a<2^63:=w63 (HY (by decide) (Hn h.1)) (HY (Hn h.2) (by decide))
theorem uX{a d:Int}(h:cI a)(h0:0<=d)(h1:d<=1):-(2^63)<=a+d/\a+d<2^63:=
 w63 (HY (by decide) (Int.add_le_add (Hn h.1) h0)) (HY (Int.add_le_add (Hn h.2) h1) (by decide))
theorem rm1{d n L:Nat}(h:d+(n+1)+100<L):d+1+n+100<L:=oqz [d,n,L] [] [(.le (Y0+(Y1+1)+100+1) Y2)] (.le (Y0+1+Y1+100+1) Y2) [11] rfl h
theorem rm2{d n L:Nat}(h:d+3*(n+1)+100<L):d+3+3*n+100<L:=oqz [d,n,L] [] [(.le (.a (.a (.a Y0 (.m 3 (Y1+1))) 100) 1) Y2)] (.le (.a (.a (.a (Y0+3) (.m 3 Y1)) 100) 1) Y2) [11] rfl h
theorem rm3{d n L:Nat}(h:d+3*(n+1)+100<L):d+3+100<L:=oqz [d,L,n] [] [(.le (.a (.a (.a Y0 (.m 3 (Y2+1))) 100) 1) Y1)] (.le (Y0+3+100+1) Y1) [11] rfl h
theorem rm4{d n L:Nat}(h:d+(n+1)+100<L):d+1+100<L:=oqz [d,L,n] [] [(.le (Y0+(Y2+1)+100+1) Y1)] (.le (Y0+1+100+1) Y1) [11] rfl h
theorem rm5{d n L:Nat}(h:d+(n+1)+100<L):d<L:=oqz [d,L,n] [] [(.le (Y0+(Y2+1)+100+1) Y1)] (.le (Y0+1) Y1) [11] rfl h
structure GV where
 mg:Str->Option Value
 mb:Str->Option Value
 fa:Nat->Addr
 ca:Nat->Value
mutual
inductive Rep (G:GV) (α:List Addr) (h:Heap):Value->V->Prop
 |int (i:Int) (t:Tok):Rep G α h (.int i t) (.int i)
 |bool (b:Bool):Rep G α h (.bool b) (.bool b)
 |none:Rep G α h .none .none
 |str (s:Str) (t:Tok):Rep G α h (.str s t) (.str s)
 |tup {a:Addr}{vs:List Value}{xs:List V}:IsTup h a vs.toArray->Reps G α h vs xs->xs.length<=lim->Rep G α h (.ref a) (.tup xs)
 |lst {a:Addr}{n:Nat}:α[n]?=some a->Rep G α h (.ref a) (.lst n)
 |fn {a:Addr}{k:Nat}:a=G.fa k->Rep G α h (.ref a) (.fn k)
inductive Reps (G:GV) (α:List Addr) (h:Heap):List Value->List V->Prop
 |nil:Reps G α h [] []
 |cons {v:Value}{d:V}{vs:List Value}{ds:List V}:Rep G α h v d->Reps G α h vs ds->Reps G α h (v::vs) (d::ds)
end
section
variable {G:GV}{α:List Addr}{h:Heap}{u:Value}
noncomputable def Du(G:GV)(α:List Addr)(h:Heap)(u:Value):V->Prop
 | .int i=>∃t,u=.int i t
 | .bool b=>u=.bool b
 | .none=>u=.none
 | .str s=>∃t,u=.str s t
 | .tup xs=>∃a vs,u=.ref a/\IsTup h a (List.toArray vs)/\Reps G α h vs xs/\xs.length<=lim
 | .lst n=>∃a,u=.ref a/\α[n]?=some a
 | .fn k=>u=.ref (G.fa k)
 | .exc _=>False
theorem Rep.out{x:V}(r:Rep G α h u x):Du G α h u x:=by
 cases r with
 |int i t=>exact ⟨t,rfl⟩
 |bool b=>exact rfl
 |none=>exact rfl
 |str s t=>exact ⟨t,rfl⟩
 |tup t r z=>exact ⟨_,_,rfl,t,r,z⟩
 |lst e=>exact ⟨_,rfl,e⟩
 |fn e=>exact congrArg _ e
theorem Rep.int_inv{i:Int}(r:Rep G α h u (.int i)):∃t,u=.int i t:=r.out
theorem Rep.bool_inv{b:Bool}(r:Rep G α h u (.bool b)):u=.bool b:=r.out
theorem Rep.none_inv(r:Rep G α h u .none):u=.none:=r.out
theorem Rep.tup_inv{xs:List V}(r:Rep G α h u (.tup xs)):∃a vs,u=.ref a/\IsTup h a (List.toArray vs)/\Reps G α h vs xs/\xs.length<=lim:=r.out
theorem Rep.lst_inv{n:Nat}(r:Rep G α h u (.lst n)):∃a,u=.ref a/\α[n]?=some a:=r.out
theorem Rep.ii{v:Value}{x y:V}{a b:Int}{C:Value->Value->Prop}(ru:Rep G α h u x)(rv:Rep G α h v y)(e:x=.int a)(e':y=.int b)(k:∀t t',C (.int a t) (.int b t')):C u v:=by
 subst e e'
 obtain ⟨t,rfl⟩:=ru.int_inv
 obtain ⟨t',rfl⟩:=rv.int_inv
 exact k t t'
noncomputable def zX(G:GV)(α:List Addr)(h:Heap)(vs:List Value):List V->Prop
 | []=>vs=[]
 |d::ds=>∃v vs',vs=v::vs'/\Rep G α h v d/\Reps G α h vs' ds
theorem Reps.out{vs:List Value}{ds:List V}(r:Reps G α h vs ds):zX G α h vs ds:=by
 cases r with
 |nil=>exact rfl
 |cons a b=>exact ⟨_,_,rfl,a,b⟩
theorem Reps.one_inv{vs:List Value}{d:V}(r:Reps G α h vs [d]):∃v,vs=[v]/\Rep G α h v d:=by
 obtain ⟨v,vs',e,a,b⟩:=r.out
 cases b.out
 exact ⟨v,e,a⟩
theorem Reps.ol{vs:List Value}{ds:List V}{d:V}{C:List Value->Prop}(r:Reps G α h vs ds)(e:ds=[d])(k:∀v,Rep G α h v d->C [v]):C vs:=by
 subst e
 obtain ⟨v,rfl,a⟩:=r.one_inv
 exact k v a
theorem Rep.oi{x:V}{a:Int}{C:Value->Prop}(r:Rep G α h u x)(e:x=.int a)(k:∀t,C (.int a t)):C u:=by
 subst e
 obtain ⟨t,rfl⟩:=r.int_inv
 exact k t
theorem Reps.two_inv{vs:List Value}{d e:V}(r:Reps G α h vs [d,e]):∃v w,vs=[v,w]/\Rep G α h v d/\Rep G α h w e:=by
 obtain ⟨v,vs',e,a,b⟩:=r.out
 obtain ⟨w,rfl,c⟩:=b.one_inv
 exact ⟨v,w,e,a,c⟩
end
noncomputable def KeepsT(h h':Heap):Prop:=∀a items,IsTup h a items->IsTup h' a items
theorem KeepsT.of{h h':Heap}(k:KeepsH h h'):KeepsT h h':=fun _ _ x=>x.keeps k
theorem Rep.mono{G:GV}{α α':List Addr}{h h':Heap}(ha:∀ (n:Nat) (a:Addr),α[n]?=some a->α'[n]?=some a)(k:KeepsT h h'){v:Value}{d:V}(r:Rep G α h v d):Rep G α' h' v d:=
 Rep.rec (motive_1:=fun v d _=>Rep G α' h' v d) (motive_2:=fun vs ds _=>Reps G α' h' vs ds) (fun i t=>.int i t) (fun b=>.bool b) .none (fun s t=>.str s t) (fun t _ z r=>.tup (k _ _ t) r z) (fun e=>.lst (ha _ _ e)) (fun e=>.fn e) .nil (fun _ _ a b=>.cons a b) r
theorem Reps.mono{G:GV}{α α':List Addr}{h h':Heap}(ha:∀ (n:Nat) (a:Addr),α[n]?=some a->α'[n]?=some a)(k:KeepsT h h'){vs:List Value}{ds:List V}(r:Reps G α h vs ds):Reps G α' h' vs ds:=
 Reps.rec (motive_1:=fun _ _ _=>True) (motive_2:=fun vs ds _=>Reps G α' h' vs ds) (fun _ _=>trivial) (fun _=>trivial) trivial (fun _ _=>trivial) (fun _ _ _ _=>trivial) (fun _=>trivial) (fun _=>trivial) .nil (fun a _ _ b=>.cons (a.mono ha k) b) r
theorem Reps.ind{G:GV}{α:List Addr}{h:Heap}{P:List Value->List V->Prop}(h0:P [] [])(h1:∀v d vs ds,Rep G α h v d->Reps G α h vs ds->P vs ds->P (v::vs) (d::ds)){vs:List Value}{ds:List V}(r:Reps G α h vs ds):P vs ds:=
 Reps.rec (motive_1:=fun _ _ _=>True) (motive_2:=fun vs ds _=>P vs ds) (fun _ _=>trivial) (fun _=>trivial) trivial (fun _ _=>trivial) (fun _ _ _ _=>trivial) (fun _=>trivial) (fun _=>trivial) h0 (fun a b _ c=>h1 _ _ _ _ a b c) r
theorem d4{α β:List Addr}(n:Nat)(a:Addr)(e:α[n]?=some a):(α++β)[n]?=some a:=by
 have hl:n<α.length:=(GX.mp e).1
 rw[Hg hl];exact e
theorem Rep.up{G:GV}{α β:List Addr}{h h':Heap}{v:Value}{d:V}(r:Rep G α h v d)(k:KeepsH h h'):Rep G (α++β) h' v d:=r.mono d4 (.of k)
theorem Reps.up{G:GV}{α β:List Addr}{h h':Heap}{v:List Value}{d:List V}(r:Reps G α h v d)(k:KeepsH h h'):Reps G (α++β) h' v d:=r.mono d4 (.of k)
section
variable {G:GV}{α:List Addr}{h:Heap}{vs:List Value}{ds:List V}
theorem Reps.len(r:Reps G α h vs ds):vs.length=ds.length:=r.ind (P:=fun vs ds=>vs.length=ds.length) rfl fun _ _ _ _ _ _ e=>congrArg Nat.succ e
theorem Reps.get(r:Reps G α h vs ds):∀ {n:Nat}{d:V},ds[n]?=some d->∃v,vs[n]?=some v/\Rep G α h v d:=
 r.ind (P:=fun vs ds=>∀ {n:Nat}{d:V},ds[n]?=some d->∃v,vs[n]?=some v/\Rep G α h v d) (fun {n}{_} e=>nomatch n,e) fun _ _ _ _ a _ ih {n}{_} e=>by
  cases n with
  |zero=>cases e;exact ⟨_,rfl,a⟩
  |succ n=>exact ih e
theorem Reps.get'(r:Reps G α h vs ds):∀ {n:Nat}{v:Value},vs[n]?=some v->∃d,ds[n]?=some d/\Rep G α h v d:=
 r.ind (P:=fun vs ds=>∀ {n:Nat}{v:Value},vs[n]?=some v->∃d,ds[n]?=some d/\Rep G α h v d) (fun {n}{_} e=>nomatch n,e) fun _ _ _ _ a _ ih {n}{_} e=>by
  cases n with
  |zero=>cases e;exact ⟨_,rfl,a⟩
  |succ n=>exact ih e
theorem Reps.append{vs':List Value}{ds':List V}(r:Reps G α h vs ds)(r':Reps G α h vs' ds'):Reps G α h (vs++vs') (ds++ds'):=
 r.ind (P:=fun vs ds=>Reps G α h (vs++vs') (ds++ds')) r' fun _ _ _ _ a _ ih=>.cons a ih
theorem Reps.take(n:Nat)(r:Reps G α h vs ds):Reps G α h (vs.take n) (ds.take n):=
 r.ind (P:=fun vs ds=>∀n,Reps G α h (vs.take n) (ds.take n)) (fun n=>by cases n <;> exact .nil) (fun _ _ _ _ a _ ih n=>by
  cases n with
  |zero=>exact .nil
  |succ n=>exact .cons a (ih n)) n
theorem Reps.drop(n:Nat)(r:Reps G α h vs ds):Reps G α h (vs.drop n) (ds.drop n):=
 r.ind (P:=fun vs ds=>∀n,Reps G α h (vs.drop n) (ds.drop n)) (fun n=>by cases n <;> exact .nil) (fun _ _ _ _ a b ih n=>by
  cases n with
  |zero=>exact .cons a b
  |succ n=>exact ih n) n
theorem Reps.reverse(r:Reps G α h vs ds):Reps G α h vs.reverse ds.reverse:=
 r.ind (P:=fun vs ds=>Reps G α h vs.reverse ds.reverse) .nil fun _ _ _ _ a _ ih=>by rw[IO,IO];exact ih.append (.cons a .nil)
theorem Reps.set{v:Value}{d:V}(x:Rep G α h v d)(n:Nat)(r:Reps G α h vs ds):Reps G α h (vs.set n v) (ds.set n d):=
 r.ind (P:=fun vs ds=>∀n,Reps G α h (vs.set n v) (ds.set n d)) (fun n=>by cases n <;> exact .nil) (fun _ _ _ _ a b ih n=>by
  cases n with
  |zero=>exact .cons x b
  |succ n=>exact .cons a (ih n)) n
end
theorem Reps.dropLast{G:GV}{α:List Addr}{h:Heap}{vs:List Value}{ds:List V}(r:Reps G α h vs ds):Reps G α h vs.dropLast ds.dropLast:=by
 rw[List.dropLast_eq_take,List.dropLast_eq_take,r.len];exact r.take _
theorem Reps.replicate{G:GV}{α:List Addr}{h:Heap}{v:Value}{d:V}(r:Rep G α h v d):∀n:Nat,Reps G α h (List.replicate n v) (List.replicate n d)
 |0=>.nil
 |n+1=>.cons r (Reps.replicate r n)
structure HR (G:GV)(α:List Addr)(h:Heap)(H:Hp):Prop where
 len:α.length=H.length
 nodup:α.Nodup
 pos:1<=H.length
 lst:∀ (n:Nat) (a:Addr) (xs:List V),α[n]?=some a->H[n]?=some xs->∃vs:List Value,h.IsList a vs.toArray/\Reps G α h vs xs/\xs.length<=lim/\(n≠0->h.PlainList a vs.toArray)
theorem HR.at{G:GV}{α:List Addr}{h:Heap}{H:Hp}(r:HR G α h H){n:Nat}{a:Addr}(e:α[n]?=some a):∃xs,H[n]?=some xs:=by
 have:n<H.length:=by rw[<- r.len];exact (GX.mp e).1
 exact ⟨H[n],G2 this⟩
theorem dY{h h':Heap}{a:Addr}{items:Array Value}(x:h.IsList a items)(k:KeepsH h h'):h'.IsList a items:=x.elim fun o g=>⟨o,k _ _ g.1,g.2⟩
theorem cW{h h':Heap}{a:Addr}{items:Array Value}(x:h.PlainList a items)(k:KeepsH h h'):h'.PlainList a items:=x.elim fun n e=>⟨n,k _ _ e⟩
theorem HR.keeps{G:GV}{α:List Addr}{h h':Heap}{H:Hp}(r:HR G α h H)(k:KeepsH h h'):HR G α h' H:=
 ⟨r.len,r.nodup,r.pos,fun n a xs e1 e2=>(r.lst n a xs e1 e2).elim fun vs g=>⟨vs,dY g.1 k,g.2.1.mono (fun _ _ e=>e) (.of k),g.2.2.1,fun hn=>cW (g.2.2.2 hn) k⟩⟩
theorem HR.push{G:GV}{α:List Addr}{h h':Heap}{H:Hp}(r:HR G α h H)(k:KeepsH h h'){a:Addr}(ha:a ∉ α){vs:List Value}{xs:List V}(hl:h'.PlainList a vs.toArray)(q:Reps G α h' vs xs)(z:xs.length<=lim) :
  HR G (α++[a]) h' (H++[xs]):=by
 refine ⟨by simp[r.len],?_,by simp,fun n b ys e1 e2=>?_⟩
 ·rw[List.nodup_append]
  refine ⟨r.nodup,by simp,fun x hx y hy=>?_⟩
  simp at hy;subst hy;intro e;subst e;exact ha hx
 ·by_cases hn:n<α.length
  ·rw[Hg hn] at e1
   rw[Hg (r.len ▸ hn)] at e2
   obtain ⟨vs,l,q,z',p⟩:=r.lst n b ys e1 e2
   exact ⟨vs,dY l k,q.up k,z',fun hn=>cW (p hn) k⟩
  ·have hn':n=α.length:=by
    have:=(GX.mp e1).1
    simp at this;exact oqz [n,α.length] [] [(.no (.le (Y0+1) Y1)),(.le (Y0+1) (Y1+1))] (.eq Y0 Y1) [11,101] rfl hn this
   subst hn'
   rw[Hk (GU _)] at e1
   rw[Hk (by rw[r.len];exact GU _)] at e2
   simp[r.len] at e1 e2
   subst e1 e2
   exact ⟨vs,hl.isList,q.mono d4 (.of (.refl _)),z,fun _=>hl⟩
theorem HR.set{G:GV}{α:List Addr}{h h':Heap}{H:Hp}(r:HR G α h H){n:Nat}{a:Addr}(e:α[n]?=some a){xs0:List V}(e0:H[n]?=some xs0)(hs:Heap.SameBut a h h'){vs:List Value}{xs:List V}(hl:h'.PlainList a vs.toArray)(q:Reps G α h vs xs)(z:xs.length<=lim) :
  KeepsT h h'/\HR G α h' (H.set n xs):=by
 obtain ⟨vs0,⟨o0,ho0,hc0,_⟩,_⟩:=r.lst n a xs0 e e0
 have kt:KeepsT h h':=fun b items x=>by
  refine x.extBut hs.extBut fun q=>?_
  subst q
  obtain ⟨o,ho,hc,_⟩:=x
  rw[ho0] at ho;cases ho
  rw[hc0] at hc;exact absurd hc (by decide)
 refine ⟨kt,by simp[r.len],r.nodup,by simpa using r.pos,fun m b ys e1 e2=>?_⟩
 by_cases hm:m=n
 ·subst hm
  rw[e] at e1;cases e1
  have hlt:m<H.length:=by rw[<- r.len];exact (GX.mp e).1
  rw[List.getElem?_set_self hlt] at e2
  cases e2
  exact ⟨vs,hl.isList,q.mono (fun _ _ e=>e) kt,z,fun _=>hl⟩
 ·rw[Ju (Ne.symm hm)] at e2
  obtain ⟨vs',l,q',z',p⟩:=r.lst m b ys e1 e2
  have hab:b≠a:=fun hba=>by
   subst hba
   have h1:=(GX.mp e1)
   have h2:=(GX.mp e)
   obtain ⟨l1,g1⟩:=h1
   obtain ⟨l2,g2⟩:=h2
   exact hm ((List.getElem_inj r.nodup).mp (g1.trans g2.symm))
  exact ⟨vs',l.extBut hs.extBut hab,q'.mono (fun _ _ e=>e) kt,z',fun hn=>(p hn).elim fun n' e'=>⟨n',hs.extBut _ _ hab e'⟩⟩
end Mine
namespace Mine
open PySem PyProof.Rows PySem.Calls
structure dK where
 name:Str
 params:Arguments
 body:List Stmt
 scope:Scope
noncomputable def bltNames:List Str:=["abs","len","int","list","tuple","min","isinstance","reversed","range","bool"]
structure GF (G:GV)(gc:GC)(DT:List dK)(h:Heap):Prop where
 g:h.Ns mainGlobals G.mg
 b:h.Ns builtinsNs G.mb
 nolimit:h.NoLimit
 seer:h.NoSeer
 fn:∀ (k:Nat) (x:Str),gc.fns[k]?=some x->G.mg x=some (.ref (G.fa k))/\∃d o pm cd doc,DT[k]?=some d/\d.name=x/\h.get? (G.fa k)=some o /\
  o.data=.func (docDef d.name d.params d.body d.scope pm cd doc)/\h.CodeRec cd d.name
 blt:∀x∈bltNames,G.mg x=none/\G.mb x=bootBuiltins x
 glob:∀x a b,(x,a,b)∈gc.globs->∃t ta tb,G.mg x=some (.ref t)/\IsTup h t #[.int a ta,.int b tb]
theorem GF.keeps{G:GV}{gc:GC}{DT:List dK}{h h':Heap}(F:GF G gc DT h)(k:KeepsH h h'):GF G gc DT h' where
 g:=F.g.keeps k
 b:=F.b.keeps k
 nolimit:=F.nolimit.keeps k
 seer:=F.seer.keeps k
 fn:=fun i x e=>dI (F.fn i x e) fun a d o pm cd doc b c f g r=>⟨a,d,o,pm,cd,doc,b,c,k _ _ f,g,r.keeps k⟩
 blt:=F.blt
 glob:=fun x a b e=>jY (F.glob x a b e) fun t ta tb m i=>⟨t,ta,tb,m,i.keeps k⟩
structure ch (c:MC)(env:Env):Prop where
 kind:env.scope.kind=.function
 globals:env.globals=mainGlobals
 builtins:env.builtins=builtinsNs
 loc:∀x,c.scope.names.lookup x=some NameKind.local->env.kindOf x=some .local
 glob:∀x,c.scope.names.lookup x=some NameKind.globalImplicit->env.kindOf x=some .globalImplicit
 cel:∀x,c.scope.names.lookup x=some NameKind.cell->env.kindOf x=some .cell
 fre:∀x,c.scope.names.lookup x=some NameKind.free->env.kindOf x=some .cell\/env.kindOf x=some .free
 cells:∀x,env.kindOf x=some .cell\/env.kindOf x=some .free->∃a,env.cells.lookup x=some a
noncomputable def VarAt(env:Env)(h:Heap)(x:Str)(v:Value):Prop:=
 (env.kindOf x=some .local/\∃m,h.Ns env.locals m/\m x=some v) \/
 ((env.kindOf x=some .cell\/env.kindOf x=some .free)/\∃c,env.cells.lookup x=some c/\h.IsCell c (some v))
theorem iw{h h':Heap}{c:Addr}{v:Option Value}(x:h.IsCell c v)(k:KeepsH h h'):h'.IsCell c v:=x.elim fun o g=>⟨o,k _ _ g.1,g.2⟩
theorem VarAt.keeps{env:Env}{h h':Heap}{x:Str}{v:Value}(a:VarAt env h x v)(k:KeepsH h h'):VarAt env h' x v:=by
 rcases a with ⟨a,m,b,c⟩ | ⟨a,c,b,d⟩
 ·exact .inl ⟨a,m,b.keeps k,c⟩
 ·exact .inr ⟨a,c,b,iw d k⟩
noncomputable def FI(G:GV)(c:MC)(env:Env)(α:List Addr)(h:Heap)(ρ:Loc):Prop:=
 ∀ (i:Nat) (x:Str) (d:V),c.names[i]?=some x->af ρ i=some d->∃v,VarAt env h x v/\Rep G α h v d
theorem FI.up{G:GV}{c:MC}{env:Env}{α β:List Addr}{h h':Heap}{ρ:Loc}(F:FI G c env α h ρ)(k:KeepsH h h'):FI G c env (α++β) h' ρ:=
 fun i x d e1 e2=>(F i x d e1 e2).elim fun v g=>⟨v,g.1.keeps k,g.2.up k⟩
inductive Post {γ δ:Type} (G:GV) (RR:List Addr->Heap->γ->δ->Prop) (s:Shared) (α:List Addr) (H:Hp) (Q:δ->Hp->Prop) (v:γ) (s':Shared):Prop
 |mk (h':Heap) (tk:Nat) (β:List Addr) (K:Hp) (d:δ) (e:s'={ s with heap:=h',toks:=tk }) (k:KeepsH s.heap h') (f:∀b∈β,s.heap.get? b=none) (R:HR G (α++β) h' (H++K)) (r:RR (α++β) h' v d) (q:Q d (H++K))
section
variable {prog:Program}{w:World}{A:Around}{E:Value->Shared->Prop}{s:Shared}{G:GV}{α:List Addr}{H:Hp}
theorem Post.same{γ δ:Type}{RR:List Addr->Heap->γ->δ->Prop}{Q:δ->Hp->Prop}{v:γ}{d:δ}(R:HR G α s.heap H)(r:RR α s.heap v d)(q:Q d H)(tk:Nat):Post G RR s α H Q v { s with toks:=tk }:=
 ⟨s.heap,tk,[],[],d,rfl,.refl _,by simp,by simpa using R,by simpa using r,by simpa using q⟩
theorem Post.same'{γ δ:Type}{RR:List Addr->Heap->γ->δ->Prop}{Q:δ->Hp->Prop}{v:γ}{d:δ}(R:HR G α s.heap H)(r:RR α s.heap v d)(q:Q d H):Post G RR s α H Q v s:=
 Post.same R r q s.toks
theorem Post.trans{γ δ:Type}{RR:List Addr->Heap->γ->δ->Prop}{Q:δ->Hp->Prop}{v:γ}{s':Shared}{h₁:Heap}{tk₁:Nat}{β:List Addr}{K:Hp}
  (k:KeepsH s.heap h₁) (f:∀b∈β,s.heap.get? b=none) (p:Post G RR { s with heap:=h₁,toks:=tk₁ } (α++β) (H++K) Q v s'):Post G RR s α H Q v s':=by
 obtain ⟨h',tk,β',K',d,rfl,k',f',R,r,q⟩:=p
 refine ⟨h',tk,β++β',K++K',d,rfl,k.trans k',fun b hb=>?_,by simpa using R,by simpa using r,by simpa using q⟩
 rcases Hy.mp hb with hb|hb
 ·exact f b hb
 ·cases e:s.heap.get? b with
  |none=>rfl
  |some o=>have:=k b o e;rw[show h₁.get? b=none from f' b hb] at this;cases this
theorem Post.then{γ δ γ' δ':Type}{RR:List Addr->Heap->γ->δ->Prop}{RR':List Addr->Heap->γ'->δ'->Prop}{Q:δ->Hp->Prop}{Q':δ'->Hp->Prop}{v:γ}{s1:Shared}{t:Sem γ'}
  (p:Post G RR s α H Q v s1)
  (h:∀h₁ tk₁ β K d,KeepsH s.heap h₁->(∀b∈β,s.heap.get? b=none)->HR G (α++β) h₁ (H++K)->RR (α++β) h₁ v d->Q d (H++K) ->
   wpAny (model prog w) A t (Post G RR' { s with heap:=h₁,toks:=tk₁ } (α++β) (H++K) Q') E { s with heap:=h₁,toks:=tk₁ }) :
  wpAny (model prog w) A t (Post G RR' s α H Q') E s1:=by
 obtain ⟨h',tk,β,K,d,rfl,k,f,R,r,q⟩:=p
 exact wpAny_mono (h h' tk β K d k f R r q) (fun _ _ x=>x.trans k f) fun _ _ x=>x
theorem Post.go{γ δ γ':Type}{RR:List Addr->Heap->γ->δ->Prop}{Q:δ->Hp->Prop}{v:γ}{s1:Shared}{t:Sem γ'}{Z:γ'->Shared->Prop}
  (p:Post G RR s α H Q v s1)
  (h:∀h₁ tk₁ β K d,KeepsH s.heap h₁->(∀b∈β,s.heap.get? b=none)->HR G (α++β) h₁ (H++K)->RR (α++β) h₁ v d->Q d (H++K) ->
   wpAny (model prog w) A t Z E { s with heap:=h₁,toks:=tk₁ }) :
  wpAny (model prog w) A t Z E s1:=by
 obtain ⟨h',tk,β,K,d,rfl,k,f,R,r,q⟩:=p
 exact h h' tk β K d k f R r q
end
theorem MC.isVar_spec{c:MC}{i:Nat}{x:Str} (h:c.isVar i x=true):c.names[i]?=some x/\(x == Str.ofString "__debug__")=false/\(x == Str.ofString "__classdict__")=false ∧
  (c.scope.names.lookup x=some NameKind.local\/c.scope.names.lookup x=some NameKind.cell\/c.scope.names.lookup x=some NameKind.free):=by
 unfold MC.isVar at h
 simp only[H6,Bool.or_eq_true,It,Bool.not_eq_true'] at h
 obtain ⟨⟨⟨a,b⟩,d⟩,e⟩:=h
 exact ⟨a,b,d,by rcases e with (e|e) |e <;> simp[e]⟩
theorem MC.isGlob_spec{c:MC}{x:Str} (h:c.isGlob x=true):c.scope.names.lookup x=some NameKind.globalImplicit/\(x == Str.ofString "__debug__")=false:=by
 unfold MC.isGlob at h
 simpa only [H6,It,Bool.not_eq_true'] using h
section
variable {M:Model}{A:Around}{E:Value->Shared->Prop}{s:Shared}{c:MC}{env:Env}{Q:Value->Shared->Prop}
theorem fz{i:Nat}{x:Str}{pos:Pos}{v:Value}(O:ch c env)(hx:c.isVar i x=true)(hv:VarAt env s.heap x v)(h:Q v s):wpAny M A (eval (.Name x pos) env) Q E s:=by
 refine g7 (MC.isVar_spec hx) fun _ hd hn _=>?_
 refine wpAny_Name ?_ hd
 rcases hv with ⟨k,m,hm,e⟩ | ⟨k|k,cc,hc,hv⟩
 ·exact wpAny_loadName_local O.kind k hm e h
 ·exact wpAny_loadName_cell O.kind k hc hv h
 ·exact wpAny_loadName_free O.kind k hc hv h hn
theorem gA{G:GV}{x:Str}{pos:Pos}{v:Value}(O:ch c env)(hx:c.isGlob x=true)(hg:s.heap.Ns mainGlobals G.mg)(hv:G.mg x=some v)(h:Q v s):wpAny M A (eval (.Name x pos) env) Q E s:=by
 obtain ⟨hk,hd⟩:=MC.isGlob_spec hx
 exact Name_function_global O.kind (O.glob x hk) (loadGlobal_global (O.globals ▸ hg) hv h) hd
theorem yD{G:GV}{x:Str}{pos:Pos}{v:Value}(O:ch c env)(hx:c.isGlob x=true)(hg:s.heap.Ns mainGlobals G.mg)(hm:G.mg x=none)(hb:s.heap.Ns builtinsNs G.mb)(hv:G.mb x=some v)(h:Q v s) :
  wpAny M A (eval (.Name x pos) env) Q E s:=by
 obtain ⟨hk,hd⟩:=MC.isGlob_spec hx
 exact Name_function_global O.kind (O.glob x hk) (loadGlobal_builtin (O.globals ▸ hg) hm (O.builtins ▸ hb) hv h) hd
end
structure AOk (prog:Program)(A:Around):Prop where
 handled:A.handled=none
 units:A.units+100<cLine
 py:∀ (w:World) (s:Shared),s.heap.NoLimit->s.heap.NoSeer->PylongRoom (model prog w) A s
noncomputable def jE(prog:Program)(w:World)(G:GV)(gc:GC)(DT:List dK)(A:Around)(Φ:Call):Prop:=
 ∀ (f:Nat) (x:Str) (vs:List V) (H:Hp) (Q:V->Hp->Prop),gc.fns[f]?=some x->Φ f vs H Q (fun _ _=>False)->∀ (s:Shared) (α:List Addr) (vals:List Value) (E:Value->Shared->Prop),
  GF G gc DT s.heap->HR G α s.heap H->Reps G α s.heap vals vs->wpAny (model prog w) A (call (.ref (G.fa f)) vals) (Post G (Rep G) s α H Q) E s
structure SX where
 prog:Program
 w:World
 G:GV
 DT:List dK
 A:Around
 sub:Nat->Nat->Bool
 Φ:Call
noncomputable def SE(X:SX)(c:MC)(pe:PE)(e:Expr):Prop:=
 ∀ (env:Env) (s:Shared) (α:List Addr) (ρ:Loc) (H:Hp) (Q:V->Hp->Prop) (E:Value->Shared->Prop),ch c env->GF X.G c.g X.DT s.heap->HR X.G α s.heap H->FI X.G c env α s.heap ρ ->
  wpE X.sub X.Φ pe ρ H Q->wpAny (model X.prog X.w) X.A (eval e env) (Post X.G (Rep X.G) s α H Q) E s
noncomputable def SEs(X:SX)(c:MC)(pes:PEs)(es:List Expr):Prop:=
 ∀ (env:Env) (s:Shared) (α:List Addr) (ρ:Loc) (H:Hp) (Q:List V->Hp->Prop) (E:Value->Shared->Prop) (pos:Pos),ch c env->GF X.G c.g X.DT s.heap->HR X.G α s.heap H->FI X.G c env α s.heap ρ ->
  eV X.sub X.Φ pes ρ H Q->wpAny (model X.prog X.w) X.A (spliced (backTo pos (starEach es env))) (Post X.G (fun α h vs ds=>Reps X.G α h vs ds/\vs.length=es.length) s α H Q) E s
section
variable {X:SX}{c:MC}
theorem zj{i k:_}{pos:Pos}:SE X c (.cint i) (.Constant (.int i) k pos):=fun env s α ρ H Q E _ _ R _ q =>
 wpAny_Constant_int (Post.same R (Rep.int _ _) q _)
theorem vB{i k:_}{pos:Pos}:SE X c (.cbool i) (.Constant (.bool i) k pos):=fun env s α ρ H Q E _ _ R _ q =>
 wpAny_Constant_bool (Post.same' R (Rep.bool _) q)
theorem v6{k:_}{pos:Pos}:SE X c .cnone (.Constant .none k pos):=fun env s α ρ H Q E _ _ R _ q =>
 wpAny_Constant_none (Post.same' R Rep.none q)
theorem Ea{i:Nat}{x:Str}{pos:Pos}(hx:c.isVar i x=true):SE X c (.var i) (.Name x pos):=fun env s α ρ H Q E O _ R F q=>by
 refine ae (ifSome.get q) fun v e q=>?_
 refine ae (F i x v (MC.isVar_spec hx).1 e) fun u hu r=>?_
 exact fz O hx hu (Post.same' R r q)
theorem DW{i:Nat}{x:Str}{pos:Pos}(hf:c.g.fns[i]?=some x)(hx:c.isGlob x=true):SE X c (.fnv i) (.Name x pos):=fun env s α ρ H Q E O T R F q =>
 gA O hx T.g (T.fn i x hf).1 (Post.same' R (Rep.fn rfl) q)
theorem zt{x:Str}{a b:Int}{pos:Pos}(hf:(x,a,b)∈c.g.globs)(hx2:c.isGlob x=true):SE X c (.glob x a b) (.Name x pos):=fun env s α ρ H Q E O T R F q=>by
 refine jY (T.glob x a b hf) fun t ta tb hm ht=>?_
 exact gA O hx2 T.g hm (Post.same' R (Rep.tup (vs:=[.int a ta,.int b tb]) ht (.cons (.int _ _) (.cons (.int _ _) .nil)) (by show 2<=lim;decide)) q)
theorem aL{e:Expr}{es:List Expr}{env:Env}(h:cX e=true):starEach (e::es) env=(false,eval e env)::starEach es env:=by
 cases e <;> first|rfl|cases h
theorem Ad:SEs X c .nil []:=fun env s α ρ H Q E pos _ _ R _ q=>args_nil (Post.same' R ⟨Reps.nil,rfl⟩ q)
theorem xC{pe:PE}{e:Expr}{ps:PEs}{es:List Expr}(hs:cX e=true)(h1:SE X c pe e)(h2:SEs X c ps es):SEs X c (.cons pe ps) (e::es):=
 fun env s α ρ H Q E pos O T R F q=>by
 have he:=aL (es:=es) (env:=env) hs
 refine args_cons (wpAny_mono (h1 env s α ρ H _ E O T R F q) (fun v s1 p=>?_) fun _ _ x=>x) he
 refine p.go fun h₁ tk₁ β K d k f R' r q'=>?_
 refine wpAny_mono (h2 env _ (α++β) ρ (H++K) _ E pos O (T.keeps k) R' (F.up k) q') (fun vs s2 p2=>?_) fun _ _ x=>x
 obtain ⟨h₂,tk2,β2,K2,ds,rfl,k2,f2,R2,r2,q2⟩:=p2
 refine Post.trans (tk₁:=tk₁) k f ⟨h₂,tk2,β2,K2,d::ds,rfl,k2,f2,R2,⟨.cons (r.up k2) r2.1,by simp[r2.2]⟩,q2⟩
theorem bc(h:Heap)(o:Obj):KeepsH h (h.push o):=fun _ _ e=>Iy o e
theorem jC{h:Heap}{a:Addr}(ha:h.objs.size<=a):h.get? a=none:=by
 cases e:h.get? a with
 |none=>rfl
 |some o=>exact absurd (IU e) (Nat.not_lt.mpr ha)
theorem cK(h:Heap):h.get? h.objs.size=none:=by
 cases e:h.get? h.objs.size with
 |none=>rfl
 |some o=>exact absurd (IU e) (Nat.lt_irrefl _)
theorem fm:lim<=sizeLine:=by rw[sizeLine_eq];decide
theorem Post.newTup{s:Shared}{G:GV}{α:List Addr}{H:Hp}{vs:List Value}{xs:List V}{Q:V->Hp->Prop}(R:HR G α s.heap H)(r:Reps G α s.heap vs xs)(z:xs.length<=lim)(q:Q (.tup xs) H){n:Nat}(tk:Nat) :
  Post G (Rep G) s α H Q (.ref s.heap.objs.size) { s with heap:=s.heap.push { cls:=.type "tuple",data:=.seq vs.toArray n },toks:=tk }:=by
 refine ⟨_,tk,[],[],.tup xs,rfl,bc _ _,by simp,by simpa using R.keeps (bc _ _),?_,by simpa using q⟩
 exact Rep.tup (vs:=vs) ⟨_,Hi _ rfl,rfl,n,rfl⟩ (r.up (bc _ _)) z
theorem Post.newLst{s:Shared}{G:GV}{α:List Addr}{H:Hp}{vs:List Value}{xs:List V}{Q:V->Hp->Prop}(R:HR G α s.heap H){h':Heap}(k:KeepsH s.heap h')(r:Reps G α h' vs xs)(z:xs.length<=lim)(q:Q (.lst H.length) (H++[xs]))
  {D:Addr} (hD:s.heap.get? D=none) (hl:h'.PlainList D vs.toArray) (tk:Nat) :
  Post G (Rep G) s α H Q (.ref D) { s with heap:=h',toks:=tk }:=by
 refine ⟨h',tk,[D],[xs],.lst H.length,rfl,k,by simpa using hD,R.push k (fun hm=>?_) hl r z,?_,q⟩
 ·obtain ⟨n,hn⟩:=List.mem_iff_getElem?.mp hm
  obtain ⟨ys,hy⟩:=R.at hn
  refine ae (R.lst n D ys hn hy) fun us zq3 _=>?_;refine ae (zq3) fun o ho _=>?_
  rw[hD] at ho;cases ho
 ·refine Rep.lst ?_
  rw[Hk (by rw[R.len];exact GU _)];simp[R.len]
theorem Post.newLst'{s:Shared}{G:GV}{α:List Addr}{H:Hp}{vs:List Value}{xs:List V}{Q:V->Hp->Prop}(R:HR G α s.heap H)(r:Reps G α s.heap vs xs)(z:xs.length<=lim)(q:Q (.lst H.length) (H++[xs])){n:Nat}(tk:Nat) :
  Post G (Rep G) s α H Q (.ref s.heap.objs.size) { s with heap:=s.heap.push { cls:=.type "list",data:=.seq vs.toArray n },toks:=tk }:=
 Post.newLst R (bc _ _) (r.mono (fun _ _ e=>e) (.of (bc _ _))) z q (cK _) ⟨n,Hi _ rfl⟩ tk
theorem Em{ps:PEs}{es:List Expr}{k:Nat}{pos:Pos}(hn:es.length<=1000)(h:SEs X c ps es):SE X c (.tup ps) (.Tuple es k pos):=fun env s α ρ H Q E O T R F q=>by
 refine wpAny_Tuple (wpAny_mono (h env s α ρ H _ E pos O T R F q) (fun vs s1 p=>?_) fun _ _ x=>x)
 obtain ⟨h₁,tk₁,β,K,ds,rfl,k1,f,R',r,q'⟩:=p
 have hl:=r.1.len
 refine ⟨by rw[r.2];exact GP hn (GP (by decide) fm),Post.trans (tk₁:=tk₁) (K:=K) k1 f ?_⟩
 exact Post.newTup (s:={ s with heap:=h₁,toks:=tk₁ }) R' r.1 (by rw[<- hl,r.2];exact GP hn (by decide)) q' tk₁
theorem CR{ps:PEs}{es:List Expr}{pos:Pos}(hn:es.length<=1000)(h:SEs X c ps es):SE X c (.lst ps) (.List es pos):=fun env s α ρ H Q E O T R F q=>by
 refine wpAny_List (wpAny_mono (h env s α ρ H _ E pos O T R F q) (fun vs s1 p=>?_) fun _ _ x=>x)
 obtain ⟨h₁,tk₁,β,K,ds,rfl,k1,f,R',r,q'⟩:=p
 have hl:=r.1.len
 refine ⟨by rw[r.2];exact GP hn (GP (by decide) fm),Post.trans (tk₁:=tk₁) (K:=K) k1 f ?_⟩
 exact Post.newLst' (s:={ s with heap:=h₁,toks:=tk₁ }) R' r.1 (by rw[<- hl,r.2];exact GP hn (by decide)) q' tk₁
theorem two{a b:PE}{l r:Expr}{ρ:Loc}{env:Env}{s:Shared}{α:List Addr}{H:Hp}{E:Value->Shared->Prop}{Q:V->V->Hp->Prop}{Z:Value->Value->Shared->Prop}(h1:SE X c a l)(h2:SE X c b r)
  (O:ch c env) (T:GF X.G c.g X.DT s.heap) (R:HR X.G α s.heap H) (F:FI X.G c env α s.heap ρ)
  (q:wpE X.sub X.Φ a ρ H fun x H1=>wpE X.sub X.Φ b ρ H1 fun y H2=>Q x y H2)
  (hz:∀h' tk β K u v x y,KeepsH s.heap h'->(∀b∈β,s.heap.get? b=none)->HR X.G (α++β) h' (H++K)->Rep X.G (α++β) h' u x->Rep X.G (α++β) h' v y->Q x y (H++K)->Z u v { s with heap:=h',toks:=tk }) :
  wpAny (model X.prog X.w) X.A (eval l env) (fun u s1=>wpAny (model X.prog X.w) X.A (eval r env) (fun v s2=>Z u v s2) E s1) E s:=by
 refine wpAny_mono (h1 env s α ρ H _ E O T R F q) (fun u s1 p=>?_) fun _ _ x=>x
 refine p.go fun h₁ tk₁ β K d k f R' r q'=>?_
 refine wpAny_mono (h2 env _ (α++β) ρ (H++K) _ E O (T.keeps k) R' (F.up k) q') (fun v s2 p2=>?_) fun _ _ x=>x
 obtain ⟨h₂,tk2,β2,K2,e,rfl,k2,f2,R2,r2,q2⟩:=p2
 have:=hz h₂ tk2 (β++β2) (K++K2) u v d e (k.trans k2) (fun b hb=>?_) (by simpa using R2) (by simpa using (r.up (β:=β2) k2)) (by simpa using r2) (by simpa using q2)
 ·exact this
 ·rcases Hy.mp hb with hb|hb
  ·exact f b hb
  ·cases e:s.heap.get? b with
   |none=>rfl
   |some o=>have:=k b o e;rw[show h₁.get? b=none from f2 b hb] at this;cases this
section
variable {prog:Program}{w:World}{A:Around}{E:Value->Shared->Prop}{s:Shared}
theorem qK{l b:Addr}{vs ws:List Value}{Z:Value->Shared->Prop}(hl:s.heap.IsList l vs.toArray)(hb:s.heap.IsList b ws.toArray)(hsz:vs.length+ws.length<=sizeLine)
  (h:Z (.ref s.heap.objs.size) { s with heap:=s.heap.push { cls:=.type "list",data:=.seq (vs ++ ws).toArray } }):wpAny (model prog w) A (binaryOp .Add (.ref l) (.ref b)) Z E s:=by
 refine cz (hl) fun zq2 o1 e1 n1 f1=>?_;obtain ⟨c1,d1,t1,sl1⟩:=zq2
 refine cz (hb) fun zq1 o2 e2 n2 f2=>?_;obtain ⟨c2,d2,t2,sl2⟩:=zq1
 dsimp only at e1 f1 e2 f2
 subst e1 f1 e2 f2
 refine concat_meets ⟨_,o1,rfl⟩ ⟨_,o2,rfl⟩ noFill_list_add seq_list_add PySem.F.slot_list_add PySem.F.entry_list_add (PySem.F.args_list_add_2 _ _) (list_addW l b vs.toArray ws.toArray n1 n2 d1 d2 sl1 sl2 (by simpa using hsz)) ⟨o1,o2,?_⟩
 simpa using h
end
end
section
variable {prog:Program}{w:World}{A:Around}{E:Value->Shared->Prop}{s:Shared}{G:GV}{α:List Addr}{H:Hp}{Q:V->Hp->Prop}
theorem HR.getList(R:HR G α s.heap H){a:Addr}{n:Nat}{xs:List V}(e:α[n]?=some a)(h:H[n]?=some xs):∃vs:List Value,s.heap.IsList a vs.toArray/\Reps G α s.heap vs xs/\xs.length<=lim/\vs.length<=lim:=by
 refine b4 (R.lst n a xs e h) fun vs l r z _=>?_
 exact ⟨vs,l,r,z,by rw[r.len];exact z⟩
theorem lG{v:Value}{d:V}{xs:List V}(R:HR G α s.heap H)(r:Rep G α s.heap v d)(e:items H d=some xs) :
  ∃ (a:Addr) (vs:List Value),v=.ref a/\Reps G α s.heap vs xs/\xs.length<=lim/\vs.length<=lim/\((IsTup s.heap a vs.toArray/\∃ys,d=.tup ys)\/(s.heap.IsList a vs.toArray/\∃n,d=.lst n)):=by
 cases r with
 |tup t q z=>cases e;exact ⟨_,_,rfl,q,z,by rw[q.len];exact z,.inl ⟨t,_,rfl⟩⟩
 |lst q =>
  refine b4 (R.getList q e) fun vs l r z y=>?_
  exact ⟨_,vs,rfl,r,z,y,.inr ⟨l,_,rfl⟩⟩
 |_=>cases e
theorem lW(v:Value):∀n:Nat,List.foldl (fun x1 x2:Array Value=>x1++x2) #[] (List.replicate n #[v])=(List.replicate n v).toArray:=by
 intro n
 have key:∀ (n:Nat) (acc:Array Value),List.foldl (fun x1 x2:Array Value=>x1++x2) acc (List.replicate n #[v])=acc++(List.replicate n v).toArray:=by
  intro n
  induction n with
  |zero=>intro acc;simp
  |succ n ih =>
   intro acc
   rw[List.replicate_succ,List.foldl_cons,ih,List.replicate_succ]
   apply Array.ext'
   simp
 rw[key];simp
theorem uT{l:Addr}{v:Value}{k:Int}{u:Tok}{Z:Value->Shared->Prop}(hl:s.heap.IsList l [v].toArray)(h0:0<=k)(h1:k<=lim)
  (h:Z (.ref s.heap.objs.size) { s with heap:=s.heap.push { cls:=.type "list",data:=.seq (List.replicate k.toNat v).toArray } }):wpAny (model prog w) A (binaryOp .Mult (.ref l) (.int k u)) Z E s:=by
 refine cz (hl) fun zq10 o1 e1 n1 f1=>?_;obtain ⟨c1,d1,t1,sl1⟩:=zq10
 dsimp only at e1 f1
 subst e1 f1
 have hk:k.toNat<=1000000:=by have h2:k<=1000000:=h1;exact oqz [k.toNat] [k] [(.il Y0 1000000),(otn Y0 Y0)] (.le Y0 1000000) [1011,1001] rfl h2 (aQ (k))
 have hk':k<=1000000:=h1
 refine wpAny_binaryOp_repeat_ref (T:="list") (U:="int") (by decide) ⟨_,o1,rfl⟩ (fun s'=>typeIs_int s' k u) noFill_list_mul F.fills_int_mul F.slot_int_rmul repeat_list F.slot_int_index.lookup
  (call_meets F.slot_int_rmul (typeIs_int s k u) F.entry_int_rmul (F.args_int_rmul_2 _ _) (lm_int_rmul_list_any k u l [v].toArray n1 d1 sl1)
   ⟨o1,rfl,⟨_,o1,rfl⟩,call_meets F.slot_list_mul ⟨_,o1,rfl⟩ F.entry_list_mul (F.args_list_mul_2 _ _)
    (lm_list_mul_any l [v].toArray n1 d1 sl1 k u (by simp[Builtin.List.listFitsIndex];exact oqz [] [k] [(.il 0 Y0),(.il Y0 1000000)] (.an (.il (.g 9223372036854775808) Y0) (.il (Y0+1) 9223372036854775808)) [11,101] rfl h0 hk') (by simp;exact oqz [] [k] [(.il Y0 1000000)] (.il Y0 1152921504606846975) [11] rfl hk') (by simp[Builtin.List.listTooLong,sizeLine];exact oqz [] [k] [(.il Y0 1000000)] (.il Y0 16777216) [11] rfl hk'))
    ⟨o1,?_⟩⟩)
 have e:(if ([v].toArray).isEmpty=true then 0 else k.toNat)=k.toNat:=by simp
 rw[e,show ([v].toArray:Array Value)=#[v] from rfl,lW]
 exact h
theorem qp{op:BOp}{u v:Value}{x y:V}(hP:PylongRoom (model prog w) A s)(R:HR G α s.heap H)(ru:Rep G α s.heap u x)(rv:Rep G α s.heap v y)(q:gN op x y H Q) :
  wpAny (model prog w) A (binaryOp (Dw op) u v) (Post G (Rep G) s α H Q) E s:=by
 cases op
 ·refine (ifIL.get q).elim (fun q=>ae q fun a e q=>ae (ifInt.get q) fun b e' q=>by (apply ru.ii rv e e';intro t t';exact add_int (Post.same R (.int _ _) q _))) fun q0=>ae q0 fun m e q1=>?_
  refine ae (ifLst.get q1) fun n e' q2=>?_
  clear q q0 q1;subst e;cases e'
  refine ae (ru.lst_inv) fun a zq9 e1=>?_;subst zq9
  refine ae (rv.lst_inv) fun b zq8 e2=>?_;subst zq8
  refine ae (ifSome.get q2) fun xs h1 q=>?_
  refine cr (ifSome.get q) fun ys h2 hz q=>?_
  refine b4 (R.getList e1 h1) fun vs l1 r1 z1 z1'=>?_
  refine b4 (R.getList e2 h2) fun ws l2 r2 z2 z2'=>?_
  have hlen:vs.length+ws.length<=lim:=by rw[r1.len,r2.len];exact hz
  exact qK l1 l2 (GP hlen fm) (Post.newLst' R (r1.append r2) (by rw[GR];exact hz) q s.toks)
 ·exact aF (ifI2.get q) fun a b e e' q=>by (apply ru.ii rv e e';intro t t';exact sub_int (Post.same R (.int _ _) q _))
 ·refine (ifIL.get q).elim (fun q=>ae q fun a e q=>ae (ifInt.get q) fun b e' q=>by (apply ru.ii rv e e';intro t t';exact mul_int (Post.same R (.int _ _) q.2 _) q.1)) fun q0=>ae q0 fun m e q1=>ae (ifInt.get q1) fun k e' q2=>?_
  clear q q0 q1;subst e;subst e'
  refine ae (ru.lst_inv) fun a zq7 e1=>?_;subst zq7
  obtain ⟨t',rfl⟩:=rv.int_inv
  refine b4 (q2) fun x h1 h0 hk q=>?_
  refine b4 (R.getList e1 h1) fun vs l1 r1 z1 z1'=>?_
  refine ae (r1.one_inv) fun v zq6 rx=>?_;subst zq6
  have hk':k.toNat<=lim:=by have h2:k<=1000000:=hk;show _<=1000000;exact oqz [k.toNat] [k] [(.il Y0 1000000),(otn Y0 Y0)] (.le Y0 1000000) [1011,1001] rfl h2 (aQ (k))
  exact uT l1 h0 hk (Post.newLst' R (Reps.replicate rx k.toNat) (by rw[List.length_replicate];exact hk') q s.toks)
 ·exact aF (ifI2.get q) fun a b e e' q=>by (apply ru.ii rv e e';intro t t';exact floordiv_int q.1 (Post.same R (.int _ _) q.2 _) (Or.inr hP))
 ·exact aF (ifI2.get q) fun a b e e' q=>by (apply ru.ii rv e e';intro t t';exact mod_int' q.1 (Post.same R (.int _ _) q.2 _))
 ·exact aF (ifI2.get q) fun a b e e' q=>by (apply ru.ii rv e e';intro t t';exact pow_int_small q.1 (HY q.2.1 (by decide)) q.2.2.1 (Post.same R (.int _ _) q.2.2.2 _))
theorem DX{β γ:Type}{f:β->γ}{o:Option β}{c:γ}(h:o.map f=some c):∃b,o=some b/\f b=c:=by
 cases o with
 |none=>cases h
 |some b=>cases h;exact ⟨b,rfl,rfl⟩
theorem pL{cs:List Int}{vs:List Value}(r:Reps G α s.heap vs (cs.map .int)):∃as,ReadsAll s.heap vs (cs.map .int) as:=by
 induction cs generalizing vs with
 |nil=>cases r.out;exact ⟨_,.nil⟩
 |cons c cs ih =>
  obtain ⟨v,vs',rfl,a,b⟩:=r.out
  obtain ⟨t,rfl⟩:=a.int_inv
  obtain ⟨as,r⟩:=ih b
  exact ⟨_,.cons (.int _ _) r⟩
theorem qg(R:HR G α s.heap H){v:Value}{x:V}{d:PyData}(r:Rep G α s.heap v x)(h:vi H x d):∃as,Reads s.heap v d as:=by
 rcases h with ⟨cs,rfl,rfl⟩ | ⟨k,cs,rfl,hk,rfl⟩
 ·cases r with
  |tup t q z =>
   obtain ⟨as,r⟩:=pL q
   refine cz (t) fun o ho hc k hd=>?_
   exact ⟨_,.tuple ho hc hd (by simpa using r)⟩
 ·cases r with
  |lst ha =>
   refine cr (R.lst _ _ _ ha hk) fun vs zq5 q _=>?_;obtain ⟨o,ho,hc,k,hd⟩:=zq5
   obtain ⟨as,r⟩:=pL q
   exact ⟨_,.list ho hc hd (by simpa using r)⟩
end
theorem gF:∀cs:List Int,PyData.canLayAll0 (cs.map .int)=true/\PyData.depthAll (cs.map .int)=0
 | []=>⟨rfl,rfl⟩
 |c::cs=>⟨(gF cs).1,by show max 0 (PyData.depthAll (cs.map .int))=0;rw[(gF cs).2];rfl⟩
theorem dG{H:Hp}{x:V}{d:PyData}(h:vi H x d):SeqAt.shaped d=true:=by
 have key:∀cs:List Int,(PyData.canLayAll0 (cs.map .int) && decide (PyData.depthAll (cs.map .int)+1<=64))=true:=fun cs=>by
  rw[(gF cs).1,(gF cs).2];rfl
 rcases h with ⟨cs,rfl,rfl⟩ | ⟨k,cs,rfl,hk,rfl⟩
 ·exact key cs
 ·exact key cs
section
variable {prog:Program}{w:World}{A:Around}{E:Value->Shared->Prop}{s:Shared}{G:GV}{α:List Addr}{H:Hp}{Q:V->Hp->Prop}
theorem mq{op:COp}{u v:Value}{x y:V}(hA:AOk prog A)(R:HR G α s.heap H)(ru:Rep G α s.heap u x)(rv:Rep G α s.heap v y)(q:dJ op x y H Q) :
  wpAny (model prog w) A (compareOp (lQ op) u v) (Post G (Rep G) s α H Q) E s:=by
 have hu:=hA.units
 have eqs:∀Q',l6 x y H Q'->∃da db as bs,Reads s.heap u da as/\Reads s.heap v db bs/\vi H x da/\vi H y db/\Q' (PyData.eqv da db):=fun Q' q=>by
  refine aF (q) fun da db e1 e2 q=>?_
  obtain ⟨as,r1⟩:=qg R ru e1
  obtain ⟨bs,r2⟩:=qg R rv e2
  exact ⟨da,db,as,bs,r1,r2,e1,e2,q⟩
 cases op
 ·exact aF (ifI2.get q) fun a b e e' q=>by (apply ru.ii rv e e';intro t t';exact lt_int (Post.same' R (.bool _) q))
 ·exact aF (ifI2.get q) fun a b e e' q=>by (apply ru.ii rv e e';intro t t';exact le_int (Post.same' R (.bool _) q))
 ·exact aF (ifI2.get q) fun a b e e' q=>by (apply ru.ii rv e e';intro t t';exact gt_int (Post.same' R (.bool _) q))
 ·exact aF (ifI2.get q) fun a b e e' q=>by (apply ru.ii rv e e';intro t t';exact ge_int (Post.same' R (.bool _) q))
 ·exact (ifIO.get q).elim (fun q=>ae q fun a e q=>ae (ifInt.get q) fun b e' q=>by (apply ru.ii rv e e';intro t t';exact eq_int (Post.same' R (.bool _) q))) fun q=>q.elim (fun q =>
   jJ (eqs _ q) fun da db as bs r1 r2 e1 e2 q=>SeqAt.compareEq_shaped r1 r2 (dG e1) (dG e2) (GP (IH (Ih (by decide) _)) hu) (Post.same' R (.bool _) q)) fun q=>by
   obtain ⟨m,n,a,as,ex,ey,hm,hn,hq⟩:=q
   subst ex ey
   refine ae (ru.lst_inv) fun l e1 h1=>?_;subst e1
   refine ae (rv.lst_inv) fun b e2 h2=>?_;subst e2
   refine b4 (R.getList h1 hm) fun vs l1 r1 _ _=>?_
   refine b4 (R.getList h2 hn) fun ws l2 r2 _ _=>?_
   exact SeqAt.eq_list_lengthsAt l1 l2 (by rw[Ht,Ht,r1.len,r2.len];rfl) (Hx (Io _ _) hu) (Post.same' R (.bool _) hq)
 ·exact (ifIO.get q).elim (fun q=>ae q fun a e q=>ae (ifInt.get q) fun b e' q=>by (apply ru.ii rv e e';intro t t';exact ne_int (Post.same' R (.bool _) q))) fun q =>
   jJ (eqs _ q) fun da db as bs r1 r2 e1 e2 q=>SeqAt.compareNe_shaped r1 r2 (dG e1) (dG e2) (GP (IH (Ih (by decide) _)) hu) (Post.same' R (.bool _) q)
 ·obtain ⟨e,q⟩:=ifNo.get q
  subst e
  cases ru.none_inv
  refine ae (ifLst.get q) fun n ey q=>?_;cases ey
  refine cr (ifSome.get q) fun xs hx hz q=>?_
  refine ae (rv.lst_inv) fun l e1 h1=>?_;subst e1
  refine b4 (R.getList h1 hx) fun vs l1 r1 _ _=>?_
  refine SeqAt.in_listAt (fun _=>false) l1 (fun y hy=>?_) (by rw[show (vs.toArray.any fun _=>false)=false by simp];exact Post.same' R (.bool _) q)
  obtain ⟨i,hi⟩:=List.mem_iff_getElem?.mp (List.mem_toArray.mp hy)
  refine ae (r1.get' hi) fun d hd rd=>?_
  obtain ⟨t,rfl⟩:=hz d (H8 hd)
  obtain ⟨a,us,rfl,ht,_,_⟩:=rd.tup_inv
  exact SeqAt.EqAt.tuple_none ht (Hx (Ih (by decide) _) hu)
 ·exact False.elim q
 ·obtain ⟨e,q⟩:=ifNo.get q
  subst e
  cases rv.none_inv
  refine is_none (Post.same' R (.bool _) ?_)
  cases ru <;> exact q
theorem fe{u:Value}{x:V}{t:Bool}{Z:Bool->Shared->Prop}(R:HR G α s.heap H)(ru:Rep G α s.heap u x)(e:bm H x=some t)(h:∀tk,Z t { s with toks:=tk }) :
  wpAny (model prog w) A (truthy u) Z E s:=by
 cases ru with
 |int i tk=>cases e;exact truthy_int (h s.toks)
 |bool b=>cases e;exact wpAny_truthy_bool (h s.toks)
 |none=>cases e;exact fun _ _ _=>h s.toks
 |str z tk=>cases e
 |tup ht q z =>
  cases e
  have hl:=q.len
  refine truthy_tuple ht (by have:_<=1000000:=z;simp;exact oqz [_,_] [] [(.eq Y0 Y1),(.le Y1 1000000)] (.il (.a (.c Y0) 1) 9223372036854775808) [1011] rfl hl this) ?_
  rename_i vs xs
  have:(!vs.toArray.isEmpty)=!xs.isEmpty:=by cases q <;> simp
  rw[this];exact h _
 |lst ha =>
  refine ae (DX e) fun xs hx zq11=>?_;subst zq11
  refine b4 (R.getList ha hx) fun vs l q z z'=>?_
  refine wpAny_truthy_list l (by have:_<=1000000:=z';simp;exact oqz [vs.length] [] [(.le Y0 1000000)] (.il (.a (.c Y0) 1) 9223372036854775808) [11] rfl this) ?_
  have:(!vs.toArray.isEmpty)=!xs.isEmpty:=by cases q <;> simp
  rw[this];exact h _
 |fn _=>cases e
end
noncomputable def SC(X:SX)(c:MC)(pe:PE)(e:Expr):Prop:=
 ∀ (env:Env) (s:Shared) (α:List Addr) (ρ:Loc) (H:Hp) (Q:Bool->Hp->Prop) (E:Value->Shared->Prop),ch c env->GF X.G c.g X.DT s.heap->HR X.G α s.heap H->FI X.G c env α s.heap ρ ->
  wpE X.sub X.Φ pe ρ H (fun v H'=>ifSome (bm H' v) fun t=>Q t H')->wpAny (model X.prog X.w) X.A (isTrue e env (eval e env)) (Post X.G (fun _ _ a b=>a=b) s α H Q) E s
noncomputable def b5(e:Expr):Prop:=∀ (env:Env) (whole:Sem Value),isTrue e env whole=(do let v <- whole;standAt e.pos;holding [v] (truthy v))
section
variable {X:SX}{c:MC}
theorem xV{pe:PE}{e:Expr}(h:SE X c pe e)(he:b5 e):SC X c pe e:=fun env s α ρ H Q E O T R F q=>by
 refine wpAny_isTrue_value (wpAny_mono (h env s α ρ H _ E O T R F q) (fun v s1 p=>?_) fun _ _ x=>x) (he env _)
 obtain ⟨h₁,tk₁,β,K,d,rfl,k,f,R',r,q⟩:=p
 refine ae (ifSome.get q) fun t e q=>?_
 exact fe (s:={ s with heap:=h₁,toks:=tk₁ }) R' r e fun tk=>⟨h₁,tk,β,K,t,rfl,k,f,R',rfl,q⟩
theorem CN{op:BOp}{a b:PE}{l r:Expr}{pos:Pos}(hA:AOk X.prog X.A)(h1:SE X c a l)(h2:SE X c b r):SE X c (.bin op a b) (.BinOp l (Dw op) r pos):=fun env s α ρ H Q E O T R F q=>by
 refine wpAny_BinOp (two h1 h2 O T R F (Q:=fun x y H2=>gN op x y H2 Q) q fun h' tk β K u v x y k f R' ru rv q'=>?_)
 exact wpAny_mono (qp (s:={ s with heap:=h',toks:=tk }) (hA.py _ _ (T.nolimit.keeps k) (T.seer.keeps k)) R' ru rv q') (fun _ _ p=>p.trans k f) fun _ _ x=>x
theorem Ef{a:PE}{l:Expr}{pos:Pos}(h1:SE X c a l):SE X c (.neg a) (.UnaryOp .USub l pos):=fun env s α ρ H Q E O T R F q=>by
 refine wpAny_UnaryOp (wpAny_mono (h1 env s α ρ H _ E O T R F q) (fun v s1 p=>?_) fun _ _ x=>x)
 refine p.then fun h₁ tk₁ β K d k f R' r q'=>?_
 cases d <;> first|exact q'.elim|skip
 cases r
 exact neg_int (Post.same R' (.int _ _) q' _)
theorem EV{a:PE}{l:Expr}{pos:Pos}(h1:SE X c a l):SE X c (.nt a) (.UnaryOp .Not l pos):=fun env s α ρ H Q E O T R F q=>by
 refine wpAny_UnaryOp (wpAny_mono (h1 env s α ρ H _ E O T R F q) (fun v s1 p=>?_) fun _ _ x=>x)
 refine p.then fun h₁ tk₁ β K d k f R' r q'=>?_
 refine ae (ifSome.get q') fun t e q'=>?_
 exact not_value (fe (s:={ s with heap:=h₁,toks:=tk₁ }) R' r e fun tk=>Post.same (s:={ s with heap:=h₁,toks:=tk₁ }) R' (.bool _) q' tk)
theorem Fy{a:PE}{l:Expr}{pos:Pos}(h1:SC X c a l):SC X c (.nt a) (.UnaryOp .Not l pos):=fun env s α ρ H Q E O T R F q=>by
 refine wpAny_isTrue_Not (wpAny_mono (h1 env s α ρ H (fun t=>Q (!t)) E O T R F ?_) (fun v s1 p=>?_) fun _ _ x=>x)
 ·exact q
 ·obtain ⟨h₁,tk₁,β,K,d,rfl,k,f,R',rfl,q'⟩:=p
  exact ⟨h₁,tk₁,β,K,_,rfl,k,f,R',rfl,q'⟩
theorem Di{op:COp}{a b:PE}{l r:Expr}{pos:Pos}(hA:AOk X.prog X.A)(hm:behindInMarks (lQ op) r=false)(h1:SE X c a l)(h2:SE X c b r):SE X c (.cmp op a b) (.Compare l [lQ op] [r] pos):=fun env s α ρ H Q E O T R F q=>by
 refine wpAny_Compare1 (two h1 h2 O T R F (Q:=fun x y H2=>dJ op x y H2 Q) q fun h' tk β K u v x y k f R' ru rv q'=>?_) hm
 exact wpAny_mono (mq (s:={ s with heap:=h',toks:=tk }) hA R' ru rv q') (fun _ _ p=>p.trans k f) fun _ _ x=>x
theorem DG{op:COp}{a b:PE}{l r:Expr}{pos:Pos}(hA:AOk X.prog X.A)(hm:behindInMarks (lQ op) r=false)(h1:SE X c a l)(h2:SE X c b r):SC X c (.cmp op a b) (.Compare l [lQ op] [r] pos):=fun env s α ρ H Q E O T R F q=>by
 refine wpAny_isTrue_Compare1 (two h1 h2 O T R F (Q:=fun x y H2=>dJ op x y H2 _) q fun h' tk β K u v x y k f R' ru rv q'=>?_) hm
 refine wpAny_mono (mq (s:={ s with heap:=h',toks:=tk }) hA R' ru rv q') (fun v s1 p=>?_) fun _ _ x=>x
 obtain ⟨h₂,tk2,β2,K2,d,rfl,k2,f2,R2,r2,q2⟩:=p
 refine ae (ifSome.get q2) fun t e q2=>?_
 refine fe (s:={ s with heap:=h₂,toks:=tk2 }) R2 r2 e fun tk'=>?_
 exact Post.trans (tk₁:=tk) k f ⟨h₂,tk',β2,K2,t,rfl,k2,f2,R2,rfl,q2⟩
noncomputable def ou(X:SX)(c:MC)(b:Bool)(ps:PEs)(es:List Expr):Prop:=
 ∀ (env:Env) (s:Shared) (α:List Addr) (ρ:Loc) (H:Hp) (Q:V->Hp->Prop) (E:Value->Shared->Prop) (pos:Pos),ch c env->GF X.G c.g X.DT s.heap->HR X.G α s.heap H->FI X.G c env α s.heap ρ ->
  bX X.sub X.Φ b ps ρ H Q->wpAny (model X.prog X.w) X.A (boolOp pos (if b then .And else .Or) (evalEach es env)) (Post X.G (Rep X.G) s α H Q) E s
noncomputable def iM(X:SX)(c:MC)(b:Bool)(ps:PEs)(es:List Expr):Prop:=
 ∀ (env:Env) (s:Shared) (α:List Addr) (ρ:Loc) (H:Hp) (Q:Bool->Hp->Prop) (E:Value->Shared->Prop),ch c env->GF X.G c.g X.DT s.heap->HR X.G α s.heap H->FI X.G c env α s.heap ρ ->
  bX X.sub X.Φ b ps ρ H (fun v H'=>ifSome (bm H' v) fun t=>Q t H')->wpAny (model X.prog X.w) X.A (allTrue (if b then .And else .Or) es env) (Post X.G (fun _ _ a b=>a=b) s α H Q) E s
theorem xJ{b:Bool}:ou X c b .nil []:=fun env s α ρ H Q E pos O T R F q=>(show False from q).elim
theorem u3{b:Bool}:iM X c b .nil []:=fun env s α ρ H Q E O T R F q=>(show False from q).elim
theorem wz{b:Bool}{a:PE}{e:Expr}(h:SE X c a e):ou X c b (.cons a .nil) [e]:=fun env s α ρ H Q E pos O T R F q=>by
 cases b <;> exact h env s α ρ H Q E O T R F (show wpE X.sub X.Φ a ρ H Q from q)
theorem uP{b:Bool}{a a2:PE}{r:PEs}{e e2:Expr}{es:List Expr}(h1:SE X c a e)(h2:ou X c b (.cons a2 r) (e2::es)):ou X c b (.cons a (.cons a2 r)) (e::e2::es):=fun env s α ρ H Q E pos O T R F q=>by
 replace q:wpE X.sub X.Φ a ρ H fun v H1=>ifSome (bm H1 v) fun t=>if t=b then bX X.sub X.Φ b (.cons a2 r) ρ H1 Q else Q v H1:=q
 have key:wpAny (model X.prog X.w) X.A (eval e env >>= fun v=>do
   standAt pos
   let t <- holding [v] (truthy v)
   match (if b then BoolOp.And else BoolOp.Or),t with
   | .And,false | .Or,true=>pure v
   |_,_=>boolOp pos (if b then .And else .Or) (evalEach (e2::es) env)) (Post X.G (Rep X.G) s α H Q) E s:=by
  refine GS (wpAny_mono (h1 env s α ρ H _ E O T R F q) (fun v s1 p=>?_) fun _ _ x=>x)
  refine p.then fun h₁ tk₁ β K d k f R' rr q'=>?_
  refine ae (ifSome.get q') fun t e q'=>?_
  refine GS (wpAny_standAt (GS (Js (fe (s:={ s with heap:=h₁,toks:=tk₁ }) R' rr e fun tk=>?_))))
  have step:wpAny (model X.prog X.w) X.A (boolOp pos (if b then .And else .Or) (evalEach (e2::es) env)) (Post X.G (Rep X.G) { s with heap:=h₁,toks:=tk } (α++β) (H++K) Q) E { s with heap:=h₁,toks:=tk } ->
    wpAny (model X.prog X.w) X.A (boolOp pos (if b then .And else .Or) (evalEach (e2::es) env)) (Post X.G (Rep X.G) { s with heap:=h₁,toks:=tk₁ } (α++β) (H++K) Q) E { s with heap:=h₁,toks:=tk }:=fun h =>
   wpAny_mono h (fun _ _ p=>by obtain ⟨h',tk',β',K',d',e',a',b',c',r',q''⟩:=p;exact ⟨h',tk',β',K',d',e',a',b',c',r',q''⟩) fun _ _ x=>x
  cases b <;> cases t <;> simp only[II,Bool.true_eq_false,if_true,if_false] at q' ⊢
  ·exact step (h2 env { s with heap:=h₁,toks:=tk } (α++β) ρ (H++K) Q E pos O (T.keeps k) R' (F.up k) q')
  ·exact G6 (Post.same (s:={ s with heap:=h₁,toks:=tk₁ }) R' rr q' tk)
  ·exact G6 (Post.same (s:={ s with heap:=h₁,toks:=tk₁ }) R' rr q' tk)
  ·exact step (h2 env { s with heap:=h₁,toks:=tk } (α++β) ρ (H++K) Q E pos O (T.keeps k) R' (F.up k) q')
 exact key
theorem uR{b:Bool}{a:PE}{e:Expr}(h:SC X c a e):iM X c b (.cons a .nil) [e]:=fun env s α ρ H Q E O T R F q=>by
 replace q:wpE X.sub X.Φ a ρ H fun v H'=>ifSome (bm H' v) fun t=>Q t H':=q
 cases b
 ·refine wpAny_allTrue_Or_cons (wpAny_mono (h env s α ρ H Q E O T R F q) (fun v s1 p=>?_) fun _ _ x=>x)
  cases v
  ·exact wpAny_allTrue_Or_nil p
  ·exact p
 ·refine wpAny_allTrue_And_cons (wpAny_mono (h env s α ρ H Q E O T R F q) (fun v s1 p=>?_) fun _ _ x=>x)
  cases v
  ·exact p
  ·exact wpAny_allTrue_And_nil p
theorem rS{b:Bool}{a a2:PE}{r:PEs}{e e2:Expr}{es:List Expr}(h1:SC X c a e)(h2:iM X c b (.cons a2 r) (e2::es)):iM X c b (.cons a (.cons a2 r)) (e::e2::es):=fun env s α ρ H Q E O T R F q=>by
 replace q:wpE X.sub X.Φ a ρ H fun v H1=>ifSome (bm H1 v) fun t=>if t=b then bX X.sub X.Φ b (.cons a2 r) ρ H1 (fun v H'=>ifSome (bm H' v) fun t=>Q t H') else ifSome (bm H1 v) fun t=>Q t H1:=q
 have e0:(fun (v:V) (H1:Hp)=>ifSome (bm H1 v) fun t=>if t=b then bX X.sub X.Φ b (.cons a2 r) ρ H1 (fun v H'=>ifSome (bm H' v) fun t=>Q t H') else ifSome (bm H1 v) fun t=>Q t H1) =
   fun v H1=>ifSome (bm H1 v) fun t=>if t=b then bX X.sub X.Φ b (.cons a2 r) ρ H1 (fun v H'=>ifSome (bm H' v) fun t=>Q t H') else Q t H1:=by
  funext v H1
  generalize bm H1 v=o
  cases o <;> rfl
 rw[e0] at q
 have h:=h1 env s α ρ H _ E O T R F q
 cases b
 ·refine wpAny_allTrue_Or_cons (wpAny_mono h (fun v s1 p=>?_) fun _ _ x=>x)
  cases v
  ·simp only[II,if_false]
   refine p.then fun h₁ tk₁ β K d k f R' rr q'=>?_
   subst rr
   simp only[if_true] at q'
   exact h2 env { s with heap:=h₁,toks:=tk₁ } (α++β) ρ (H++K) Q E O (T.keeps k) R' (F.up k) q'
  ·obtain ⟨h',tk',β',K',d',e',k',f',R',rfl,q'⟩:=p
   exact ⟨h',tk',β',K',_,e',k',f',R',rfl,q'⟩
 ·refine wpAny_allTrue_And_cons (wpAny_mono h (fun v s1 p=>?_) fun _ _ x=>x)
  cases v
  ·obtain ⟨h',tk',β',K',d',e',k',f',R',rfl,q'⟩:=p
   exact ⟨h',tk',β',K',_,e',k',f',R',rfl,q'⟩
  ·simp only[if_true]
   refine p.then fun h₁ tk₁ β K d k f R' rr q'=>?_
   subst rr
   simp only[if_true] at q'
   exact h2 env { s with heap:=h₁,toks:=tk₁ } (α++β) ρ (H++K) Q E O (T.keeps k) R' (F.up k) q'
theorem Eh{ps:PEs}{es:List Expr}{pos:Pos}(h:ou X c true ps es):SE X c (.and ps) (.BoolOp .And es pos):=fun env s α ρ H Q E O T R F q=>by
 rw[arm_eval_BoolOp];exact h env s α ρ H Q E pos O T R F (by simpa only [lZ] using q)
theorem Fv{ps:PEs}{es:List Expr}{pos:Pos}(h:ou X c false ps es):SE X c (.or ps) (.BoolOp .Or es pos):=fun env s α ρ H Q E O T R F q=>by
 rw[arm_eval_BoolOp];exact h env s α ρ H Q E pos O T R F (by simpa only [iP] using q)
theorem B9{ps:PEs}{es:List Expr}{pos:Pos}(h:iM X c true ps es):SC X c (.and ps) (.BoolOp .And es pos):=fun env s α ρ H Q E O T R F q =>
 wpAny_isTrue_BoolOp (h env s α ρ H Q E O T R F (by simpa only [lZ] using q))
theorem E7{ps:PEs}{es:List Expr}{pos:Pos}(h:iM X c false ps es):SC X c (.or ps) (.BoolOp .Or es pos):=fun env s α ρ H Q E O T R F q =>
 wpAny_isTrue_BoolOp (h env s α ρ H Q E O T R F (by simpa only [iP] using q))
end
theorem fB{pos:Pos}{env:Env}:∀ {es:List Expr},cS es=true->(backTo pos (starEach es env)).any (·.1)=false
 | [],_=>rfl
 |e::es,h=>by
  simp only[cS,List.all_cons,H6] at h
  rw[aL h.1]
  show (false || (backTo pos (starEach es env)).any (·.1))=false
  rw[fB h.2];rfl
section
variable {X:SX}{c:MC}
theorem tI{f:Nat}{x:Str}{ps:PEs}{e:Expr}{es:List Expr}{pos:Pos}(hΦ:jE X.prog X.w X.G c.g X.DT X.A X.Φ)(hf:c.g.fns[f]?=some x)(hn:cX e=true)(h:SEs X c ps (e::es))
  (env:Env) (s:Shared) (α:List Addr) (ρ:Loc) (H:Hp) (Q:V->Hp->Prop) (E:Value->Shared->Prop) (O:ch c env) (T:GF X.G c.g X.DT s.heap) (R:HR X.G α s.heap H) (F:FI X.G c env α s.heap ρ)
  (q:eV X.sub X.Φ ps ρ H fun vs H1=>X.Φ f vs H1 Q fun _ _=>False) :
  wpAny (model X.prog X.w) X.A (callWith pos (.ref (X.G.fa f)) [] (backTo pos (starEach (e::es) env)) []) (Post X.G (Rep X.G) s α H Q) E s:=by
 refine dI (T.fn f x hf) fun _ d o pm cd doc _ _ ho hd _=>?_
 refine callWith_def hd (wpAny_mono (h env s α ρ H _ E pos O T R F q) (fun vs s1 p=>?_) fun _ _ y=>y) (aL hn)
 obtain ⟨h₁,tk₁,β,K,ds,rfl,k,f',R',r,q'⟩:=p
 refine ⟨k _ _ ho,?_⟩
 exact wpAny_mono (hΦ f x ds (H++K) Q hf q' { s with heap:=h₁,toks:=tk₁ } (α++β) vs E (T.keeps k) R' r.1) (fun _ _ p=>p.trans k f') fun _ _ y=>y
theorem z7{f:Nat}{x:Str}{ps:PEs}{es:List Expr}{p pos:Pos}(hΦ:jE X.prog X.w X.G c.g X.DT X.A X.Φ)(hf:c.g.fns[f]?=some x)(hx:c.isGlob x=true)(he:(!es.isEmpty)=true)(hn:cS es=true)(h:SEs X c ps es) :
  SE X c (.call f ps) (.Call (.Name x p) es [] pos):=fun env s α ρ H Q E O T R F q=>by
 cases es with|nil=>exact (GZ he).elim|cons e es=>exact Call_ (gA O hx T.g (T.fn f x hf).1 (tI hΦ hf (HK.mp hn).1 h env s α ρ H Q E O T R F q))
theorem yj{i f:Nat}{x y:Str}{ps:PEs}{es:List Expr}{p pos:Pos}(hΦ:jE X.prog X.w X.G c.g X.DT X.A X.Φ)(hf:c.g.fns[f+1]?=some x)(hy:c.isVar i y=true)(he:(!es.isEmpty)=true)(hn:cS es=true)(h:SEs X c ps es) :
  SE X c (.callv i f ps) (.Call (.Name y p) es [] pos):=fun env s α ρ H Q E O T R F q=>by
 cases es with|nil=>exact (GZ he).elim|cons e es =>
 obtain ⟨v,e1,k,hk,rfl,q⟩:=ifSome.get q
 obtain ⟨x',hf⟩:∃x',c.g.fns[k]?=some x':=⟨_,G2 (Hx (show k<=f+1 by rcases hk with rfl|rfl <;> simp) (GX.mp hf).1)⟩
 refine ae (F i y _ (MC.isVar_spec hy).1 e1) fun u hu r=>?_
 cases r with
 |fn e2=>subst e2;exact Call_ (fz O hy hu (tI hΦ hf (HK.mp hn).1 h env s α ρ H Q E O T R F q))
theorem Am:bootBuiltins "abs"=some (.builtin "abs"):=by boot_by_name
theorem AK:bootBuiltins "len"=some (.builtin "len"):=by boot_by_name
theorem sz:bootBuiltins "int"=some (.type "int"):=by boot_by_name
theorem kN:bootBuiltins "list"=some (.type "list"):=by boot_by_name
theorem mC:bootBuiltins "tuple"=some (.type "tuple"):=by boot_by_name
theorem zB:bootBuiltins "min"=some (.builtin "min"):=by boot_by_name
theorem Ao:bootBuiltins "isinstance"=some (.builtin "isinstance"):=by boot_by_name
theorem tm:bootBuiltins "reversed"=some (.type "reversed"):=by boot_by_name
theorem vr:bootBuiltins "range"=some (.type "range"):=by boot_by_name
theorem xE:bootBuiltins "bool"=some (.type "bool"):=by boot_by_name
theorem Ai:(Str.ofString "abs") ∈ bltNames:=by simp[bltNames]
theorem zO:(Str.ofString "len") ∈ bltNames:=by simp[bltNames]
theorem tH:(Str.ofString "int") ∈ bltNames:=by simp[bltNames]
theorem lH:(Str.ofString "list") ∈ bltNames:=by simp[bltNames]
theorem mH:(Str.ofString "tuple") ∈ bltNames:=by simp[bltNames]
theorem zv:(Str.ofString "min") ∈ bltNames:=by simp[bltNames]
theorem xM:(Str.ofString "bool") ∈ bltNames:=by simp[bltNames]
theorem zF:(Str.ofString "isinstance") ∈ bltNames:=by simp[bltNames]
theorem uu:(Str.ofString "reversed") ∈ bltNames:=by simp[bltNames]
theorem mem_range:(Str.ofString "range") ∈ bltNames:=by simp[bltNames]
theorem d9{x:Str}{v:Value}{pos:Pos}{env:Env}{s:Shared}{Q:Value->Shared->Prop}{E:Value->Shared->Prop}(hb:bootBuiltins x=some v)(hm:x∈bltNames)(hx:c.isGlob x=true)(O:ch c env)(T:GF X.G c.g X.DT s.heap)(h:Q v s) :
  wpAny (model X.prog X.w) X.A (eval (.Name x pos) env) Q E s:=
 yD O hx T.g (T.blt x hm).1 T.b ((T.blt x hm).2.trans hb) h
theorem qv{x:Str}{id:String}{ps:PEs}{e:Expr}{es:List Expr}{p pos:Pos}{env:Env}{s:Shared}{α:List Addr}{ρ:Loc}{H:Hp}{Q:V->Hp->Prop}{Q1:List V->Hp->Prop}{E:Value->Shared->Prop}
  (hb:bootBuiltins x=some (.builtin id)) (hm:x∈bltNames) (hx:c.isGlob x=true) (hn:cS (e::es)=true) (h:SEs X c ps (e::es)) (O:ch c env) (T:GF X.G c.g X.DT s.heap) (R:HR X.G α s.heap H) (F:FI X.G c env α s.heap ρ)
  (q:eV X.sub X.Φ ps ρ H Q1)
  (hz:∀h' tk β K vs ds,KeepsH s.heap h'->HR X.G (α++β) h' (H++K)->Reps X.G (α++β) h' vs ds->Q1 ds (H++K) ->
   wpAny (model X.prog X.w) X.A (call (.builtin id) vs) (Post X.G (Rep X.G) { s with heap:=h',toks:=tk } (α++β) (H++K) Q) E { s with heap:=h',toks:=tk }) :
  wpAny (model X.prog X.w) X.A (eval (.Call (.Name x p) (e::es) [] pos) env) (Post X.G (Rep X.G) s α H Q) E s:=by
 simp only[cS,List.all_cons,H6] at hn
 refine Call_ (d9 hb hm hx O T (callWith_builtin1 (wpAny_mono (h env s α ρ H _ E pos O T R F q) (fun vs s1 p=>?_) fun _ _ y=>y) (aL hn.1) (fB hn.2)))
 exact p.then fun h₁ tk₁ β K d k f R' r q'=>hz h₁ tk₁ β K vs d k R' r.1 q'
theorem rm{x:Str}{id:String}{ps:PEs}{e:Expr}{es:List Expr}{p pos:Pos}{env:Env}{s:Shared}{α:List Addr}{ρ:Loc}{H:Hp}{Q:V->Hp->Prop}{Q1:List V->Hp->Prop}{E:Value->Shared->Prop}
  (hb:bootBuiltins x=some (.type id)) (hm:x∈bltNames) (hx:c.isGlob x=true) (hn:cS (e::es)=true) (h:SEs X c ps (e::es)) (O:ch c env) (T:GF X.G c.g X.DT s.heap) (R:HR X.G α s.heap H) (F:FI X.G c env α s.heap ρ)
  (q:eV X.sub X.Φ ps ρ H Q1)
  (hz:∀h' tk β K vs ds,KeepsH s.heap h'->HR X.G (α++β) h' (H++K)->Reps X.G (α++β) h' vs ds->Q1 ds (H++K) ->
   wpAny (model X.prog X.w) X.A (call (.type id) vs) (Post X.G (Rep X.G) { s with heap:=h',toks:=tk } (α++β) (H++K) Q) E { s with heap:=h',toks:=tk }) :
  wpAny (model X.prog X.w) X.A (eval (.Call (.Name x p) (e::es) [] pos) env) (Post X.G (Rep X.G) s α H Q) E s:=by
 simp only[cS,List.all_cons,H6] at hn
 refine Call_ (d9 hb hm hx O T (callWith_type1 (wpAny_mono (h env s α ρ H _ E pos O T R F q) (fun vs s1 p=>?_) fun _ _ y=>y) (aL hn.1) (fB hn.2)))
 exact p.then fun h₁ tk₁ β K d k f R' r q'=>hz h₁ tk₁ β K vs d k R' r.1 q'
end
end Mine
namespace Mine
open PySem PyProof PyProof.Rows
section
end
end Mine
namespace Mine
open PySem PyProof.Rows PySem.Calls
section
variable {prog:Program}{w:World}{A:Around}{E:Value->Shared->Prop}{s:Shared}{G:GV}{α:List Addr}{H:Hp}{Q:V->Hp->Prop}
theorem zw{v:Value}{d:V}{xs:List V}(R:HR G α s.heap H)(r:Rep G α s.heap v d)(e:items H d=some xs)(q:Q (.lst H.length) (H++[xs])) :
  wpAny (model prog w) A (call (.type "list") [v]) (Post G (Rep G) s α H Q) E s:=by
 refine d7 (lG R r e) fun a vs zq22 rs z z' hk=>?_;subst zq22
 have hsz:vs.toArray.size<=sizeLine:=by rw[Ht];exact GP z' fm
 have go:∀h' c',KeepsH s.heap h'->h'.get? s.heap.objs.size=some { cls:=.type "list",dict:=none,data:=.seq vs.toArray c',slots:=#[] }->Post G (Rep G) s α H Q (.ref s.heap.objs.size) { s with heap:=h' }:=fun h' c' k hg =>
  Post.newLst R k (rs.mono (fun _ _ e=>e) (.of k)) z q (cK _) ⟨c',hg⟩ s.toks
 rcases hk with ⟨⟨o,ho,hc,n,hd⟩,_⟩ | ⟨⟨o,ho,hc,n,hd⟩,_⟩
 ·exact call_list_seq a (.inr rfl) ho hc hd go hsz
 ·exact call_list_seq a (.inl rfl) ho hc hd go hsz
theorem wS{v:Value}{d:V}{xs:List V}(R:HR G α s.heap H)(r:Rep G α s.heap v d)(e:items H d=some xs)(q:Q (.tup xs) H) :
  wpAny (model prog w) A (call (.type "tuple") [v]) (Post G (Rep G) s α H Q) E s:=by
 refine d7 (lG R r e) fun a vs zq21 rs z z' hk=>?_;subst zq21
 have hsz:vs.toArray.size<=sizeLine:=by rw[Ht];exact GP z' fm
 rcases hk with ⟨ht,ys,rfl⟩ | ⟨hl,n,rfl⟩
 ·cases e
  exact call_tuple_tup ht (Post.same' R r q)
 ·refine call_tuple_list hl (fun h' k=>?_) hsz
  have k2:KeepsH s.heap (h'.push { cls:=.type "tuple",data:=.seq vs.toArray }):=KeepsH.trans k (bc _ _)
  refine ⟨_,s.toks,[],[],.tup xs,rfl,k2,by simp,by simpa using R.keeps k2,?_,by simpa using q⟩
  exact Rep.tup (vs:=vs) ⟨_,Hi _ rfl,rfl,_,rfl⟩ (rs.up k2) z
theorem DR{v:Value}{d:V}{xs:List V}(R:HR G α s.heap H)(r:Rep G α s.heap v d)(e:items H d=some xs)(q:Q (.int xs.length) H) :
  wpAny (model prog w) A (call (.builtin "len") [v]) (Post G (Rep G) s α H Q) E s:=by
 refine d7 (lG R r e) fun a vs zq20 rs z z' hk=>?_;subst zq20
 have hz:(vs.toArray.size:Int)<2^63:=by have:vs.length<=1000000:=z';simp;exact oqz [vs.length] [] [(.le Y0 1000000)] (.il (.a (.c Y0) 1) 9223372036854775808) [11] rfl this
 have hl:((vs.toArray.size:Nat):Int)=xs.length:=by simp[rs.len]
 rcases hk with ⟨ht,_⟩ | ⟨hl',_⟩
 ·exact len_tuple ht hz (by rw[hl];exact Post.same R (.int _ _) q _)
 ·exact len_list hl' hz (by rw[hl];exact Post.same R (.int _ _) q _)
theorem fE{b:Bi}{vs:List Value}{ds:List V}(hA:AOk prog A)(R:HR G α s.heap H)(r:Reps G α s.heap vs ds)(q:ld b ds H Q) :
  match b with
  | .abs=>wpAny (model prog w) A (call (.builtin "abs") vs) (Post G (Rep G) s α H Q) E s
  | .len=>wpAny (model prog w) A (call (.builtin "len") vs) (Post G (Rep G) s α H Q) E s
  | .int=>wpAny (model prog w) A (call (.type "int") vs) (Post G (Rep G) s α H Q) E s
  | .list=>wpAny (model prog w) A (call (.type "list") vs) (Post G (Rep G) s α H Q) E s
  | .tuple=>wpAny (model prog w) A (call (.type "tuple") vs) (Post G (Rep G) s α H Q) E s
  | .min=>wpAny (model prog w) A (call (.builtin "min") vs) (Post G (Rep G) s α H Q) E s
  | .listrev=>True:=by
 cases b
 ·refine ae (if1.get q) fun d e q=>?_
  apply r.ol e;intro v a
  exact ae (ifInt.get q) fun i e q=>by (apply a.oi e;intro t;exact call_abs_int fun u tk=>Post.same R (.int _ _) q tk)
 ·refine ae (if1.get q) fun d e q=>?_
  apply r.ol e;intro v a
  exact ae (ifSome.get q) fun xs e q=>DR R a e q
 ·refine ae (if1.get q) fun d e q=>?_
  apply r.ol e;intro v a
  refine ae (ifBo.get q) fun b e q=>?_
  subst e;cases a.bool_inv
  exact call_int_bool (Post.same R (.int _ _) q _)
 ·refine ae (if1.get q) fun d e q=>?_
  apply r.ol e;intro v a
  exact ae (ifSome.get q) fun xs e q=>zw R a e q
 ·refine ae (if1.get q) fun d e q=>?_
  apply r.ol e;intro v a
  exact ae (ifSome.get q) fun xs e q=>wS R a e q
 ·refine cR (if2.get q) fun d d' e q=>?_
  subst e
  refine aF (r.two_inv) fun v v' zq14 a a'=>?_;subst zq14
  refine aF (ifI2.get q) fun x y e e' q=>?_
  apply a.ii a' e e';intro tx ty
  refine min_two_ints hA.handled fun h' tk k=>?_
  have:(if y<x then Value.int y ty else Value.int x tx)=Value.int (if y<x then y else x) (if y<x then ty else tx):=by split <;> rfl
  rw[this]
  exact ⟨h',tk,[],[],_,rfl,k,List.forall_mem_nil _,by rw[List.append_nil,List.append_nil];exact R.keeps k,.int _ _,by rw[List.append_nil];exact q⟩
 ·trivial
theorem hO{n i:Nat}{k:Int}(h:cD n k=some i):i<n/\((0<=k/\k=i)\/(k<0/\k+n=i)):=by
 unfold cD at h
 split at h
 ·split at h
  ·cases h;exact oqz [k.toNat,n] [k] [(.il 0 Y0),(.il (Y0+1) (.c Y1)),(otn Y0 Y0)] (.an (.le (Y0+1) Y1) (.or (.an (.il 0 Y0) (.ie Y0 (.c Y0))) (.an (.il (Y0+1) 0) (.ie (.a Y0 (.c Y1)) (.c Y0))))) [10101,10111,100001,100101,1000001,10001] rfl (by assumption) (by assumption) (aQ (k))
  ·cases h
 ·split at h
  ·cases h;exact oqz [(k+(↑n:Int)).toNat,n] [k] [(.no (.il 0 Y0)),(.il 0 (.a Y0 (.c Y1))),(otn (.a Y0 (.c Y1)) Y0)] (.an (.le (Y0+1) Y1) (.or (.an (.il 0 Y0) (.ie Y0 (.c Y0))) (.an (.il (Y0+1) 0) (.ie (.a Y0 (.c Y1)) (.c Y0))))) [10011,10111,100010,101010,1000010,10010,110] rfl (by assumption) (by assumption) (aQ (k+(↑n:Int)))
  ·cases h
theorem mj{n i:Nat}{k:Int}(h:cD n k=some i):seqIndex? k n=some i:=by
 obtain ⟨h1,h2⟩:=hO h
 unfold seqIndex?
 rcases h2 with ⟨h0,h2⟩ | ⟨h0,h2⟩
 ·have:¬ k<0:=oqz [] [k] [(.il 0 Y0)] (.no (.il (Y0+1) 0)) [11] rfl h0
  simp only[this,if_false,H6,It]
  rw[if_pos ⟨h0,by exact oqz [n,i] [k] [(.le (Y1+1) Y0),(.ie Y0 (.c Y1))] (.il (Y0+1) (.c Y0)) [111] rfl h1 h2⟩];congr 1;exact oqz [k.toNat,i] [k] [(.ie Y0 (.c Y1)),(otn Y0 Y0)] (.eq Y0 Y1) [100101,1101,10011,10001] rfl h2 (aQ (k))
 ·simp only[h0,if_true,H6,It]
  rw[if_pos ⟨by exact oqz [n,i] [k] [(.ie (.a Y0 (.c Y0)) (.c Y1))] (.il 0 (.a Y0 (.c Y0))) [101] rfl h2,by exact oqz [n,i] [k] [(.le (Y1+1) Y0),(.ie (.a Y0 (.c Y0)) (.c Y1))] (.il (.a (.a Y0 (.c Y0)) 1) (.c Y0)) [111] rfl h1 h2⟩];congr 1;exact oqz [(k+(↑n:Int)).toNat,n,i] [k] [(.ie (.a Y0 (.c Y1)) (.c Y2)),(otn (.a Y0 (.c Y1)) Y0)] (.eq Y0 Y2) [100101,1101,10011,10001] rfl h2 (aQ (k+(↑n:Int)))
theorem vh{value slice:Expr}{u v:Value}{x y:V}(hs:∀o i,subscripted slice false o i=operate [o,i] (getItem o i))(R:HR G α s.heap H)(ru:Rep G α s.heap u x)(rv:Rep G α s.heap v y)(q:dX x y H Q) :
  wpAny (model prog w) A (subscriptTail value slice u v) (Post G (Rep G) s α H Q) E s:=by
 refine ae (ifInt.get q) fun k ek q=>?_
 apply rv.oi ek;intro t
 clear ek
 refine ae (ifSome.get q) fun xs e q=>?_
 refine ae (ifSome.get q) fun i hp q=>?_
 refine ae (ifSome.get q) fun d hd q=>?_
 refine d7 (lG R ru e) fun a vs zq13 rs z z' hk=>?_;subst zq13
 refine ae (rs.get hd) fun val aw rd=>?_
 have hz:vs.length<=1000000:=z'
 have hlen:=rs.len
 rw[<- hlen] at hp
 obtain ⟨h1,h2⟩:=hO hp
 have hval':vs.toArray[i]?=some val:=by simpa using aw
 have b1:=(sY hz h1 h2).1
 have b2:=(sY hz h1 h2).2
 rcases hk with ⟨ht,_⟩ | ⟨hl,_⟩
 ·exact item_tupleT (j:=i) ht b1 b2 (mj hp) aw (Post.same' R rd q) (hs _ _)
 ·rcases h2 with ⟨h0,h2⟩ | ⟨h0,h2⟩
  ·exact tail_any hl.typeIs slot_list_getitem.lookup (wpAny_getItem_list hl h0 b2 (by rw[show k.toNat=i by exact oqz [k.toNat,i] [k] [(.ie Y0 (.c Y1)),(otn Y0 Y0)] (.eq Y0 Y1) [100101,1101,10011,10001] rfl h2 (aQ (k))];exact hval') (Post.same' R rd q)) (hs _ _)
  ·refine tail_any hl.typeIs slot_list_getitem.lookup (wpAny_getItem_list_neg hl h0 (by simp;exact oqz [vs.length,i] [k] [(.ie (.a Y0 (.c Y0)) (.c Y1))] (.il (.g (.c Y0)) Y0) [101] rfl h2) b1 ?_ (Post.same' R rd q)) (hs _ _)
   rw[show (k+(vs.toArray.size:Int)).toNat=i by simp;exact oqz [(k+(↑vs.length:Int)).toNat,vs.length,i] [k] [(.ie (.a Y0 (.c Y1)) (.c Y2)),(otn (.a Y0 (.c Y1)) Y0)] (.eq Y0 Y2) [100101,1101,10011,10001] rfl h2 (aQ (k+(↑vs.length:Int)))];exact hval'
theorem vj{value slice:Expr}{u l h:Value}{n:Nat}{xs:List V}{lo hi:Option Int}{sl:Addr}(hs:∀o i,subscripted slice false o i=operate [i,o] (getItem o i))(R:HR G α s.heap H)(ru:Rep G α s.heap u (.lst n))(hx:H[n]?=some xs)
  (hsl:s.heap.IsSliceOf sl l h .none) (pl:IsPart l lo) (ph:IsPart h hi) (q:Q (.lst H.length) (H++[cut xs (lo.elim 0 (dH xs.length)) (hi.elim xs.length (dH xs.length))])) :
  wpAny (model prog w) A (subscriptTail value slice u (.ref sl)) (Post G (Rep G) s α H Q) E s:=by
 obtain ⟨a,rfl,ha⟩:=ru.lst_inv
 refine b4 (R.getList ha hx) fun vs hl rs z z'=>?_
 have hlen:=rs.len
 have e:vs.toArray.size=xs.length:=hlen
 have hsz:vs.toArray.size<=sizeLine:=GP z' fm
 refine tail_any hl.typeIs slot_list_getitem.lookup (wpAny_getItem_list_slice (st:=none) hl hsl pl ph .none (by intro e;cases e) ?_ hsz) (hs _ _)
 rw[slicePick_plain,e,show vs.toArray.toList=vs from rfl,<- List.drop_take]
 refine Post.newLst' R ((rs.take _).drop _) ?_ q s.toks
 rw[List.length_drop,JA];exact GP (Nat.sub_le _ _) (GP (JR _ _) (hlen ▸ z'))
end
end Mine
namespace Mine
open PySem PyProof.Rows PySem.Calls
theorem kO:Manifest.owners.lookup (String.ofList ['d','e','s','r','e','v','e','r'].reverse)=some Manifest.sig_reversed:=by kernel_rfl
theorem slot_rv_next:Slot "reversed" "__next__" "reversed.__next__":=
 .of (owner:="reversed") (n:="__next__") (by rw[JI,I4];kernel_rfl) (by decide +kernel) (by decide +kernel) (by decide +kernel)
  (by first|exact .inl (by decide +kernel) |exact .inr (by decide +kernel)) (by rw[JP];kernel_rfl)
theorem gL:entryFor table "reversed.__next__"=some Builtin.«reversed.__next__»:=entryFor_of_tree (by kernel_rfl)
theorem f0(a:Value):argsOk "reversed.__next__" ⟨[a],[]⟩:=by
 unfold argsOk;rw[signature?_of (id:="reversed.__next__") (n:=['_','_','t','x','e','n','_','_']) (o:=['d','e','s','r','e','v','e','r']) (by kernel_rfl) kO];kernel_rfl
theorem iT:Slot "reversed" "__iter__" "reversed.__iter__":=
 .of (owner:="reversed") (n:="__iter__") (by rw[JI,I4];kernel_rfl) (by decide +kernel) (by decide +kernel) (by decide +kernel)
  (by first|exact .inl (by decide +kernel) |exact .inr (by decide +kernel)) (by rw[JP];kernel_rfl)
theorem lE(a:Value):argsOk "reversed.__iter__" ⟨[a],[]⟩:=by
 unfold argsOk;rw[signature?_of (id:="reversed.__iter__") (n:=['_','_','r','e','t','i','_','_']) (o:=['d','e','s','r','e','v','e','r']) (by kernel_rfl) kO];kernel_rfl
theorem l5:entryFor table "reversed.__iter__"=some Builtin.«dict_keyiterator.__iter__»:=by
 first
 |exact entryFor_alias (id':="dict_keyiterator.__iter__") (by kernel_rfl) (by first|rfl|decide +kernel | (unfold String.splitOn;simp +decide [String.splitOnAux])) (by decide +kernel) (by kernel_rfl)
theorem pH:typeLookup (.type "tuple") "__reversed__"=pure none:=by rw[JI,I4];kernel_rfl
theorem lM:isSubtype (.type "tuple") (.type "dict")=pure false:=by rw[JP];kernel_rfl
noncomputable def iy(t:Addr) (i:Int):Obj:={ cls:=.type "reversed",data:=.fields #[.ref t,rawInt i] }
noncomputable def IsRv(h:Heap) (a t:Addr) (i:Int):Prop:=∃o,h.get? a=some o/\o.cls=.type "reversed"/\o.data=.fields #[.ref t,rawInt i]
section
variable {prog:Program}{w:World}{A:Around}{E:Value->Shared->Prop}{s:Shared}
theorem IsRv.typeIs{a t:Addr}{i:Int} (x:IsRv s.heap a t i):s.TypeIs (.ref a) "reversed":=x.elim fun o g=>⟨o,g.1,g.2.1⟩
theorem IsRv.at{h h':Heap}{a t:Addr}{i:Int}(x:IsRv h a t i)(e:∀o,h.get? a=some o->h'.get? a=some o):IsRv h' a t i:=x.elim fun o g=>⟨o,e _ g.1,g.2⟩
theorem nF{it t:Addr}{i:Int}{Q:Value->Shared->Prop}(hit:IsRv s.heap it t i)(h:Q (.ref it) s):wpAny (model prog w) A (pyIter (.ref it)) Q E s:=by
 refine wpAny_pyIter_slot hit.typeIs iT (wpAny_call_entry iT hit.typeIs l5 ?_ (lE _))
 show wpAny _ _ (ret (.ref it)) _ _ s
 exact G6 ⟨_,rfl,"reversed",_,hit.typeIs,slot_rv_next.lookup,h⟩
theorem zd{it t:Addr}{i:Nat}{items:Array Value}{x:Value}{Q:Option Value->Shared->Prop}(hit:IsRv s.heap it t (i:Int))(ht:IsTup s.heap t items)(hx:items[i]?=some x)(hsm:(i:Int)<2^63)
  (hQ:∀h' tk,IsRv h' it t ((i:Int)-1)->Heap.SameBut it s.heap h'->Q (some x) { s with heap:=h',toks:=tk }):wpAny (model prog w) A (pyNext (.ref it)) Q E s:=by
 refine cr (id hit) fun o ho hc hd=>?_
 unfold pyNext
 refine GS (wpAny_attempt (wpAny_callSpecial?_slot (name:=Str.ofString "__next__") hit.typeIs slot_rv_next
  (wpAny_call_entry slot_rv_next hit.typeIs gL ?_ (f0 _))))
 unfold Builtin.«reversed.__next__»
 refine GS (I6 (a:=(Value.ref it,[])) rfl ?_)
 try dsimp only
 refine GS (wpAny_field ho hd (x:=.ref t) rfl ?_)
 refine GS (wpAny_field ho hd (x:=rawInt (i:Int)) rfl ?_)
 show wpAny _ _ (if (i:Int)<0 then _ else _) _ _ s
 rw[if_neg (by exact oqz [i] [] [] (.no (.il (.a (.c Y0) 1) 0)) [1] rfl)]
 show wpAny _ _ (specialOf (.ref t) "__getitem__" >>= _) _ _ s
 refine GS (wpAny_specialOf ht.typeIs slot_tuple_getitem.lookup ?_)
 show wpAny _ _ ((mkInt (i:Int)) >>= _) _ _ s
 refine GS (wpAny_mkInt ?_)
 have hj:seqIndex? (i:Int) items.size=some i:=by
  have hlt:i<items.size:=(Array.getElem?_eq_some_iff.mp hx).1
  unfold seqIndex?
  have:¬ ((i:Int)<0):=oqz [i] [] [] (.no (.il (.a (.c Y0) 1) 0)) [1] rfl
  simp only[this,if_false,H6,It]
  rw[if_pos ⟨by exact oqz [i] [] [] (.il 0 (.c Y0)) [1] rfl,by exact oqz [i,items.size] [] [(.le (Y0+1) Y1)] (.il (.a (.c Y0) 1) (.c Y1)) [11] rfl hlt⟩];congr 1
 refine GS (wpAny_attempt (getItem_tuple (s:={ s with toks:=s.toks+1 }) ht (by exact oqz [i] [2^63] [(.il (.a (.c Y0) 1) Y0)] (.il (.g Y0) (.c Y0)) [11] rfl hsm) hsm hj hx ?_))
 show wpAny _ _ (field (.ref it) 1 >>= _) _ _ _
 refine GS (wpAny_field (s:={ s with toks:=s.toks+1 }) ho hd (x:=rawInt (i:Int)) rfl ?_)
 refine GS (m:=setField (.ref it) 1 (rawInt ((i:Int)-1))) (wpAny_setField (s:={ s with toks:=s.toks+1 }) ho hd (by simp) ?_)
 first
 |refine G6 ⟨x,rfl,G6 (hQ _ _ ?_ (IC ..))⟩
 |refine GS (G6 (G6 ⟨x,rfl,G6 (hQ _ _ ?_ (IC ..))⟩))
 exact ⟨_,I1 _ ho (Obj.isFreed_of_fields (Obj.data_mapFields hd _)),(Obj.cls_mapFields ..).trans hc,by
  rw[Obj.data_mapFields hd];simp⟩
theorem Dp{it t:Addr}{Q:Option Value->Shared->Prop}(hh:A.handled=none)(hit:IsRv s.heap it t (-1))
  (hQ:∀h',Heap.ExtBut it s.heap h'->Q none { s with heap:=h' }):wpAny (model prog w) A (pyNext (.ref it)) Q E s:=by
 refine cr (id hit) fun o ho hc hd=>?_
 unfold pyNext
 refine GS (wpAny_attempt (wpAny_callSpecial?_slot (name:=Str.ofString "__next__") hit.typeIs slot_rv_next
  (wpAny_call_entry slot_rv_next hit.typeIs gL ?_ (f0 _))))
 unfold Builtin.«reversed.__next__»
 refine GS (I6 (a:=(Value.ref it,[])) rfl ?_)
 try dsimp only
 refine GS (wpAny_field ho hd (x:=.ref t) rfl ?_)
 refine GS (wpAny_field ho hd (x:=rawInt (-1)) rfl ?_)
 show wpAny _ _ (if (-1:Int)<0 then _ else _) _ _ s
 rw[if_pos (by decide)]
 refine GS (wpAny_rule ?_)
 show wpAny _ _ ((do setField (.ref it) 1 (rawInt (-1));setField (.ref it) 0 .none:Sem Unit) >>= _) _ _ _
 refine GS (GS (wpAny_setField ho hd (by simp) ?_))
 have ho1:(s.heap.update it (Obj.mapFields fun x=>x.setIfInBounds 1 (rawInt (-1)))).get? it=some (Obj.mapFields (fun x=>x.setIfInBounds 1 (rawInt (-1))) o):=
  I1 _ ho (Obj.isFreed_of_fields (Obj.data_mapFields hd _))
 have hd1:=Obj.data_mapFields hd (fun x=>x.setIfInBounds 1 (rawInt (-1)))
 refine wpAny_setField (s:={ s with heap:=s.heap.update it (Obj.mapFields fun x=>x.setIfInBounds 1 (rawInt (-1))) }) ho1 hd1 (by simp) ?_
 have hsb:Heap.SameBut it s.heap ((s.heap.update it (Obj.mapFields fun x=>x.setIfInBounds 1 (rawInt (-1)))).update it (Obj.mapFields fun x=>x.setIfInBounds 0 .none)):=
  (IC ..).trans (IC ..)
 generalize (s.heap.update it (Obj.mapFields fun x=>x.setIfInBounds 1 (rawInt (-1)))).update it (Obj.mapFields fun x=>x.setIfInBounds 0 .none)=h2 at hsb ⊢
 first
 |show wpAny _ _ (newExc (.type "StopIteration") [] >>= _) _ _ _
 | (refine GS ?_;show wpAny _ _ (newExc (.type "StopIteration") [] >>= _) _ _ _)
 refine GS ?_
 simp only[newExc,newTuple]
 refine GS (JM ?_ (by size_fits))
 refine GS (m:=firstArgMember _ _) (I6 (a:=Value.none) (by first|rfl | (simp only[firstArgMember];rfl)) ?_)
 refine JM ?_ (by size_fits)
 simp only[raiseNew]
 refine GS (wpAny_handled ?_)
 first|rw[show A.in1.handled=none from hh] |rw[hh]
 refine GS (G6 (wpAny_throw ?_))
 refine GS (wpAny_isInstance (T:="StopIteration") (b:=true) ⟨_,Hi _ rfl,rfl⟩ isSubtype_stop ?_)
 exact G6 (hQ _ ((hsb.extBut.push _).push _))
theorem Walks.tupRev(hh:A.handled=none)(I t:Addr)(hne:t≠I)(items:Array Value)(hz:items.size<=1000000) :
  Walks prog w A I [I,t] [I] items.size (fun i v=>items[items.size-1-i]?=some v) (fun i h=>i<=items.size/\IsRv h I t ((items.size:Int)-1-(i:Int))/\IsTup h t items) where
 sub:=fun b hb=>by simp at hb;simp[hb]
 frame:=fun _ _ _ x hk=>⟨x.1,x.2.1.at fun o e=>hk I (by simp) o e,x.2.2.elim fun o g=>⟨o,hk t (by simp) o g.1,g.2⟩⟩
 item:=fun i s Q E hi x hQ=>by
  have e:(items.size:Int)-1-(i:Int)=((items.size-1-i:Nat):Int):=oqz [items.size,i,items.size-1-i,items.size-1] [] [(.le (Y1+1) Y0),(osb Y0 1 Y3),(osb Y3 Y1 Y2)] (.ie (.s (.s (.c Y0) 1) (.c Y1)) (.c Y2)) [10010001,1000011,10001011,1001001,101001,101] rfl hi (am (items.size) (1)) (am (items.size-1) (i))
  have hit:=x.2.1
  rw[e] at hit
  have hlt:items.size-1-i<items.size:=oqz [items.size-1-i,items.size,i] [] [(.ie (.s (.s (.c Y1) 1) (.c Y2)) (.c Y0))] (.le (Y0+1) Y1) [101] rfl e
  refine zd hit x.2.2 (x:=items[items.size-1-i]) (by simp[hlt]) (CG (GP (Ji hlt) hz)) fun h' tk hit' hs'=>?_
  refine hQ _ h' tk (by simp[hlt]) ⟨by exact oqz [i,items.size] [] [(.le (Y0+1) Y1)] (.le (Y0+1) Y1) [11] rfl hi,?_,x.2.2.extBut hs'.extBut hne⟩ fun b o hb e=>hs'.extBut b o (fun h=>hb (by simp[h])) e
  have e2:(items.size:Int)-1-((i+1:Nat):Int)=((items.size-1-i:Nat):Int)-1:=oqz [items.size,i,items.size-1-i] [] [(.ie (.s (.s (.c Y0) 1) (.c Y1)) (.c Y2))] (.ie (.s (.s (.c Y0) 1) (.c (Y1+1))) (.s (.c Y2) 1)) [101,11] rfl e
  rw[e2];exact hit'
 done:=fun s Q E x hQ=>by
  have hit:=x.2.1
  rw[show (items.size:Int)-1-(items.size:Int)=-1 by exact oqz [items.size] [] [] (.ie (.s (.s (.c Y0) 1) (.c Y0)) (.g 1)) [1] rfl] at hit
  exact Dp hh hit fun h' he'=>hQ h' s.toks fun b o hb e=>he' b o (fun h=>hb (by simp[h])) e
 self:=fun _ _ _ _ x hQ=>nF x.2.1 hQ
theorem pR{t:Addr}{items:Array Value}{Q₁:Value->Shared->Prop}(ht:IsTup s.heap t items)(hz:(items.size:Int)<2^63)
  (h:∀tk,Q₁ (.ref s.heap.objs.size) { s with heap:=s.heap.push (iy t ((items.size:Int)-1)),toks:=tk }) :
  codeAny (model prog w) A (.call (.builtin "reversed.__new__") ⟨[.type "reversed",.ref t],[]⟩) (wants Q₁ E) s:=by
 refine codeAny_of_tree ?_
 show wpAny _ A.in1 (do checkBuiltinCall "reversed.__new__" ⟨[.type "reversed",.ref t],[]⟩;again (.builtin "reversed.__new__" ⟨[.type "reversed",.ref t],[]⟩)) _ _ s
 refine GS (I6 (F.newCall_reversed_1 _) (G6 ⟨plainId_quiet F.plain_reversed_new _,codeAny_builtin F.entry_reversed_new ?_⟩))
 rw[Around.under_plainId F.plain_reversed_new _]
 unfold Builtin.«reversed.__new__»
 refine GS (I6 (newClass_reversed _) ?_)
 try dsimp only
 refine GS (I6 (a:=()) (by first|rfl|kernel_rfl) ?_)
 refine GS (I6 (a:=()) (by first|rfl|kernel_rfl) ?_)
 try dsimp only
 refine GS (wpAny_specialOf ht.typeIs pH ?_)
 try dsimp only
 refine GS (GS (wpAny_isInstance ht.typeIs lM ?_))
 show wpAny _ _ (specialOf (.ref t) "__getitem__" >>= _) _ _ s
 refine GS (wpAny_specialOf ht.typeIs slot_tuple_getitem.lookup ?_)
 show wpAny _ _ (if (["tuple.__getitem__","str.__getitem__","bytes.__getitem__","bytearray.__getitem__","memoryview.__getitem__","numpy.ndarray.__getitem__","sqlite3.Row.__getitem__"].contains "tuple.__getitem__")=true then _ else _) _ _ s
 rw[if_pos (by decide)]
 refine G6 ?_
 show wpAny _ _ (call (.builtin "len") [.ref t] >>= _) _ _ s
 refine GS (len_tuple ht hz ?_)
 refine GS (m:=asInt? _) (I6 (a:=some (items.size:Int)) (by rfl) ?_)
 try dsimp only
 refine GS (m:=Builtin.SmallTypes.newRecord _ _) ?_
 unfold Builtin.SmallTypes.newRecord
 refine JM ?_ (by show Array.size _<=_;rw[sizeLine_eq];simp)
 first
 |exact G6 (h _)
 |exact GS (G6 (G6 (h _)))
theorem slot_rv_init:Slot "reversed" "__init__" "object.__init__":=
 .of (owner:="object") (n:="__init__") (by rw[JI,I4];kernel_rfl) (by decide +kernel) (by decide +kernel) (by decide +kernel)
  (by first|exact .inl (by decide +kernel) |exact .inr (by decide +kernel)) (by rw[JP];kernel_rfl)
theorem jP:TypeCalled "reversed" "reversed.__new__" "object.__init__":=
 ⟨by decide +kernel,F.create_reversed,⟨_,_,F.mro_reversed⟩,F.made_reversed,F.plain_reversed_new,F.sub_reversed_self,slot_rv_init⟩
theorem fg{t:Addr}{items:Array Value}{Q:Value->Shared->Prop}(ht:IsTup s.heap t items)(hz:(items.size:Int)<2^63)
  (h:∀tk,Q (.ref s.heap.objs.size) { s with heap:=s.heap.push (iy t ((items.size:Int)-1)),toks:=tk }):wpAny (model prog w) A (call (.type "reversed") [.ref t]) Q E s:=by
 refine callType_codes (Q₁:=fun obj s1=>∃tk,obj=.ref s.heap.objs.size/\s1={ s with heap:=s.heap.push (iy t ((items.size:Int)-1)),toks:=tk }) jP (F.typeCall_reversed_1 _) F.entry_object_init
  (pR ht hz fun tk=>⟨tk,rfl,rfl⟩) ?_
 intro obj s1 zr1;refine ae (zr1) fun tk zq1 zq2=>?_;subst zq1;subst zq2
 have hT:Shared.TypeIs { s with heap:=s.heap.push (iy t ((items.size:Int)-1)),toks:=tk } (.ref s.heap.objs.size) "reversed":=⟨_,Hi _ rfl,rfl⟩
 refine ⟨hT,F.args_object_init_2 _ _,?_⟩
 exact object_init_meets slot_rv_init.lookup F.made_reversed (by decide) prog w A.in1 _ _ ⟨hT,rfl,h tk⟩
end
end Mine
namespace Mine
open PySem PyProof.Rows PySem.Calls
theorem vW:typeLookup (.type "reversed") "__len__"=pure none:=by rw[JI,I4];kernel_rfl
theorem slot_rv_hint:Slot "reversed" "__length_hint__" "reversed.__length_hint__":=
 .of (owner:="reversed") (n:="__length_hint__") (by rw[JI,I4];kernel_rfl) (by decide +kernel) (by decide +kernel) (by decide +kernel)
  (by first|exact .inl (by decide +kernel) |exact .inr (by decide +kernel)) (by rw[JP];kernel_rfl)
theorem l7:entryFor table "reversed.__length_hint__"=some Builtin.«reversed.__length_hint__»:=entryFor_of_tree (by kernel_rfl)
theorem lA(a:Value):argsOk "reversed.__length_hint__" ⟨[a],[]⟩:=by
 unfold argsOk;rw[signature?_of (id:="reversed.__length_hint__") (n:=['_','_','t','n','i','h','_','h','t','g','n','e','l','_','_']) (o:=['d','e','s','r','e','v','e','r']) (by kernel_rfl) kO];kernel_rfl
section
variable {prog:Program}{w:World}{A:Around}{E:Value->Shared->Prop}{s:Shared}
theorem nh{r t:Addr}{items:Array Value}{Q:Value->Shared->Prop}(hit:IsRv s.heap r t ((items.size:Int)-1))(ht:IsTup s.heap t items)(hz:items.size<=1000000)
  (h:∀u tk,Q (.int (items.size:Int) u) { s with toks:=tk }):wpAny (model prog w) A (call (.builtin "reversed.__length_hint__") [.ref r]) Q E s:=by
 refine cr (id hit) fun o ho hc hd=>?_
 refine wpAny_call_entry slot_rv_hint hit.typeIs l7 ?_ (lA _)
 unfold Builtin.«reversed.__length_hint__»
 refine GS (I6 (a:=Value.ref r) rfl ?_)
 refine GS (wpAny_field ho hd (x:=.ref t) rfl ?_)
 refine IG (fun hab=>absurd hab GZ) (fun _=>?_)
 refine GS (len_tuple ht (CG hz) ?_)
 refine GS (m:=asInt? _) (I6 (a:=some (items.size:Int)) (by rfl) ?_)
 refine GS (wpAny_field ho hd (x:=rawInt ((items.size:Int)-1)) rfl ?_)
 refine IG (fun hab=>absurd hab (by exact oqz [items.size] [] [] (.no (.il (.a (.c Y0) 1) (.a (.s (.c Y0) 1) 1))) [1] rfl)) (fun _=>?_)
 rw[show (items.size:Int)-1+1=items.size by exact oqz [items.size] [] [] (.ie (.a (.s (.c Y0) 1) 1) (.c Y0)) [1] rfl]
 refine GS (wpAny_mkInt (G6 ⟨_,rfl,h _ _⟩))
theorem At{r t:Addr}{items:Array Value}{Q:Bool->Shared->Prop}(hit:IsRv s.heap r t ((items.size:Int)-1))(ht:IsTup s.heap t items)(hz:items.size<=1000000)
  (h:∀b tk,Q b { s with toks:=tk }):wpAny (model prog w) A (Builtin.List.listLengthHint (.ref r)) Q E s:=by
 unfold Builtin.List.listLengthHint
 refine GS (wpAny_specialOf hit.typeIs vW ?_)
 refine IG (fun hab=>absurd hab (by decide +kernel)) (fun _=>?_)
 refine IG (fun hab=>absurd hab (by decide +kernel)) (fun _=>?_)
 refine GS (wpAny_specialOf hit.typeIs slot_rv_hint.lookup ?_)
 generalize hid:("reversed.__length_hint__":String)=id0
 wp_delta
 rw[show splitId id0=some ("reversed","__length_hint__") from by subst hid;decide +kernel]
 subst hid
 refine GS (wpAny_isInstance (T:="reversed") (b:=true) hit.typeIs (by rw[JP];kernel_rfl) ?_)
 refine IG (fun hab=>absurd hab (by decide)) (fun _=>?_)
 refine IG (fun hab=>absurd hab (by decide +kernel)) (fun _=>?_)
 refine GS (wpAny_rule ?_)
 refine GS (I6 (slot_rv_hint.bind _) ?_)
 refine GS (wpAny_attempt (nh hit ht hz fun u tk=>?_))
 have f1:Builtin.List.listFitsIndex (items.size:Int)=true:=by simp[Builtin.List.listFitsIndex];exact oqz [items.size] [] [(.le Y0 1000000)] (.il (.a (.c Y0) 1) 9223372036854775808) [11] rfl hz
 have f2:Builtin.List.listTooLong ((items.size:Int).toNat)=false:=by simp[Builtin.List.listTooLong,sizeLine];exact owk (by decide) hz
 have f3:¬ (items.size:Int)<0:=oqz [items.size] [] [] (.no (.il (.a (.c Y0) 1) 0)) [1] rfl
 generalize (items.size:Int)=N at *
 dsimp only
 refine GS (m:=asInt? _) (G6 (a:=some N) ?_)
 dsimp only
 refine IG (fun hab=>absurd hab (by rw[f1];decide)) (fun _=>?_)
 refine IG (fun hab=>absurd hab f3) (fun _=>?_)
 exact IG (fun hab=>absurd hab (by rw[f2];decide)) (fun _=>G6 (h _ _))
theorem uN{R:Result->Shared->Prop}{r t:Addr}{items:Array Value} (hh:A.handled=none) (hit:IsRv s.heap r t ((items.size:Int)-1)) (ht:IsTup s.heap t items) (hz:items.size<=1000000) (hrt:t ≠ r) (S:Addr) (res:Value) (c0:Nat) (hS:s.heap.get? S=some { cls:=.type "list",data:=.seq #[] c0 })
  (hR:∀h' tk acc' c',(∀b o,b ≠ S->b ≠ r->s.heap.get? b=some o->h'.get? b=some o)->h'.get? S=some { cls:=.type "list",dict:=none,data:=.seq acc' c',slots:=#[] } →
   ItemsOf (fun i v=>items[items.size-1-i]?=some v) acc' items.size->R (.ok (.ret res)) { s with heap:=h',toks:=tk }) :
  wpAny (model prog w) A.in1 (Builtin.List.listExtendWith (.ref S) (.ref r) res)
   (fun fin s'=>match fin with | .done f=>R (.ok f) s' | .again c'=>c'.quiet=true/\codeAny (model prog w) A c' R s') (fun e s'=>R (.error e) s') s:=by
 refine cr (id hit) fun o ho hc hd=>?_
 refine cz (id ht) fun ot hot hct nt hdt=>?_
 have hSr:S ≠ r:=fun e=>by rw[e,ho] at hS;rw[G5 hS] at hc;exact absurd hc (show ¬ Value.type "list"=Value.type "reversed" by decide)
 have hSt:S ≠ t:=fun e=>by rw[e,hot] at hS;rw[G5 hS] at hct;exact absurd hct (show ¬ Value.type "list"=Value.type "tuple" by decide)
 have hSf:S ∉ [r,t]:=fun hm=>by rcases Hf.mp hm with e|hm;exact hSr e;exact hSt (He.mp hm)
 have W:=(Walks.tupRev (prog:=prog) (w:=w) (A:=A.in1) hh r t hrt items hz).toS
 have key:∀ (h:Heap) (c1 tk:Nat),IsRv h r t ((items.size:Int)-1)->IsTup h t items->(∀b o,b≠S->s.heap.get? b=some o->h.get? b=some o) ->
   h.get? S=some { cls:=.type "list",data:=.seq #[] c1 }->codeAny (model prog w) A (.builtin "list.extend.loop" ⟨[.ref S,.ref r,res],[]⟩) R { s with heap:=h,toks:=tk }:=by
  intro h c1 tk hit ht hk hS1
  refine codeAny_extend_loopS W (by rw[sizeLine_eq];exact owk (by decide) hz) S hSf res items.size 0 _ #[] c1 rfl (Hl _) ⟨Hl _,by simpa using hit,ht⟩ hS1 (ItemsOf.nil _) fun s' acc' c' hm hS' hacc=>?_
  rw[Moved.eq_with hm]
  refine hR s'.heap s'.toks acc' c' (fun b o hb hbr e=>hm.heap b o (fun hmem=>?_) (hk b o hb e)) hS' hacc
  rcases Hf.mp hmem with e' |hmem
  ·exact hb e'
  ·exact hbr (He.mp hmem)
 unfold Builtin.List.listExtendWith
 refine GS (wpAny_typeOf (T:="reversed") hit.typeIs ?_)
 have h1:Builtin.List.listSameRef (.ref S) (.ref r)=false:=by simp[Builtin.List.listSameRef,hSr]
 have h2:(Value.type "reversed" == Value.type "list")=false:=by decide
 have h3:(Value.type "reversed" == Value.type "tuple")=false:=by decide
 simp only[h1,h2,h3,Bool.or_false,II,if_false]
 refine GS (nF hit ?_)
 refine GS (Js (At hit ht hz fun b tk=>?_))
 refine IG (fun _=>?_) (fun _=>G6 ⟨plainId_quiet F.plain_extend_loop _,key _ c0 _ hit ht (fun b o _ e=>e) hS⟩)
 refine GS (wpAny_rule ?_)
 refine GS ?_
 show wpAny _ _ (updateSeq S (·.push .none) >>= fun _=>updateSeq S (·.pop)) _ _ _
 refine GS (wpAny_updateSeq hS rfl ?_)
 have hS2:=I1 (Obj.mapSeq (·.push Value.none)) hS rfl
 refine wpAny_updateSeq (hz:=by seq_fits) hS2 rfl ?_
 have hS3:=I1 (Obj.mapSeq (·.pop)) hS2 rfl
 have oth:∀b o,b≠S->s.heap.get? b=some o->((s.heap.update S (Obj.mapSeq (·.push Value.none))).update S (Obj.mapSeq (·.pop))).get? b=some o:=
  fun b o hb e=>(Heap.get?_update_other _ _ (Ne.symm hb)).trans ((Heap.get?_update_other _ _ (Ne.symm hb)).trans e)
 exact G6 ⟨plainId_quiet F.plain_extend_loop _,key _ _ _ (hit.at fun o e=>oth r o (Ne.symm hSr) e) ⟨ot,oth t _ (Ne.symm hSt) hot,hct,nt,hdt⟩ oth hS3⟩
theorem y6{R:Result->Shared->Prop}{r t:Addr}{items:Array Value} (hh:A.handled=none) (hit:IsRv s.heap r t ((items.size:Int)-1)) (ht:IsTup s.heap t items) (hz:items.size<=1000000) (hrt:t ≠ r) (S:Addr) (hS:s.heap.get? S=some { cls:=.type "list",data:=.seq #[] })
  (hR:∀h' tk acc' c',(∀b o,b ≠ S->b ≠ r->s.heap.get? b=some o->h'.get? b=some o)->h'.get? S=some { cls:=.type "list",dict:=none,data:=.seq acc' c',slots:=#[] } →
   ItemsOf (fun i v=>items[items.size-1-i]?=some v) acc' items.size->R (.ok (.ret .none)) { s with heap:=h',toks:=tk }) :
  wpAny (model prog w) A.in1 (Builtin.«list.__init__» ⟨[.ref S,.ref r],[]⟩)
   (fun fin s'=>match fin with | .done f=>R (.ok f) s' | .again c'=>c'.quiet=true/\codeAny (model prog w) A c' R s') (fun e s'=>R (.error e) s') s:=by
 refine cr (id hit) fun o ho hc hd=>?_
 refine cz (id ht) fun ot hot hct nt hdt=>?_
 have hSr:S ≠ r:=fun e=>by rw[e,ho] at hS;rw[G5 hS] at hc;exact absurd hc (show ¬ Value.type "list"=Value.type "reversed" by decide)
 have hSt:S ≠ t:=fun e=>by rw[e,hot] at hS;rw[G5 hS] at hct;exact absurd hct (show ¬ Value.type "list"=Value.type "tuple" by decide)
 show wpAny _ _ (do let old <- Builtin.List.listItems (.ref S);Builtin.List.listUpdate (.ref S) (fun _=>#[]);letGo old.toList.reverse;Builtin.List.listExtendWith (.ref S) (.ref r) .none) _ _ s
 refine GS ?_
 unfold Builtin.List.listItems
 refine GS (wpAny_seqItems hS rfl (G6 ?_))
 show wpAny _ _ (updateSeq S (fun _=>#[]) >>= fun _=>letGo (#[]:Array Value).toList.reverse >>= fun _=>Builtin.List.listExtendWith (.ref S) (.ref r) .none) _ _ s
 refine GS (wpAny_updateSeq hS rfl ?_)
 have hS2:=I1 (Obj.mapSeq (fun _=>(#[]:Array Value))) hS rfl
 have oth:∀b o,b≠S->s.heap.get? b=some o->(s.heap.update S (Obj.mapSeq (fun _=>(#[]:Array Value)))).get? b=some o:=
  fun b o hb e=>(Heap.get?_update_other _ _ (Ne.symm hb)).trans e
 refine GS (wpAny_letGo ?_)
 refine uN hh (hit.at fun o e=>oth r o (Ne.symm hSr) e) ⟨ot,oth t _ (Ne.symm hSt) hot,hct,nt,hdt⟩ hz hrt S .none _ hS2 fun h' tk acc' c' hk hS' hacc=>?_
 exact hR h' tk acc' c' (fun b o hb hbr e=>hk b o hb hbr (oth b o hb e)) hS' hacc
theorem mY{Q:Value->Shared->Prop}{r t:Addr}{items:Array Value}(hh:A.handled=none)(hit:IsRv s.heap r t ((items.size:Int)-1))(ht:IsTup s.heap t items)(hz:items.size<=1000000)(hrt:t≠r)
  (hQ:∀h' tk acc' c',(∀b o,b≠r->s.heap.get? b=some o->h'.get? b=some o) ->
   h'.get? s.heap.objs.size=some { cls:=.type "list",dict:=none,data:=.seq acc' c',slots:=#[] }->ItemsOf (fun i v=>items[items.size-1-i]?=some v) acc' items.size->Q (.ref s.heap.objs.size) { s with heap:=h',toks:=tk }) :
  wpAny (model prog w) A (call (.type "list") [.ref r]) Q E s:=by
 refine callType_codes (Q₁:=fun obj s1=>obj=.ref s.heap.objs.size/\s1={ s with heap:=s.heap.push { cls:=.type "list",data:=.seq #[] } }) F.called_list (F.typeCall_list_1 _) F.entry_list_init
  (code_list_new _ ⟨rfl,rfl⟩) fun obj s1 h₁=>?_
 obtain ⟨rfl,rfl⟩:=h₁
 have hS:(s.heap.push { cls:=.type "list",data:=.seq #[] }).get? s.heap.objs.size=some { cls:=.type "list",data:=.seq #[] }:=Hi _ rfl
 refine cz (id ht) fun ot hot hct nt hdt=>?_
 refine ⟨⟨_,hS,rfl⟩,F.args_list_init_2 _ _,y6 (A:=A.in1) hh (hit.at fun o e=>Iy _ e) ⟨ot,Iy _ hot,hct,nt,hdt⟩ hz hrt _ hS fun h' tk acc' c' hk hS' hacc=>?_⟩
 exact ⟨rfl,hQ h' tk acc' c' (fun b o hb e=>hk b o (IV (IU e)) hb (Iy _ e)) hS' hacc⟩
end
theorem Reps.inv1{G:GV}{α:List Addr}{h:Heap}{vs:List Value}{a:V}(r:Reps G α h vs [a]):∃v,vs=[v]/\Rep G α h v a:=by
 cases r with|cons x r=>cases r with|nil=>exact ⟨_,rfl,x⟩
theorem Reps.inv2{G:GV}{α:List Addr}{h:Heap}{vs:List Value}{a b:V}(r:Reps G α h vs [a,b]):∃v w,vs=[v,w]/\Rep G α h v a/\Rep G α h w b:=by
 cases r with|cons x r=>refine ae (r.inv1) fun w zq29 y=>?_;subst zq29;exact ⟨_,_,rfl,x,y⟩
theorem Reps.inv3{G:GV}{α:List Addr}{h:Heap}{vs:List Value}{a b c:V}(r:Reps G α h vs [a,b,c]):∃v w u,vs=[v,w,u]/\Rep G α h v a/\Rep G α h w b/\Rep G α h u c:=by
 cases r with|cons x r=>refine aF (r.inv2) fun w u zq28 y z=>?_;subst zq28;exact ⟨_,_,_,rfl,x,y,z⟩
noncomputable def own(c:Value):Bool:=match c with
 | .type n=>["enumerate","zip","dict_itemiterator","dict_reverseitemiterator","odict_iterator","itertools.zip_longest","itertools.pairwise"].contains n
 |_=>false
theorem x8{h:Heap}{b:Addr}(x:∃o vs,h.get? b=some o/\o.data=.fields vs/\own o.cls=false):∃o vs,h.get? b=some o/\o.data=.fields vs:=aF x fun o vs e d _=>⟨o,vs,e,d⟩
inductive AS (prog:Program) (w:World) (A:Around) (G:GV) (s:Shared) (α:List Addr) (xs:List V) (src:Option Nat) (it:Value) (s2:Shared):Prop
 |mk (I:Addr) (fp wr:List Addr) (P:Nat->Value->Prop) (St:Nat->Heap->Prop) (h:Heap) (tk:Nat) (e1:it=.ref I) (e2:s2={ s with heap:=h,toks:=tk }) (k:KeepsH s.heap h) (W:Walks prog w A I fp wr xs.length P St) (st:St 0 h) (hw:∀b∈wr,s.heap.get? b=none)
  (hf:∀i h,St i h->∀b∈wr,∃o vs,h.get? b=some o/\o.data=.fields vs/\own o.cls=false) (hp:∀b∈fp,∃o,h.get? b=some o) (hs:∀b∈fp,b ∉ wr->(∃n,src=some n/\α[n]?=some b)\/∃items,IsTup h b items) (hP:∀i v,i<xs.length->P i v->∃d,xs[i]?=some d/\Rep G α h v d) (hI:I∈wr)
section
variable {prog:Program}{w:World}{A:Around}{E:Value->Shared->Prop}{s:Shared}{G:GV}{α:List Addr}{H:Hp}
theorem yU{v:Value}{d:V}{xs:List V}(hA:AOk prog A)(R:HR G α s.heap H)(r:Rep G α s.heap v d)(e:items H d=some xs) :
  wpAny (model prog w) A (pyIter v) (AS prog w A G s α xs (jA d)) E s:=by
 refine d7 (lG R r e) fun a vs zq27 rs z z' hk=>?_;subst zq27
 rcases hk with ⟨ht,ys,rfl⟩ | ⟨hl,n,rfl⟩
 ·refine wpAny_pyIter_tuple ht ?_
  have hlt:a<s.heap.objs.size:=ht.elim fun o g=>IU g.1
  have hne:a≠s.heap.objs.size:=IV hlt
  have k:=bc s.heap { cls:=.type "tuple_iterator",data:=.fields #[.ref a,.int 0 0] }
  have ht':=ht.keeps k
  have W:=Walks.tuple (prog:=prog) (w:=w) hA.handled s.heap.objs.size a hne vs.toArray
  have hsz:vs.toArray.size=xs.length:=by rw[Ht,rs.len]
  rw[hsz] at W
  refine ⟨_,_,_,_,_,_,s.toks,rfl,rfl,k,W,⟨⟨_,Hi _ rfl,rfl,rfl⟩,ht'⟩,?_,?_,?_,?_,?_,He.mpr rfl⟩
  ·intro b hb;simp at hb;subst hb;exact cK _
  ·rintro i h ⟨⟨o,ho,hc,hd⟩,_⟩ b hb;simp at hb;subst hb;exact ⟨o,_,ho,hd,by rw[hc];rfl⟩
  ·intro b hb;simp at hb
   rcases hb with rfl|rfl
   ·exact ⟨_,Hi _ rfl⟩
   ·refine ae (ht') fun o ho _=>?_;exact ⟨o,ho⟩
  ·intro b hb hw;simp at hb hw
   rcases hb with rfl|rfl
   ·exact absurd rfl hw
   ·exact .inr ⟨_,ht'⟩
  ·intro i v _ hv
   refine ae (rs.get' (by simpa using hv)) fun d hd r=>?_
   exact ⟨d,hd,r.mono (fun _ _ e=>e) (.of k)⟩
 ·refine wpAny_pyIter_list hl ?_
  have hlt:a<s.heap.objs.size:=hl.elim fun o g=>IU g.1
  have hne:a≠s.heap.objs.size:=IV hlt
  have k:=bc s.heap { cls:=.type "list_iterator",data:=.fields #[.ref a,.int 0 0] }
  have hl':=dY hl k
  have W:=Walks.list (prog:=prog) (w:=w) hA.handled s.heap.objs.size a hne vs.toArray
  have hsz:vs.toArray.size=xs.length:=by rw[Ht,rs.len]
  rw[hsz] at W
  refine ⟨_,_,_,_,_,_,s.toks,rfl,rfl,k,W,⟨⟨_,Hi _ rfl,rfl,rfl⟩,hl'⟩,?_,?_,?_,?_,?_,He.mpr rfl⟩
  ·intro b hb;simp at hb;subst hb;exact cK _
  ·rintro i h ⟨⟨o,ho,hc,hd⟩,_⟩ b hb;simp at hb;subst hb;exact ⟨o,_,ho,hd,by rw[hc];rfl⟩
  ·intro b hb;simp at hb
   rcases hb with rfl|rfl
   ·exact ⟨_,Hi _ rfl⟩
   ·refine ae (hl') fun o ho _=>?_;exact ⟨o,ho⟩
  ·intro b hb hw;simp at hb hw
   rcases hb with rfl|rfl
   ·exact absurd rfl hw
   ·cases r with
    |lst ha=>exact .inl ⟨n,rfl,ha⟩
  ·intro i v _ hv
   refine ae (rs.get' (by simpa using hv)) fun d hd r=>?_
   exact ⟨d,hd,r.mono (fun _ _ e=>e) (.of k)⟩
theorem rB{a b c:Int}(hc:0<c):0<=(if a<b then (b-a-1) / c+1 else 0):=by
 split
 ·exact HY (Int.ediv_nonneg (Int.le_sub_one_of_lt (Int.sub_pos_of_lt (by assumption))) (Hn hc)) (Int.le_add_one (JJ _))
 ·exact JJ _
theorem q9{a b c:Int}(hc:0<c)(ha:cI a)(hb:cI b):(if a<b then (b-a-1) / c+1 else 0)<=2^41:=by
 split
 ·rename_i h
  have h1:(b-a-1) / c<=b-a-1:=Int.ediv_le_self _ (Int.le_sub_one_of_lt (Int.sub_pos_of_lt h))
  have h2:b-a<=2^40 - -(2^40):=Int.sub_le_sub (Hn hb.2) (Hn ha.1)
  exact HY (Int.add_le_add_right h1 1) (by rw[Int.sub_add_cancel];exact h2)
 ·decide
theorem fx{a b c:Int}(hc:c=1\/c=-1\/c=2):0<=Builtin.Range.rangeSize a b c:=by
 unfold Builtin.Range.rangeSize
 rcases hc with rfl|rfl|rfl
 ·rw[if_pos (by decide)];exact rB (by decide)
 ·rw[if_neg (by decide)];exact rB (by decide)
 ·rw[if_pos (by decide)];exact rB (by decide)
theorem nK{a b c:Int}(hc:c=1\/c=-1\/c=2)(ha:cI a)(hb:cI b):Builtin.Range.rangeSize a b c<=2^41:=by
 unfold Builtin.Range.rangeSize
 rcases hc with rfl|rfl|rfl
 ·rw[if_pos (by decide)];exact q9 (by decide) ha hb
 ·rw[if_neg (by decide)];exact q9 (by decide) hb ha
 ·rw[if_pos (by decide)];exact q9 (by decide) ha hb
theorem ri{a b c:Int}{t u v:Tok}{r:Addr}(hA:AOk prog A)(hr:IsRange s.heap r a b c t u v)(ha:cI a)(hb:cI b)(hc:c=1\/c=-1\/c=2) :
  wpAny (model prog w) A (pyIter (.ref r)) (AS prog w A G s α ((dx a b c).map V.int) none) E s:=by
 have hsm:Builtin.Range.small a b c=true:=by
  have h1:=fx (a:=a) (b:=b) hc
  have h2:=nK hc ha hb
  have f:∀x:Int,-(2^63)<=x->x<2^63->Builtin.Range.rangeFitsLong x=true:=fun x p q=>by
   unfold Builtin.Range.rangeFitsLong
   rw[H6];exact ⟨decide_eq_true p,decide_eq_true q⟩
  unfold Builtin.Range.small
  rw[f a (AW ha).1 (AW ha).2,f b (AW hb).1 (AW hb).2,f c (by rcases hc with rfl|rfl|rfl <;> decide) (by rcases hc with rfl|rfl|rfl <;> decide),f _ (HY (by decide) h1) (Int.lt_of_le_of_lt h2 (by decide))]
  rcases hc with rfl|rfl|rfl
  ·rw[if_pos (by decide),f _ (uX hb (by decide) (by decide)).1 (uX hb (by decide) (by decide)).2];simp
  ·rw[if_neg (by decide),f _ (uX hb (by decide) (by decide)).1 (uX hb (by decide) (by decide)).2];simp
  ·rw[if_pos (by decide),f _ (uX hb (by decide) (by decide)).1 (uX hb (by decide) (by decide)).2];simp
 refine wpAny_pyIter_range hr hsm ?_
 have k:=bc s.heap { cls:=.type "range_iterator",data:=.fields #[rawInt a,rawInt (Builtin.Range.rangeSize a b c),rawInt c] }
 have hn:0<=Builtin.Range.rangeSize a b c:=fx hc
 have hlen:((dx a b c).map V.int).length=(Builtin.Range.rangeSize a b c).toNat:=by simp[dx]
 have W:=Walks.range (prog:=prog) (w:=w) hA.handled s.heap.objs.size a c (Builtin.Range.rangeSize a b c).toNat
 rw[<- hlen] at W
 refine ⟨_,_,_,_,_,_,s.toks,rfl,rfl,k,W,?_,?_,?_,?_,?_,?_,He.mpr rfl⟩
 ·show IsRangeIter _ _ _ _ _
  rw[hlen]
  have e1:a+((0:Nat):Int)*c=a:=by simp
  have e2:(((Builtin.Range.rangeSize a b c).toNat:Nat):Int)-((0:Nat):Int)=Builtin.Range.rangeSize a b c:=oqz [(Builtin.Range.rangeSize a b c).toNat] [Builtin.Range.rangeSize a b c] [(.il 0 Y0),(otn Y0 Y0)] (.ie (.s (.c Y0) (.c 0)) Y0) [10001,101,1001,1011] rfl hn (aQ (Builtin.Range.rangeSize a b c))
  rw[e1,e2]
  exact Hi _ rfl
 ·intro b hb;simp at hb;subst hb;exact cK _
 ·intro i h hi b hb;simp at hb;subst hb;exact ⟨_,_,hi,rfl,rfl⟩
 ·intro b hb;simp at hb;subst hb;exact ⟨_,Hi _ rfl⟩
 ·intro b hb hw;exact absurd hb hw
 ·rintro i v hi ⟨t,rfl⟩
  rw[hlen] at hi
  refine ⟨.int (a+i*c),?_,.int _ _⟩
  simp[dx,List.getElem?_range hi,HS]
theorem yQ{v:Value}{d:V}{xs:List V}(hA:AOk prog A)(R:HR G α s.heap H)(r:Rep G α s.heap v d)(e:items H d=some xs) :
  wpAny (model prog w) A (call (.type "reversed") [v]) (fun x s1=>wpAny (model prog w) A (pyIter x) (AS prog w A G s α xs.reverse (jA d)) E s1) E s:=by
 refine d7 (lG R r e) fun a vs zq26 rs z z' hk=>?_;subst zq26
 have hz:vs.length<=1000000:=z'
 have hsz:vs.toArray.size=xs.reverse.length:=by rw[Ht,rs.len,Hz]
 have get:∀i v (h:Heap),KeepsH s.heap h->i<xs.reverse.length->vs.toArray[xs.reverse.length-1-i]?=some v->∃d,xs.reverse[i]?=some d/\Rep G α h v d:=fun i v h k hi hv=>by
  refine ae (rs.get' (by simpa using hv)) fun d hd r=>?_
  refine ⟨d,?_,r.mono (fun _ _ e=>e) (.of k)⟩
  rw[Hz] at hi
  rw[List.getElem?_reverse hi];exact hd
 rcases hk with ⟨ht,ys,rfl⟩ | ⟨hl,n,rfl⟩
 ·have hlt:a<s.heap.objs.size:=ht.elim fun o g=>IU g.1
  have hne:a≠s.heap.objs.size:=IV hlt
  refine fg ht (by simp;exact oqz [vs.length] [] [(.le Y0 1000000)] (.il (.a (.c Y0) 1) 9223372036854775808) [11] rfl hz) fun tk=>?_
  have k:=bc s.heap (iy a ((vs.toArray.size:Int)-1))
  have ht':=ht.keeps k
  have hI:IsRv (s.heap.push (iy a ((vs.toArray.size:Int)-1))) s.heap.objs.size a ((vs.toArray.size:Int)-1):=⟨_,Hi _ rfl,rfl,rfl⟩
  refine nF hI ?_
  have W:=Walks.tupRev (prog:=prog) (w:=w) hA.handled s.heap.objs.size a hne vs.toArray (by simp;exact owk (by decide) hz)
  rw[hsz] at W
  refine ⟨_,_,_,_,_,_,tk,rfl,rfl,k,W,⟨Hl _,?_,ht'⟩,?_,?_,?_,?_,fun i v hi hv=>get i v _ k hi hv,He.mpr rfl⟩
  ·rw[<- hsz];simpa using hI
  ·intro b hb;simp at hb;subst hb;exact cK _
  ·rintro i h ⟨_,⟨o,ho,hc,hd⟩,_⟩ b hb;simp at hb;subst hb;exact ⟨o,_,ho,hd,by rw[hc];rfl⟩
  ·intro b hb;simp at hb
   rcases hb with rfl|rfl
   ·exact ⟨_,Hi _ rfl⟩
   ·refine ae (ht') fun o ho _=>?_;exact ⟨o,ho⟩
  ·intro b hb hw;simp at hb hw
   rcases hb with rfl|rfl
   ·exact absurd rfl hw
   ·exact .inr ⟨_,ht'⟩
 ·have hlt:a<s.heap.objs.size:=hl.elim fun o g=>IU g.1
  have hne:a≠s.heap.objs.size:=IV hlt
  refine call_reversed_list hl ?_
  have k:=bc s.heap (revObj a ((vs.toArray.size:Int)-1))
  have hl':=dY hl k
  have hI:(s.heap.push (revObj a ((vs.toArray.size:Int)-1))).IsRevIter s.heap.objs.size a ((vs.toArray.size:Int)-1):=⟨_,Hi _ rfl,rfl,rfl⟩
  refine wpAny_pyIter_revIter hI ?_
  have W:=Walks.listRev (prog:=prog) (w:=w) hA.handled s.heap.objs.size a hne vs.toArray
  rw[hsz] at W
  refine ⟨_,_,_,_,_,_,s.toks,rfl,rfl,k,W,⟨Hl _,?_,hl'⟩,?_,?_,?_,?_,fun i v hi hv=>get i v _ k hi hv,He.mpr rfl⟩
  ·rw[<- hsz];simpa using hI
  ·intro b hb;simp at hb;subst hb;exact cK _
  ·rintro i h ⟨_,⟨o,ho,hc,hd⟩,_⟩ b hb;simp at hb;subst hb;exact ⟨o,_,ho,hd,by rw[hc];rfl⟩
  ·intro b hb;simp at hb
   rcases hb with rfl|rfl
   ·exact ⟨_,Hi _ rfl⟩
   ·refine ae (hl') fun o ho _=>?_;exact ⟨o,ho⟩
  ·intro b hb hw;simp at hb hw
   rcases hb with rfl|rfl
   ·exact absurd rfl hw
   ·cases r with
    |lst ha=>exact .inl ⟨n,rfl,ha⟩
end
inductive qN (X:SX) (s:Shared) (α:List Addr) (H:Hp) (Q:List V->Option Nat->Hp->Prop) (it:Value) (s2:Shared):Prop
 |mk (h₁:Heap) (tk₁:Nat) (β:List Addr) (K:Hp) (xs:List V) (src:Option Nat) (k:KeepsH s.heap h₁) (f:∀b∈β,s.heap.get? b=none) (R:HR X.G (α++β) h₁ (H++K)) (o:AS X.prog X.w X.A X.G { s with heap:=h₁,toks:=tk₁ } (α++β) xs src it s2) (q:Q xs src (H++K))
noncomputable def SI(X:SX)(c:MC)(pi:PI)(e:Expr):Prop:=
 ∀ (env:Env) (s:Shared) (α:List Addr) (ρ:Loc) (H:Hp) (Q:List V->Option Nat->Hp->Prop) (E:Value->Shared->Prop),ch c env->GF X.G c.g X.DT s.heap->HR X.G α s.heap H->FI X.G c env α s.heap ρ ->
  wpI X.sub X.Φ pi ρ H Q->wpAny (model X.prog X.w) X.A (eval e env) (fun xv s1=>wpAny (model X.prog X.w) X.A (pyIter xv) (qN X s α H Q) E s1) E s
theorem Reps.rng{G:GV}{α:List Addr}{h:Heap}{vs:List Value}{ds:List V}{a b c:Int}{C:List Value->Prop}(r:Reps G α h vs ds)(e:Bo ds=some (a,b,c))(h1:∀t,a=0->c=1->C [.int b t])(h2:∀t u,c=1->C [.int a t,.int b u])(h3:∀t u v,C [.int a t,.int b u,.int c v]):C vs:=by
 obtain ⟨l,h0,e0⟩:=JD.mp e
 cases vints.get h0
 clear h0 e
 rcases l with _ | ⟨x,_ | ⟨y,_ | ⟨z,_|_⟩⟩⟩ <;> cases e0
 ·obtain ⟨_,rfl,x⟩:=r.inv1
  obtain ⟨t,rfl⟩:=x.int_inv
  exact h1 t rfl rfl
 ·obtain ⟨_,_,rfl,x,y⟩:=r.inv2
  obtain ⟨t,rfl⟩:=x.int_inv
  obtain ⟨u,rfl⟩:=y.int_inv
  exact h2 t u rfl
 ·obtain ⟨_,_,_,rfl,x,y,z⟩:=r.inv3
  obtain ⟨t,rfl⟩:=x.int_inv
  obtain ⟨u,rfl⟩:=y.int_inv
  obtain ⟨v,rfl⟩:=z.int_inv
  exact h3 t u v
section
variable {X:SX}{c:MC}
theorem CZ{pe:PE}{e:Expr}(hA:AOk X.prog X.A)(h:SE X c pe e):SI X c (.seq pe) e:=fun env s α ρ H Q E O T R F q=>by
 simp only[qI1,qI2,qI3] at q
 refine wpAny_mono (h env s α ρ H _ E O T R F q) (fun v s1 p=>?_) fun _ _ x=>x
 obtain ⟨h₁,tk₁,β,K,d,rfl,k,f,R',r,q⟩:=p
 refine ae (ifSome.get q) fun xs e q=>?_
 exact wpAny_mono (yU (s:={ s with heap:=h₁,toks:=tk₁ }) hA R' r e) (fun it s2 p=>⟨h₁,tk₁,β,K,xs,_,k,f,R',p,q⟩) fun _ _ x=>x
theorem Cb{pe:PE}{e:Expr}{p pos:Pos} (hA:AOk X.prog X.A) (hx:c.isGlob "reversed"=true) (hn:cX e=true) (h:SE X c pe e):SI X c (.rev pe) (.Call (.Name "reversed" p) [e] [] pos):=fun env s α ρ H Q E O T R F q=>by
 simp only[qI1,qI2,qI3] at q
 refine Call_ (d9 tm uu hx O T (callWith_type1 (args_cons (wpAny_mono (h env s α ρ H _ E O T R F q) (fun v s1 p=>args_nil ?_) fun _ _ x=>x) (aL hn)) (aL hn) rfl))
 obtain ⟨h₁,tk₁,β,K,d,rfl,k,f,R',r,q⟩:=p
 refine ae (ifSome.get q) fun xs e q=>?_
 refine wpAny_mono (yQ (s:={ s with heap:=h₁,toks:=tk₁ }) hA R' r e) (fun x s2 p=>?_) fun _ _ x=>x
 exact wpAny_mono p (fun it s2 p=>⟨h₁,tk₁,β,K,_,_,k,f,R',p,q⟩) fun _ _ x=>x
theorem Dc{ps:PEs}{es:List Expr}{p pos:Pos} (hA:AOk X.prog X.A) (hx:c.isGlob "range"=true) (he:(!es.isEmpty)=true) (hn:cS es=true) (h:SEs X c ps es):SI X c (.rng ps) (.Call (.Name "range" p) es [] pos):=fun env s α ρ H Q E O T R F q=>by
 cases es with|nil=>exact (GZ he).elim|cons e es =>
 simp only[qI1,qI2,qI3] at q
 simp only[cS,List.all_cons,H6] at hn
 refine Call_ (d9 vr mem_range hx O T (callWith_type1 (wpAny_mono (h env s α ρ H _ E pos O T R F q) (fun vs s1 p=>?_) fun _ _ y=>y) (aL hn.1) (fB hn.2)))
 obtain ⟨h₁,tk₁,β,K,ds,rfl,k,f,R',r,a,b,cc,hr,ha,hb,hc,q⟩:=p
 obtain ⟨r,_⟩:=r
 have fin:∀ (o:Obj) (tk:Nat) (t u v:Tok),o={ cls:=.type "range",data:=.fields #[.int a t,.int b u,.int cc v] } →
   wpAny (model X.prog X.w) X.A (pyIter (.ref h₁.objs.size)) (qN X s α H Q) E { s with heap:=h₁.push o,toks:=tk }:=fun o tk t u v ho=>by
  subst ho
  refine wpAny_mono (ri (s:={ s with heap:=h₁.push _,toks:=tk }) (G:=X.G) (α:=α++β) hA (IsRange.new h₁ a b cc t u v) ha hb hc) (fun it s2 p=>?_) fun _ _ x=>x
  refine ⟨_,tk,β,K,_,_,KeepsH.trans k (bc _ _),f,R'.keeps (bc _ _),p,q⟩
 apply r.rng hr
 ·intro t e1 e2
  exact call_range_1 (s:={ s with heap:=h₁,toks:=tk₁ }) (fin _ _ _ _ _ (by rw[e1,e2]))
 ·intro t u e2
  exact call_range_2 (s:={ s with heap:=h₁,toks:=tk₁ }) (fin _ _ _ _ _ (by rw[e2]))
 ·intro t u v
  exact call_range_3 (s:={ s with heap:=h₁,toks:=tk₁ }) (by rcases hc with rfl|rfl|rfl <;> decide) (fin _ _ _ _ _ rfl)
end
noncomputable def KeepsLT(h h':Heap):Prop:=∀a o items n,h.get? a=some o->o.data=.seq items n->h'.get? a=some o
theorem KeepsLT.of{h h':Heap}(k:KeepsH h h'):KeepsLT h h':=fun a o _ _ e _=>k a o e
theorem KeepsLT.trans{h h' h'':Heap}(a:KeepsLT h h')(b:KeepsLT h' h''):KeepsLT h h'':=fun x o _ _ e d=>b x o _ _ (a x o _ _ e d) d
theorem KeepsLT.tup{h h':Heap}(k:KeepsLT h h'):KeepsT h h':=fun a items ⟨o,ho,hc,n,hd⟩=>⟨o,k a o _ _ ho hd,hc,n,hd⟩
theorem KeepsLT.list{h h':Heap}(k:KeepsLT h h'){a:Addr}{items:Array Value}(x:h.IsList a items):h'.IsList a items:=x.elim fun o g=>g.2.2.elim fun n hd=>⟨o,k a o _ _ g.1 hd,g.2.1,n,hd⟩
theorem KeepsLT.plain{h h':Heap}(k:KeepsLT h h'){a:Addr}{items:Array Value}(x:h.PlainList a items):h'.PlainList a items:=x.elim fun n e=>⟨n,k a _ _ _ e rfl⟩
theorem HR.lt'{G:GV}{α:List Addr}{h h':Heap}{H:Hp}(r:HR G α h H)(k:KeepsLT h h'):HR G α h' H:=
 ⟨r.len,r.nodup,r.pos,fun n a xs e1 e2=>(r.lst n a xs e1 e2).elim fun vs g=>⟨vs,k.list g.1,g.2.1.mono (fun _ _ e=>e) k.tup,g.2.2.1,fun hn=>k.plain (g.2.2.2 hn)⟩⟩
theorem KeepsLT.sameBut{h h':Heap}{b:Addr}(hs:Heap.SameBut b h h')(hb:∀o,h.get? b=some o->∀items n,o.data≠.seq items n):KeepsLT h h':=fun a o items n e d=>by
 by_cases hab:a=b
 ·subst hab;exact absurd d (hb o e items n)
 ·exact hs.extBut a o hab e
theorem d6{h:Heap}{b:Addr}{m:Str->Option Value}(hn:h.Ns b m):∀o,h.get? b=some o->∀items n,o.data≠.seq items n:=fun o e items n d=>by
 refine dL (hn) fun o' es ep ho hd _=>?_
 rw[ho] at e;cases e;rw[hd] at d;cases d
theorem cF{env:Env}:∀ {names:List (Str × NameKind)}{x:Str}{k:NameKind},names.lookup x=some k ->
  (names.map fun (n,k)=>if (k == NameKind.free && env.scope.kind == .function && env.kindOf n == some .cell) then (n,NameKind.cell) else (n,k)).lookup x =
   some (if (k == NameKind.free && env.scope.kind == .function && env.kindOf x == some .cell) then NameKind.cell else k)
 | [],_,_,h=>by simp at h
 | (n,k')::r,x,k,h=>by
  have ih:=@cF env r x k
  show List.lookup x ((if (k' == NameKind.free && env.scope.kind == .function && env.kindOf n == some .cell)=true then (n,NameKind.cell) else (n,k'))::_)=_
  cases hx:x == n with
  |true =>
   have hx':=beq_iff_eq.mp hx
   subst hx'
   simp only[HE,JV] at h
   cases h
   by_cases hc:(k' == NameKind.free && env.scope.kind == .function && env.kindOf x == some .cell)=true
   ·rw[if_pos hc,if_pos hc,HE,JV]
   ·rw[if_neg hc,if_neg hc,HE,JV]
  |false =>
   simp only[HE,hx] at h
   by_cases hc:(k' == NameKind.free && env.scope.kind == .function && env.kindOf n == some .cell)=true
   ·rw[if_pos hc];simp only[HE,hx];exact ih h
   ·rw[if_neg hc];simp only[HE,hx];exact ih h
theorem dW{env:Env}:∀ {names:List (Str × NameKind)}{x:Str},names.lookup x=none ->
  (names.map fun (n,k)=>if (k == NameKind.free && env.scope.kind == .function && env.kindOf n == some .cell) then (n,NameKind.cell) else (n,k)).lookup x=none
 | [],_,h=>by simp
 | (n,k')::r,x,h=>by
  have ih:=@dW env r x
  show List.lookup x ((if (k' == NameKind.free && env.scope.kind == .function && env.kindOf n == some .cell)=true then (n,NameKind.cell) else (n,k'))::_)=_
  cases hx:x == n with
  |true=>simp[HE,hx] at h
  |false =>
   simp only[HE,hx] at h
   by_cases hc:(k' == NameKind.free && env.scope.kind == .function && env.kindOf n == some .cell)=true
   ·rw[if_pos hc];simp only[HE,hx];exact ih h
   ·rw[if_neg hc];simp only[HE,hx];exact ih h
noncomputable def dq(env:Env):List (Str × NameKind)->List (Str × Addr)->List (Str × Addr)
 | [],acc=>acc
 | (n,k)::r,acc=>dq env r (if k == .free then (n,(env.cells.lookup n).getD 0)::acc else acc)
theorem lp(env:Env):∀ (names:List (Str × NameKind)) (acc:List (Str × Addr)),(∀x∈names,x.2=.free->∃c,env.cells.lookup x.1=some c) ->
  (forIn names acc fun x (r:List (Str × Addr))=>(if x.2 == .free then do let c <- cellOf env x.1;pure (ForInStep.yield ((x.1,c)::r)) else pure (ForInStep.yield r):Sem (ForInStep (List (Str × Addr)))))=pure (dq env names acc)
 | [],acc,_=>rfl
 | (n,k)::r,acc,h=>by
  rw[List.forIn_cons]
  by_cases hk:k=.free
  ·subst hk
   obtain ⟨c,hc⟩:=h _ GW rfl
   dsimp only at hc
   have e:cellOf env n=pure c:=by unfold cellOf;rw[hc]
   simp only[JV,if_true,e,pure_bind,dq,hc,Option.getD_some]
   exact lp env r _ fun x hx=>h x (G3 _ hx)
  ·have hb:(k == NameKind.free)=false:=by simpa using hk
   simp only[hb,II,if_false,pure_bind,dq]
   exact lp env r _ fun x hx=>h x (G3 _ hx)
theorem jl{scope:Scope}{env:Env}(h:∀x∈scope.names,x.2=.free->∃c,env.cells.lookup x.1=some c):closureFor scope env=pure (dq env scope.names []):=by
 have e:=lp env scope.names [] h
 unfold closureFor
 first
 |exact e
 | (simp only[bind_pure];exact e)
theorem lV(env:Env)(n:Str):∀ (names:List (Str × NameKind)) (acc:List (Str × Addr)),((n,NameKind.free)∈names\/acc.lookup n=some ((env.cells.lookup n).getD 0))->(dq env names acc).lookup n=some ((env.cells.lookup n).getD 0)
 | [],acc,h=>by
  rcases h with h|h
  ·simp at h
  ·exact h
 | (m,k)::r,acc,h=>by
  unfold dq
  refine lV env n r _ ?_
  by_cases hk:k=.free
  ·subst hk
   simp only[JV,if_true]
   by_cases hm:n=m
   ·subst hm;right;simp[HE]
   ·rcases h with h|h
    ·left
     rcases Hf.mp h with h|h
     ·cases h;exact absurd rfl hm
     ·exact h
    ·right
     have:(n == m)=false:=by simpa using hm
     simp[HE,this,h]
  ·have hb:(k == NameKind.free)=false:=by simpa using hk
   simp only[hb,II,if_false]
   rcases h with h|h
   ·left
    rcases Hf.mp h with h|h
    ·cases h;exact absurd rfl hk
    ·exact h
   ·right;exact h
theorem eN{names:List (Str × NameKind)}{x:Str}{k:NameKind}(h:names.lookup x=some k):(x,k)∈names:=by
 induction names with
 |nil=>simp at h
 |cons p r ih =>
  obtain ⟨n,k'⟩:=p
  rw[HE] at h
  cases hx:x == n with
  |true=>rw[hx] at h;cases h;rw[beq_iff_eq.mp hx];exact GW
  |false=>rw[hx] at h;exact G3 _ (ih h)
structure CompOk (c:MC)(sc:Scope)(xs:List Str)(cs:List Str)(caps:List Nat):Prop where
 kind:sc.kind=.function
 fre:∀p∈sc.names,p.2=.free->p.1∈cs
 nocell:∀p∈sc.names,p.2≠.cell
 tx:∀x∈xs,sc.names.lookup x=some .local
 nd:xs.Nodup
 cap:∀n∈cs,sc.names.lookup n=some .free
 out:∀n∈cs,c.scope.names.lookup n=some NameKind.cell\/c.scope.names.lookup n=some NameKind.free
 names:∀y∈sc.names,y.2=.local->sc.names.lookup y.1=some .local
 cp:∀ (i j:Nat),caps[i]?=some j->∃n,cs[i]?=some n/\c.names[j]?=some n
theorem CompOk.outer{c:MC}{sc:Scope}{xs:List Str}{cs:List Str}{caps:List Nat}{env:Env}(K:CompOk c sc xs cs caps)(O:ch c env){n:Str}(hn:n∈cs):(env.kindOf n=some .cell\/env.kindOf n=some .free)/\∃a,env.cells.lookup n=some a:=by
 have h:env.kindOf n=some .cell\/env.kindOf n=some .free:=by
  rcases K.out n hn with h|h
  ·exact .inl (O.cel n h)
  ·exact O.fre n h
 exact ⟨h,O.cells n h⟩
theorem CompOk.clos{c:MC}{sc:Scope}{xs:List Str}{cs:List Str}{caps:List Nat}{env:Env}(K:CompOk c sc xs cs caps)(O:ch c env):closureFor sc env=pure (dq env sc.names []):=
 jl fun p hp hf=>(K.outer O (K.fre p hp hf)).2
theorem CompOk.closLook{c:MC}{sc:Scope}{xs:List Str}{cs:List Str}{caps:List Nat}{env:Env}(K:CompOk c sc xs cs caps)(O:ch c env){n:Str}(hn:n∈cs){a:Addr}(ha:env.cells.lookup n=some a):(dq env sc.names []).lookup n=some a:=by
 rw[lV env n sc.names [] (.inl (eN (K.cap n hn))),ha];rfl
theorem CompOk.env{c:MC}{sc:Scope}{xs:List Str}{cs:List Str}{caps:List Nat}{env:Env}(K:CompOk c sc xs cs caps)(O:ch c env)(C:Addr):ch ⟨c.g,sc,xs++cs⟩ (compEnvC sc (dq env sc.names []) C env) where
 kind:=K.kind
 globals:=O.globals
 builtins:=O.builtins
 loc:=fun y h=>cF (env:=env) h
 glob:=fun y h=>cF (env:=env) h
 cel:=fun y h=>absurd rfl (K.nocell _ (eN h))
 fre:=fun y h=>by
  have:=cF (env:=env) h
  by_cases hc:((NameKind.free == NameKind.free && env.scope.kind == .function && env.kindOf y == some .cell))=true
  ·rw[if_pos hc] at this;exact .inl this
  ·rw[if_neg hc] at this;exact .inr this
 cells:=fun y h=>by
  have hy:y∈cs:=by
   cases hl:sc.names.lookup y with
   |none =>
    have:=dW (env:=env) hl
    have h':(compEnvC sc (dq env sc.names []) C env).kindOf y=none:=this
    rw[h'] at h;rcases h with h|h <;> cases h
   |some k =>
    have:=cF (env:=env) hl
    have h':(compEnvC sc (dq env sc.names []) C env).kindOf y=_:=this
    rw[h'] at h
    have hm:=eN hl
    cases k with
    |free=>exact K.fre _ hm rfl
    |cell=>exact absurd rfl (K.nocell _ hm)
    |_=>simp at h
  obtain ⟨a,ha⟩:=(K.outer O hy).2
  exact ⟨a,K.closLook O hy ha⟩
theorem p9{ρ:Loc}:∀ {caps:List Nat}{i:Nat}{d:V},af (caps.map (af ρ)) i=some d->∃j,caps[i]?=some j/\af ρ j=some d
 | [],i,d,h=>nomatch (show (none:Option V)=some d from h)
 |j::r,0,d,h=>⟨j,rfl,h⟩
 |j::r,i+1,d,h=>by
  refine ae (p9 (caps:=r) h) fun k a b=>?_
  exact ⟨k,by simpa using a,b⟩
theorem mM:∀ {ρ σ:Loc}{i:Nat},i<ρ.length->af (ρ++σ) i=af ρ i
 | [],_,_,h=>absurd h (J2 _)
 |_::_,_,0,_=>rfl
 |_::ρ,_,i+1,h=>mM (ρ:=ρ) (Jh h)
theorem lm:∀ {ρ σ:Loc}{i:Nat},ρ.length<=i->af (ρ++σ) i=af σ (i-ρ.length)
 | [],_,_,_=>rfl
 |_::_,_,0,h=>absurd h (Nat.not_succ_le_zero _)
 |_::ρ,σ,i+1,h=>by
  rw[show (i+1)-(_::ρ).length=i-ρ.length from Nat.succ_sub_succ _ _]
  exact lm (ρ:=ρ) (Ip h)
theorem CompOk.vars{G:GV}{c:MC}{sc:Scope}{xs:List Str}{cs:List Str}{caps:List Nat}{env:Env}{α:List Addr}{h h':Heap}{ρ ρt:Loc}{β:List Addr}{C:Addr}{m:Str->Option Value}
  (K:CompOk c sc xs cs caps) (O:ch c env) (F:FI G c env α h ρ) (k:KeepsH h h') (hn:h'.Ns C m) (hl:ρt.length=xs.length) (hm:∀i y e,xs[i]?=some y->af ρt i=some e->∃v,m y=some v/\Rep G (α++β) h' v e) :
  FI G ⟨c.g,sc,xs++cs⟩ (compEnvC sc (dq env sc.names []) C env) (α++β) h' (ρt++caps.map (af ρ)):=by
 intro i y e hy he
 have hy:(xs++cs)[i]?=some y:=hy
 by_cases hi:i<xs.length
 ·rw[Hg hi] at hy
  rw[mM (by rw[hl];exact hi)] at he
  obtain ⟨v,h1,r⟩:=hm i y e hy he
  exact ⟨v,.inl ⟨(K.env O C).loc y (K.tx y (H8 hy)),m,hn,h1⟩,r⟩
 ·have hi:=Nat.le_of_not_lt hi
  rw[Hk hi] at hy
  rw[lm (by rw[hl];exact hi),hl] at he
  generalize i-xs.length=i at *
  refine ae (p9 he) fun j hj hd=>?_
  refine ae (K.cp i j hj) fun n hn1 hn2=>?_
  have hyn:n=y:=by rw[hn1] at hy;exact G5 hy
  rw[hyn] at hn1 hn2
  have hmem:y∈cs:=H8 hn1
  refine ae (F j y e hn2 hd) fun u hu ru=>?_
  refine ⟨u,?_,ru.up k⟩
  obtain ⟨hk,a,ha⟩:=K.outer O hmem
  rcases hu with ⟨hl,_⟩ | ⟨_,cc,hc,hv⟩
  ·rcases hk with hk|hk <;> rw[hk] at hl <;> cases hl
  ·rw[ha] at hc;cases hc
   exact .inr ⟨(K.env O C).fre y (K.cap y hmem),a,K.closLook O hmem ha,iw hv k⟩
theorem Ei{prog:Program}{w:World}{A:Around}{E:Value->Shared->Prop}{s:Shared}{es:List Expr}{n:Nat}{pos:Pos}{I T:Addr}{Z:Unit->Shared->Prop}(hI:∃o vs,s.heap.get? I=some o/\o.data=.fields vs/\own o.cls=false)(hz:Z () s) :
  wpAny (model prog w) A (letOwnedTupleGo (.Tuple es n pos) (.ref I) (.ref T)) Z E s:=by
 obtain ⟨o,vs,ho,hd,hw⟩:=hI
 unfold letOwnedTupleGo
 refine GS (wpAny_load ho ?_)
 rw[hd]
 cases hc:o.cls <;> try exact G6 hz
 rename_i k
 rw[hc] at hw
 dsimp only
 rw[if_neg (by rw[show (["enumerate","zip","dict_itemiterator","dict_reverseitemiterator","odict_iterator","itertools.zip_longest","itertools.pairwise"]:List String).contains k=false from hw];exact GZ)]
 exact G6 hz
theorem md{h h':Heap}(e:Heap.ExtBut h.objs.size h h'):KeepsH h h':=fun b o eo=>e b o (IV (IU eo)) eo
theorem AI{prog:Program}{w:World}{A:Around}{E:Value->Shared->Prop}{s:Shared}{G:GV}{α:List Addr}{tg:Nat}{te:Expr}{env:Env}{v:Value}{d:V}{ρt:Loc}{I:Addr}{m:Str->Option Value}{Z:Unit->Shared->Prop}(hh:A.handled=none)(htg:tg=1\/tg=2)(hx:∀x∈tgN tg te,env.kindOf x=some .local)(nd:(tgN tg te).Nodup)
  (hp:(env.scope.kind == .class || (env.scope.kind == .module && env.locals != env.globals))=false) (hns:s.heap.Ns env.locals m) (hb:jH tg d=some ρt) (r:Rep G α s.heap v d) (hI:∃o vs,s.heap.get? I=some o/\o.data=.fields vs/\own o.cls=false)
  (hZ:∀h' tk m',h'.Ns env.locals m'->Heap.ExtBut env.locals s.heap h'->KeepsLT s.heap h'->ρt.length=(tgN tg te).length->(∀i y e,(tgN tg te)[i]?=some y->af ρt i=some e->∃u,m' y=some u/\Rep G α h' u e)->Z () { s with heap:=h',toks:=tk }) :
  wpAny (model prog w) A (letOwnedTupleGo (tgE tg te) (.ref I) v) (fun _ s0=>wpAny (model prog w) A (assign (tgE tg te) env v) Z E s0) E s:=by
 rcases htg with rfl|rfl
 ·cases (show some [some d]=some ρt from hb)
  refine G6 (Jt (wpAny_storeName_local (hx _ GW) hns (fun h' hn hs=>?_) hp))
  have lt:=KeepsLT.sameBut hs (d6 hns)
  refine hZ h' _ _ hn hs.extBut lt rfl fun i y e hy he=>?_
  match i with
  |0 =>
   cases (show some (g8 te)=some y from hy)
   cases (show some d=some e from he)
   exact ⟨v,if_pos rfl,r.mono (fun _ _ e=>e) lt.tup⟩
  |i+1=>cases (show (none:Option Str)=some y from hy)
 ·match d,hb with
  | .tup [a,b],hb =>
   cases (show some [some a,some b]=some ρt from hb)
   obtain ⟨t,us,rfl,ht,rs,_⟩:=r.tup_inv
   obtain ⟨u1,u2,rfl,r1,r2⟩:=rs.inv2
   refine Ei hI ?_
   refine assign_Tuple_tuple hh ht rfl rfl fun h1 he=>?_
   have k1:=md he
   have hn1:=hns.keeps k1
   show wpAny _ _ (do holding [u2] (assign (.Name (g8 (kid 0 te)) _) env u1);assignInOrder [assign (.Name (g8 (kid 1 te)) _) env] [u2]) Z E { s with heap:=h1 }
   refine GS (Js (Jt (wpAny_storeName_local (hx _ GW) hn1 (fun h2 hn2 hs2=>?_) hp)))
   show wpAny _ _ (do holding [] (assign (.Name (g8 (kid 1 te)) _) env u2);assignInOrder [] []) Z E _
   refine GS (Js (Jt (wpAny_storeName_local (hx _ (G3 _ GW)) hn2 (fun h3 hn3 hs3=>?_) hp)))
   have lt:KeepsLT s.heap h3:=((KeepsLT.of k1).trans (KeepsLT.sameBut hs2 (d6 hn1))).trans (KeepsLT.sameBut hs3 (d6 hn2))
   refine G6 (hZ h3 _ _ hn3 (fun b o hb e=>hs3.extBut b o hb (hs2.extBut b o hb (k1 b o e))) lt rfl fun i y e hy he=>?_)
   have hne:g8 (kid 0 te)≠g8 (kid 1 te):=fun h=>(J1.mp nd).1 (h ▸ GW)
   match i with
   |0 =>
    cases (show some (g8 (kid 0 te))=some y from hy)
    cases (show some a=some e from he)
    exact ⟨u1,(if_neg hne).trans (if_pos rfl),r1.mono (fun _ _ e=>e) lt.tup⟩
   |1 =>
    cases (show some (g8 (kid 1 te))=some y from hy)
    cases (show some b=some e from he)
    exact ⟨u2,if_pos rfl,r2.mono (fun _ _ e=>e) lt.tup⟩
   |i+2=>cases (show (none:Option Str)=some y from hy)
theorem r6{prog:Program}{w:World}{A:Around}{s:Shared}{elt target iter:Expr}{ifs:List Expr}{sc:Scope}{pos:Pos}{it acc:Value}{env:Env}{R:Result->Shared->Prop}(I:Nat->Shared->Prop)
  (turn:∀n s,I n s->wpAny (model prog w) A (pyNext it) (fun r s1=>match r with
   |none=>R (.ok .next) s1
   |some v=>wpAny (model prog w) A (letOwnedTupleGo target it v) (fun _ s0=>wpAny (model prog w) A (assign target env v) (fun _ s2 =>
     wpAny (model prog w) A (forIn ifs true fun c r=>if r=true then do let ok <- isTrue c env (eval c env);pure (ForInStep.yield ok) else pure (ForInStep.yield r)) (fun ok s3 =>
      if ok=true then wpAny (model prog w) A (eval elt env) (fun x s4 =>
       wpAny (model prog w) A (call (.builtin "list.append") [acc,x]) (fun _ s5=>∃m,m<n/\I m s5) (notedBy (model prog w) A env fun e s'=>R (.error e) s') s4) (notedBy (model prog w) A env fun e s'=>R (.error e) s') s3
      else∃m,m<n/\I m s3) (notedBy (model prog w) A env fun e s'=>R (.error e) s') s2) (notedBy (model prog w) A env fun e s'=>R (.error e) s') s0) (notedBy (model prog w) A env fun e s'=>R (.error e) s') s1) (notedBy (model prog w) A env fun e s'=>R (.error e) s') s)
  (n:Nat) (h:I n s):codeAny (model prog w) A (.compLoop (.ListComp elt [⟨target,iter,ifs,0⟩] sc pos) 0 it acc env) R s:=by
 refine codeAny_loop rfl I (fun n s hI=>?_) n h
 show wpAny _ A ((compTurn (.ListComp elt [⟨target,iter,ifs,0⟩] sc pos) 0 it acc env).onRaise (fun x=>do noteFrame x env;theTreesLotGoes x)) _ _ s
 refine wpAny_noted ?_
 rw[compTurn_list]
 refine GS (wpAny_standAt (GS (wpAny_mono (turn n s hI) (fun r s1 h₁=>?_) fun _ _ h'=>h')))
 cases r with
 |none=>exact G6 h₁
 |some v =>
  refine GS (wpAny_mono h₁ (fun _ s0 h0=>?_) fun _ _ h'=>h')
  refine GS (wpAny_mono h0 (fun _ s2 h2=>GS (wpAny_mono h2 (fun ok s3 h3=>?_) fun _ _ h'=>h')) fun _ _ h'=>h')
  cases ok with
  |false=>exact G6 ⟨rfl,h3⟩
  |true=>exact GS (GS (wpAny_mono h3 (fun x s4 h4=>GS (wpAny_mono h4 (fun _ s5 h5=>G6 (G6 ⟨rfl,h5⟩)) fun _ _ h'=>h')) fun _ _ h'=>h'))
section
variable {X:SX}{c:MC}
noncomputable def wT(X:SX)(c:MC)(po:PO)(ifs:List Expr):Prop:=
 match po with
 | .no=>ifs=[]
 | .some pe=>∃e,ifs=[e]/\SC X c pe e
theorem vl{po:PO}{ifs:List Expr}(h:wT X c po ifs)(env:Env)(s:Shared)(α:List Addr)(ρ:Loc)(H:Hp)(Q:Bool->Hp->Prop)(E:Value->Shared->Prop)(O:ch c env)(T:GF X.G c.g X.DT s.heap)(R:HR X.G α s.heap H)
  (F:FI X.G c env α s.heap ρ) (q:wpO X.sub X.Φ po ρ H fun c H3=>ifSome (match c with|some c=>bm H3 c|none=>some true) fun t=>Q t H3) :
  wpAny (model X.prog X.w) X.A (forIn ifs true fun c r=>if r=true then do let ok <- isTrue c env (eval c env);pure (ForInStep.yield ok) else pure (ForInStep.yield r)) (Post X.G (fun _ _ a b=>a=b) s α H Q) E s:=by
 cases po with
 |no =>
  cases h
  simp only[qO1,qO2] at q
  exact G6 (Post.same' (d:=true) R rfl q)
 |some pe =>
  obtain ⟨e,rfl,h⟩:=h
  simp only[qO1,qO2] at q
  rw[List.forIn_cons]
  simp only[if_true]
  refine GS (GS (wpAny_mono (h env s α ρ H Q E O T R F q) (fun b s1 p=>G6 ?_) fun _ _ x=>x))
  simp only[List.forIn_nil]
  exact G6 p
inductive tC (X:SX) (s:Shared) (α:List Addr) (H:Hp) (Q:List V->Hp->Prop) (D C:Addr) (s':Shared):Prop
 |mk (h':Heap) (tk:Nat) (β:List Addr) (K:Hp) (ys:List Value) (ds:List V) (m:Str->Option Value) (e:s'={ s with heap:=h',toks:=tk }) (k:KeepsH s.heap h') (f:∀b∈β,s.heap.get? b=none) (R:HR X.G (α++β) h' (H++K)) (dD:s.heap.get? D=none) (dC:s.heap.get? C=none) (ne:D≠C) (nD:D ∉ α++β)
  (pl:h'.PlainList D ys.toArray) (rs:Reps X.G (α++β) h' ys ds) (z:ds.length<=lim) (ns:h'.Ns C m) (q:Q ds (H++K))
theorem oM{step:V->Hp->(Option V->Hp->Prop)->Prop}{x:V}{xs:List V}{H:Hp}{Q:List V->Hp->Prop}:cZ step (x::xs) H Q=step x H fun o H1=>cZ step xs H1 fun ys H2=>Q (match o with|some y=>y::ys|none=>ys) H2:=rfl
inductive Gn (X:SX) (s:Shared) (α β1:List Addr) (H:Hp) (xs:List V) (St:Nat->Heap->Prop) (wr:List Addr) (h2:Heap) (D C:Addr) (step:V->Hp->(Option V->Hp->Prop)->Prop) (Q:List V->Hp->Prop) (n:Nat) (s':Shared):Prop
 |mk (i:Nat) (h':Heap) (tk:Nat) (γ:List Addr) (KK:Hp) (ys:List Value) (ds:List V) (m:Str->Option Value) (e:s'={ s with heap:=h',toks:=tk }) (hi:i<=xs.length) (hn:n=xs.length+1-i) (st:St i h') (hk:∀b o,b ∉ wr->h2.get? b=some o->h'.get? b=some o)
  (hf:∀b∈β1++γ,s.heap.get? b=none) (hD:D ∉ α++(β1++γ)) (R:HR X.G (α++(β1++γ)) h' (H++KK)) (pl:h'.PlainList D ys.toArray) (rs:Reps X.G (α++(β1++γ)) h' ys ds) (z:ds.length<=i) (ns:h'.Ns C m) (q:cZ step (xs.drop i) (H++KK) (fun r H2=>Q (ds++r) H2))
theorem mx{elt:Expr}{iter te:Expr}{tg:Nat}{pos:Pos}{ifs:List Expr}{sc:Scope}{cs:List Str}{pelt:PE}{caps:List Nat}{cond:PO}
  (hh:X.A.handled=none) (htg:tg=1\/tg=2) (K:CompOk c sc (tgN tg te) cs caps) (h1:SE X ⟨c.g,sc,tgN tg te++cs⟩ pelt elt) (h2:wT X ⟨c.g,sc,tgN tg te++cs⟩ cond ifs)
  (env:Env) (s:Shared) (α:List Addr) (ρ:Loc) (H:Hp) (Q:List V->Hp->Prop) (E:Value->Shared->Prop) (O:ch c env) (T:GF X.G c.g X.DT s.heap) (F:FI X.G c env α s.heap ρ)
  (it:Value) (s2:Shared)
  (hit:qN X s α H (fun xs _ H1=>xs.length<=lim/\cZ (fun x H2 k=>ifSome (jH tg x) fun ρt =>
   wpO X.sub X.Φ cond (ρt++caps.map (af ρ)) H2 fun c H3=>ifSome (match c with|some c=>bm H3 c|none=>some true) fun t =>
    if t then wpE X.sub X.Φ pelt (ρt++caps.map (af ρ)) H3 fun y H4=>k (some y) H4 else k none H3) xs H1 Q) it s2)
  (RR:Value->Addr->Result->Shared->Prop) (hRR:∀D C s',tC X s α H Q D C s'->RR (.ref D) C (.ok .next) s') :
  wpAny (model X.prog X.w) X.A (newList []) (fun acc s3=>wpAny (model X.prog X.w) X.A (newFunctionEnv sc env.globals (dq env sc.names []) [] env.qual none .none (some env)) (fun cenv s4 =>
   codeAny (model X.prog X.w) X.A (.compStart (.ListComp elt [⟨tgE tg te,iter,ifs,0⟩] sc pos) 0 it acc { cenv with scope:=relabel sc env }) (RR acc cenv.locals) s4) E s3) E s2:=by
 obtain ⟨h₁,tk₁,β1,K₁,xs,src,k1,f1,R1,⟨I,fp,wr,P,St,h₂,tk2,rfl,rfl,k2,W,hst,hwr,hfield0,hfp,hsrc,hP,hIw⟩,hlen,hgo⟩:=hit
 have hfield:∀i h,St i h->∀b∈wr,∃o vs,h.get? b=some o/\o.data=.fields vs:=fun i h st b hb=>x8 (hfield0 i h st b hb)
 dsimp only at k2 hwr
 refine JM (wpAny_newFunctionEnv K.nocell (by intro y hy;simp at hy) (fun h3 hns3 hsb3=>?_) K.kind)
 dsimp only at hns3 hsb3 ⊢
 generalize hH2:h₂.push { cls:=.type "list",dict:=none,data:=.seq ([]:List Value).toArray }=H2 at hns3 hsb3 ⊢
 have hC:H2.objs.size=h₂.objs.size+1:=by rw[<- hH2,Heap.size_push]
 have hDC:h₂.objs.size≠H2.objs.size:=by rw[hC];exact IV (Ia _)
 generalize hCC:H2.objs.size=C at hns3 hsb3 hDC hC ⊢
 generalize hDD:h₂.objs.size=D at hDC hC ⊢
 have deadD:h₂.get? D=none:=by rw[<- hDD];exact cK _
 have deadC:h₂.get? C=none:=by
  cases e:h₂.get? C with
  |none=>rfl
  |some o=>exact absurd (IU e) (by rw[hDD,hC];exact Nat.not_lt.mpr (Ij _))
 have aliveNe:∀b o,h₂.get? b=some o->b≠D/\b≠C:=fun b o e=>⟨fun q=>(by rw[q,deadD] at e;cases e),fun q=>(by rw[q,deadC] at e;cases e)⟩
 have old:KeepsH h₂ h3:=fun b o e=>hsb3.extBut b o (aliveNe b o e).2 (Iy _ (hH2 ▸ Iy _ e))
 have hacc:h3.PlainList D ([]:List Value).toArray:=⟨_,hsb3.extBut _ _ hDC (Iy _ (hH2 ▸ hDD ▸ Hi _ rfl))⟩
 have hst3:St 0 h3:=W.frame _ _ _ hst fun b _ o e=>old b o e
 have hDf:D ∉ fp:=fun hm=>by obtain ⟨o,e⟩:=hfp _ hm;rw[deadD] at e;cases e
 have hCf:C ∉ fp:=fun hm=>by obtain ⟨o,e⟩:=hfp _ hm;rw[deadC] at e;cases e
 have hDw:D ∉ wr:=fun hm=>hDf (W.sub _ hm)
 have hCw:C ∉ wr:=fun hm=>hCf (W.sub _ hm)
 have deadS:∀b,h₁.get? b=none->s.heap.get? b=none:=fun b e=>by
  cases e':s.heap.get? b with
  |none=>rfl
  |some o=>have:=k1 b o e';rw[e] at this;cases this
 have deadS2:∀b,h₂.get? b=none->s.heap.get? b=none:=fun b e=>deadS b (by
  cases e':h₁.get? b with
  |none=>rfl
  |some o=>have:=k2 b o e';rw[e] at this;cases this)
 -- whatever keeps h₂ off wr keeps s
 have keepS:∀h':Heap,(∀b o,b ∉ wr->h₂.get? b=some o->h'.get? b=some o)->KeepsH s.heap h':=fun h' hk b o e =>
  hk b o (fun hm=>by have:=hwr b hm;rw[k1 b o e] at this;cases this) (k2 b o (k1 b o e))
 have keepT:∀h':Heap,(∀b o,b ∉ wr->h₂.get? b=some o->h'.get? b=some o)->KeepsT h₂ h':=fun h' hk=>by
  refine KeepsLT.tup fun a o items n e d=>hk a o (fun hm=>?_) e
  refine cR (hfield 0 h₂ hst a hm) fun o' vs e' d'=>?_
  rw[e] at e';cases e';rw[d] at d';cases d'
 have D1:D ∉ α++β1:=fun hm=>by
  obtain ⟨n,hn⟩:=List.mem_iff_getElem?.mp hm
  obtain ⟨ys,hy⟩:=R1.at hn
  refine ae (R1.lst n D ys hn hy) fun us zq30 _=>?_;refine ae (zq30) fun o ho _=>?_
  have:=k2 _ _ ho;rw[deadD] at this;cases this
 let step:V->Hp->(Option V->Hp->Prop)->Prop:=fun x H2 k=>ifSome (jH tg x) fun ρt =>
   wpO X.sub X.Φ cond (ρt++caps.map (af ρ)) H2 fun c H3=>ifSome (match c with|some c=>bm H3 c|none=>some true) fun t =>
    if t then wpE X.sub X.Φ pelt (ρt++caps.map (af ρ)) H3 fun y H4=>k (some y) H4 else k none H3
 have loop:∀s3:Shared,s3={ s with heap:=h3,toks:=tk2+([]:List (Str × Value)).length } ->
   codeAny (model X.prog X.w) X.A (.compLoop (.ListComp elt [⟨tgE tg te,iter,ifs,0⟩] sc pos) 0 (.ref I) (.ref D) (compEnvC sc (dq env sc.names []) C env)) (RR (.ref D) C) s3:=by
  rintro s3 rfl
  refine r6 (Gn X s α β1 H xs St wr h₂ D C step Q) ?_ (xs.length+1) ⟨0,h3,_,[],K₁,[],[],_,rfl,Hl _,rfl,hst3,fun b o _ e=>old b o e,by simpa using f1,by simpa using D1,?_,hacc,.nil,GU _,hns3,?_⟩
  ·rintro n s' ⟨i,h',tk,γ,KK,ys,ds,m,rfl,hi,rfl,hsti,hkeep,hfresh,hD',R',hpl,rys,hdl,hns,hgo'⟩
   by_cases hlt:i<xs.length
   ·refine W.item i _ _ _ hlt hsti fun v h'' tk' hPv hst'' hk''=>?_
    have lt1:KeepsLT h' h'':=fun a o items n e d=>hk'' a o (fun hm=>by
     refine cR (hfield i h' hsti a hm) fun o' vs e' d'=>?_
     rw[e] at e';cases e';rw[d] at d';cases d') e
    have hns'':h''.Ns C m:=hns.at' fun o e=>hk'' C o hCw e
    refine ae (hP i v hlt hPv) fun d hd rd=>?_
    have rd':Rep X.G (α++(β1++γ)) h'' v d:=by
     have:=rd.mono (α':=(α++β1)++γ) d4 (keepT h'' fun b o hb e=>hk'' b o hb (hkeep b o hb e))
     rwa [G0] at this
    have hdrop:xs.drop i=d::xs.drop (i+1):=by
     obtain ⟨hl,he⟩:=GX.mp hd
     rw[List.drop_eq_getElem_cons hl,he]
    rw[hdrop] at hgo'
    rw[oM] at hgo'
    obtain ⟨ρt,hρ,hgo'⟩:=ifSome.get (show ifSome (jH tg d) _ from hgo')
    refine AI (s:={ s with heap:=h'',toks:=tk' }) (env:=compEnvC sc (dq env sc.names []) C env) hh htg (fun x hx=>(K.env O C).loc x (K.tx x hx)) K.nd (by simp[compEnvC,relabel,K.kind]) hns'' hρ rd' (hfield0 (i+1) h'' hst'' I hIw) fun h4 tk4 m4 hns4 hsb4 lt2 hρl hvars=>?_
    have hkeep4:∀b o,b ∉ wr->h₂.get? b=some o->h4.get? b=some o:=fun b o hb e=>hsb4 b o (aliveNe b o e).2 (hk'' b o hb (hkeep b o hb e))
    have st4:St (i+1) h4:=W.frame _ _ _ hst'' fun b hb o e=>hsb4 b o (fun (q:b=C)=>hCf (q ▸ hb)) e
    have R4:=(R'.lt' lt1).lt' lt2
    have kS:=keepS h4 hkeep4
    have FI4:=K.vars O F kS hns4 hρl hvars
    have T4:GF X.G c.g X.DT h4:=T.keeps kS
    refine wpAny_mono (vl h2 (compEnvC sc (dq env sc.names []) C env) { s with heap:=h4,toks:=tk4 } (α++(β1++γ)) _ (H++KK) _ _ (K.env O C) T4 R4 FI4 hgo') (fun ok s5 p=>?_) fun _ _ x=>x
    obtain ⟨h5,tk5,γ5,K5,t,rfl,k5,f5,R5,rfl,q5⟩:=p
    dsimp only at k5 f5
    have hD5:D ∉ (α++(β1++γ))++γ5:=fun hm=>by
     rcases Hy.mp hm with hm|hm
     ·exact hD' hm
     ·have:=f5 _ hm
      obtain ⟨nn,hh⟩:=lt2.plain (lt1.plain hpl)
      rw[hh] at this;cases this
    have fr5:∀b∈β1++(γ++γ5),s.heap.get? b=none:=fun b hb=>by
     rw[<- G0] at hb
     rcases Hy.mp hb with hb|hb
     ·exact hfresh b hb
     ·cases e:s.heap.get? b with
      |none=>rfl
      |some o=>have:=kS b o e;rw[f5 b hb] at this;cases this
    have keep5:∀b o,b ∉ wr->h₂.get? b=some o->h5.get? b=some o:=fun b o hb e=>k5 b o (hkeep4 b o hb e)
    have ns5:=hns4.keeps k5
    have st5:St (i+1) h5:=W.frame _ _ _ st4 fun b _ o e=>k5 b o e
    have pl5:h5.PlainList D ys.toArray:=cW (lt2.plain (lt1.plain hpl)) k5
    have rys5:Reps X.G ((α++(β1++γ))++γ5) h5 ys ds:=((rys.mono (fun _ _ e=>e) (lt1.trans lt2).tup).up k5)
    cases ok with
    |false =>
     simp only[II,if_false] at q5 ⊢
     refine ⟨xs.length+1-(i+1),by exact oqz [xs.length+1-(i+1),xs.length,i,xs.length+1-i] [] [(.le (Y2+1) Y1),(.an (.le (Y1+1) (Y3+Y2)) (.le Y3 (Y1+1))),(osb (Y1+1) (Y2+1) Y0)] (.le (Y0+1) Y3) [1000101,100111] rfl hlt (aV (xs.length+1) (i)) (am (xs.length+1) (i+1)),i+1,h5,tk5,γ++γ5,KK++K5,ys,ds,_,rfl,hlt,rfl,st5,keep5,fr5,by simpa using hD5,by simpa using R5,pl5,by simpa using rys5,by exact oqz [ds.length,i] [] [(.le Y0 Y1)] (.le Y0 (Y1+1)) [11] rfl hdl,ns5,?_⟩
     simpa using q5
    |true =>
     simp only[if_true] at q5 ⊢
     refine wpAny_mono (h1 (compEnvC sc (dq env sc.names []) C env) { s with heap:=h5,toks:=tk5 } ((α++(β1++γ))++γ5) _ ((H++KK)++K5) _ _ (K.env O C) (T4.keeps k5) R5 (FI4.up k5) q5) (fun y s6 p=>?_) fun _ _ x=>x
     obtain ⟨h6,tk6,γ6,K6,e,rfl,k6,f6,R6,r₆,q6⟩:=p
     dsimp only at k6 f6
     have pl6:=cW pl5 k6
     have hlen6:ys.length<=lim:=by rw[rys5.len];exact GP hdl (GP (Ji hlt) hlen)
     refine wpAny_list_append_plain (s:={ s with heap:=h6,toks:=tk6 }) pl6 (fun h7 pl7 hsb7=>?_) (by simp;exact GP hlen6 fm)
     have hD6:D ∉ ((α++(β1++γ))++γ5)++γ6:=fun hm=>by
      rcases Hy.mp hm with hm|hm
      ·exact hD5 hm
      ·have:=f6 _ hm
       obtain ⟨nn,hh⟩:=pl5
       rw[hh] at this;cases this
     have fr6:∀b∈β1++(γ++γ5++γ6),s.heap.get? b=none:=fun b hb=>by
      rw[<- G0] at hb
      rcases Hy.mp hb with hb|hb
      ·exact fr5 b hb
      ·cases e:s.heap.get? b with
       |none=>rfl
       |some o=>have:=k5 b o (kS b o e);rw[f6 b hb] at this;cases this
     -- only D is written
     have nD:∀b∈(((α++(β1++γ))++γ5)++γ6),b≠D:=fun b hb q=>hD6 (q ▸ hb)
     have tup7:KeepsT h6 h7:=fun a items x=>x.extBut hsb7.extBut fun q=>by
      subst q
      refine cr (x) fun o ho hc _=>?_
      obtain ⟨nn,hh⟩:=pl6
      rw[hh] at ho;cases ho;simp at hc
     have R7:HR X.G (((α++(β1++γ))++γ5)++γ6) h7 (((H++KK)++K5)++K6):=
      ⟨R6.len,R6.nodup,R6.pos,fun n a xs e1 e2=>by
       refine b4 (R6.lst n a xs e1 e2) fun vs l q z p=>?_
       have hne:=nD a (H8 e1)
       exact ⟨vs,l.extBut hsb7.extBut hne,q.mono (fun _ _ e=>e) tup7,z,fun hn=>(p hn).elim fun n' e'=>⟨n',hsb7.extBut _ _ hne e'⟩⟩⟩
     have aliveD:∀b o,h₂.get? b=some o->b≠D:=fun b o e=>(aliveNe b o e).1
     have ns7:=(ns5.keeps k6).extBut hsb7.extBut (Ne.symm hDC)
     refine ⟨xs.length+1-(i+1),by exact oqz [xs.length+1-(i+1),xs.length,i,xs.length+1-i] [] [(.le (Y2+1) Y1),(.an (.le (Y1+1) (Y3+Y2)) (.le Y3 (Y1+1))),(osb (Y1+1) (Y2+1) Y0)] (.le (Y0+1) Y3) [1000101,100111] rfl hlt (aV (xs.length+1) (i)) (am (xs.length+1) (i+1)),i+1,h7,tk6,γ++γ5++γ6,KK++K5++K6,ys++[y],ds++[e],_,rfl,hlt,rfl,?_,?_,fr6,by simpa using hD6,by simpa using R7,?_,?_,by simp;exact oqz [ds.length,i] [] [(.le Y0 Y1)] (.le Y0 Y1) [11] rfl hdl,ns7,?_⟩
     ·exact W.frame _ _ _ st5 fun b hb o eo=>hsb7.extBut b o (fun q=>hDf (q ▸ hb)) (k6 b o eo)
     ·exact fun b o hb eo=>hsb7.extBut b o (aliveD b o eo) (k6 b o (keep5 b o hb eo))
     ·simpa using pl7
     ·have:Reps X.G (((α++(β1++γ))++γ5)++γ6) h6 (ys++[y]) (ds++[e]):=(rys5.up k6).append (.cons r₆ .nil)
      simpa using this.mono (fun _ _ e=>e) tup7
     ·simpa using q6
   ·have hin:i=xs.length:=oqz [i,xs.length] [] [(.le Y0 Y1),(.no (.le (Y0+1) Y1))] (.eq Y0 Y1) [101,11] rfl hi hlt
    subst hin
    refine W.done _ _ _ hsti fun h'' tk' hk''=>?_
    have lt1:KeepsLT h' h'':=fun a o items n e d=>hk'' a o (fun hm=>by
     refine cR (hfield _ h' hsti a hm) fun o' vs e' d'=>?_
     rw[e] at e';cases e';rw[d] at d';cases d') e
    refine hRR D C _ ⟨h'',tk',β1++γ,KK,ys,ds,m,rfl,keepS h'' fun b o hb e=>hk'' b o hb (hkeep b o hb e),hfresh,R'.lt' lt1,deadS2 _ deadD,deadS2 _ deadC,hDC,hD',lt1.plain hpl,rys.mono (fun _ _ e=>e) lt1.tup,GP hdl hlen,hns.at' fun o e=>hk'' C o hCw e,?_⟩
    rw[List.drop_length] at hgo';replace hgo':Q (ds++[]) (H++KK):=hgo';rw[List.append_nil] at hgo';exact hgo'
  ·simpa using (R1.keeps k2).keeps old
  ·simp only[List.drop_zero,List.nil_append];exact hgo
 exact codeAny_compStart_list (loop _ rfl) (W.self 0 _ _ _ hst3 (loop _ rfl))
end
theorem fZ{e:Expr}(h:jd e=true)(env:Env)(x:Value):foldedSetIterable e env x=pure x:=by
 cases e <;> first|rfl|cases h
section
variable {X:SX}{c:MC}
theorem nV{s:Shared}{α:List Addr}{H:Hp}{Q:V->Hp->Prop}{D C:Addr}{s':Shared}(p:tC X s α H (fun ys H5=>Q (.lst H5.length) (H5++[ys])) D C s'){h'':Heap}(hs:Heap.SameBut C s'.heap h'') :
  Post X.G (Rep X.G) s α H Q (.ref D) { s' with heap:=h'' }:=by
 obtain ⟨h',tk,β,K,ys,ds,m,rfl,k,f,R,dD,dC,hDC,hD,hpl,rys,z,hn,q⟩:=p
 have lt:KeepsLT h' h'':=KeepsLT.sameBut hs (d6 hn)
 have kk:KeepsH s.heap h'':=fun b o e=>hs.extBut b o (fun q=>by rw[q,dC] at e;cases e) (k b o e)
 have R':=R.lt' lt
 refine ⟨h'',tk,β++[D],K++[ds],.lst (H++K).length,rfl,kk,?_,?_,?_,by simpa using q⟩
 ·intro b hb
  rcases Hy.mp hb with hb|hb
  ·exact f b hb
  ·simp at hb;subst hb;exact dD
 ·have:=R'.push (.refl _) hD (lt.plain hpl) (rys.mono (fun _ _ e=>e) lt.tup) z
  simpa using this
 ·refine Rep.lst ?_
  rw[<- R.len,<- G0,Hk (GU _)];simp
theorem t9{elt iter te:Expr}{tg:Nat}{pos:Pos}{ifs:List Expr}{sc:Scope}{cs:List Str}{pelt:PE}{caps:List Nat}{pit:PI}{cond:PO}
  (hh:X.A.handled=none) (htg:tg=1\/tg=2) (K:CompOk c sc (tgN tg te) cs caps) (h1:SE X ⟨c.g,sc,tgN tg te++cs⟩ pelt elt) (h2:wT X ⟨c.g,sc,tgN tg te++cs⟩ cond ifs) (h3:SI X c pit iter) (hns:jd iter=true) :
  SE X c (.comp pelt tg caps pit cond) (.ListComp elt [⟨tgE tg te,iter,ifs,0⟩] sc pos):=fun env s α ρ H Q E O T R F q=>by
 simp only[f9] at q
 rw[eval_ListComp]
 refine wpAny_comprehension_free (use:=none) rfl (fZ hns env) (K.clos O) K.kind K.names (wpAny_mono (h3 env s α ρ H _ E O T R F q) (fun xv s1 p=>wpAny_mono p (fun it s2 p=>?_) fun _ _ e=>e) fun _ _ e=>e)
 refine mx hh htg K h1 h2 env s α ρ H _ E O T F it s2 p (fun acc C=>compPost (model X.prog X.w) X.A E none (Post X.G (Rep X.G) s α H Q) acc C) fun D C s' p=>?_
 obtain ⟨m,hm⟩:∃m,s'.heap.Ns C m:=by obtain ⟨h',tk,β,K,ys,ds,m,rfl,k,f,R,dD,dC,hDC,hD,hpl,rys,z,hn,q⟩:=p;exact ⟨m,hn⟩
 exact ⟨m,hm,fun h' hs=>nV p hs⟩
theorem EF{a b:PE}{x i:Expr}{pos:Pos}(hs:pG i=true)(h1:SE X c a x)(h2:SE X c b i):SE X c (.idx a b) (.Subscript x i pos):=fun env s α ρ H Q E O T R F q=>by
 simp only[aU] at q
 refine Subscript_ (two h1 h2 O T R F (Q:=fun x y H2=>dX x y H2 Q) q fun h' tk β K u v x y k f R' ru rv q'=>?_)
 refine wpAny_mono (vh (s:={ s with heap:=h',toks:=tk }) (fun o i'=>?_) R' ru rv q') (fun _ _ p=>p.trans k f) fun _ _ x=>x
 cases i <;> first|rfl|cases hs
noncomputable def SO(X:SX)(c:MC)(po:PO)(o:Option Expr):Prop:=
 match po with
 | .no=>o=none
 | .some pe=>∃e,o=some e/\SE X c pe e
theorem oJ{po:PO}{o:Option Expr}(h:SO X c po o)(env:Env)(s:Shared)(α:List Addr)(ρ:Loc)(H:Hp)(Q:Option V->Hp->Prop)(E:Value->Shared->Prop)(O:ch c env)(T:GF X.G c.g X.DT s.heap)(R:HR X.G α s.heap H)
  (F:FI X.G c env α s.heap ρ) (q:wpO X.sub X.Φ po ρ H Q) :
  wpAny (model X.prog X.w) X.A (valueOrNone (evalOpt o env)) (Post X.G (fun α h v (d:Option V)=>match d with|none=>v=.none|some d=>Rep X.G α h v d) s α H Q) E s:=by
 cases po with
 |no =>
  cases h
  simp only[qO1,qO2] at q
  exact G6 (Post.same' (d:=none) R rfl q)
 |some pe =>
  obtain ⟨e,rfl,h⟩:=h
  simp only[qO1,qO2] at q
  refine wpAny_mono (h env s α ρ H _ E O T R F q) (fun v s1 p=>?_) fun _ _ x=>x
  obtain ⟨h₁,tk₁,β,K,d,e,k,f,R',r,q⟩:=p
  exact ⟨h₁,tk₁,β,K,some d,e,k,f,R',r,q⟩
theorem uB{G:GV}{α:List Addr}{h:Heap}{v:Value}{o:Option V}{n d a:Nat}(r:match o with|none=>v=.none|some x=>Rep G α h v x)(e:endAt n d o=some a):∃p:Option Int,IsPart v p/\a=p.elim d (dH n):=by
 rcases endAt.get e with ⟨rfl,e1⟩ | ⟨i,rfl,e1⟩
 ·cases r;exact ⟨none,.none,e1⟩
 ·obtain ⟨t,rfl⟩:=Rep.int_inv r;exact ⟨some i,.int i t,e1⟩
theorem C4{a:PE}{lo hi:PO}{x:Expr}{l h:Option Expr}{p pos:Pos}(h1:SE X c a x)(h2:SO X c lo l)(h3:SO X c hi h):SE X c (.slc a lo hi) (.Subscript x (.Slice l h none p) pos):=fun env s α ρ H Q E O T R F q=>by
 simp only[xW] at q
 refine Subscript_ (wpAny_mono (h1 env s α ρ H _ E O T R F q) (fun u s1 p1=>?_) fun _ _ x=>x)
 refine p1.go fun h₁ tk₁ β1 K₁ d1 k1 f1 R1 r1 q1=>?_
 rw[arm_eval_Slice]
 refine GS (wpAny_mono (oJ h2 env { s with heap:=h₁,toks:=tk₁ } (α++β1) ρ (H++K₁) _ E O (T.keeps k1) R1 (F.up k1) q1) (fun lv s2 p2=>?_) fun _ _ x=>x)
 refine p2.go fun h₂ tk2 β2 K2 d2 k2 f2 R2 r2 q2=>?_
 dsimp only at k2 f2 ⊢
 refine GS (Js (wpAny_mono (oJ h3 env { s with heap:=h₂,toks:=tk2 } (α++β1++β2) ρ (H++K₁++K2) _ E O (T.keeps (k1.trans k2)) R2 ((F.up k1).up k2) q2) (fun hv s3 p3=>?_) fun _ _ x=>x))
 refine p3.go fun h₃ tk3 β3 K3 d3 k3 f3 R3 r3 q3=>?_
 dsimp only at k3 f3 ⊢
 refine GS (Js (G6 ?_))
 refine JM ?_ (by show Array.size _<=_;rw[sizeLine_eq];simp)
 dsimp only
 have k4:=bc h₃ { cls:=.type "slice",data:=.fields #[lv,hv,.none] }
 have kk:KeepsH s.heap (h₃.push { cls:=.type "slice",data:=.fields #[lv,hv,.none] }):=((k1.trans k2).trans k3).trans k4
 have ff:∀b∈β1++β2++β3,s.heap.get? b=none:=fun b hb=>by
  rcases Hy.mp hb with hb|hb
  ·rcases Hy.mp hb with hb|hb
   ·exact f1 b hb
   ·cases e:s.heap.get? b with
    |none=>rfl
    |some o=>have:=k1 b o e;rw[f2 b hb] at this;cases this
  ·cases e:s.heap.get? b with
   |none=>rfl
   |some o=>have:=k2 b o (k1 b o e);rw[f3 b hb] at this;cases this
 have ru:Rep X.G (α ++ (β1 ++ β2 ++ β3)) (h₃.push { cls:=.type "slice",data:=.fields #[lv,hv,.none] }) u d1:=by
  have:=((r1.up (β:=β2) k2).up (β:=β3) k3).mono (fun _ _ e=>e) (.of k4)
  simpa using this
 have R4:HR X.G (α ++ (β1 ++ β2 ++ β3)) (h₃.push { cls:=.type "slice",data:=.fields #[lv,hv,.none] }) (H ++ (K₁ ++ K2 ++ K3)):=by
  have:=R3.keeps k4
  simpa using this
 have q4:mL d1 d2 d3 (H++(K₁++K2++K3)) Q:=by simpa using q3
 refine ae (ifLst.get q4) fun n en q5=>ae (ifSome.get q5) fun xs hx q6=>ae (ifSome.get q6) fun p hc q7=>?_
 refine ae (JD.mp hc) fun a ea hd=>ae (IT.mp hd) fun b eb he=>?_
 obtain ⟨lo',pl,rfl⟩:=uB r2 ea
 obtain ⟨hi',ph,rfl⟩:=uB r3 eb
 cases he
 cases en
 exact wpAny_mono (vj (s:={ s with heap:=h₃.push { cls:=.type "slice",data:=.fields #[lv,hv,.none] },toks:=tk3 }) (fun _ _=>rfl) R4 ru hx (Heap.IsSliceOf.new h₃ lv hv .none) pl ph q7) (fun _ _ p=>p.trans kk ff) fun _ _ x=>x
end
section
variable {X:SX}{c:MC}
theorem E5{b:Bi}{ps:PEs}{es:List Expr}{p pos:Pos}(hA:AOk X.prog X.A)(hb:b.isRev=false)(hx:c.isGlob (nN b)=true)(he:(!es.isEmpty)=true)(hn:cS es=true)(h:SEs X c ps es):SE X c (.bi b ps) (.Call (.Name (nN b) p) es [] pos):=fun env s α ρ H Q E O T R F q=>by
 cases es with|nil=>exact (GZ he).elim|cons e es =>
 simp only[b6] at q
 cases b with
 |abs=>exact qv Am (Ai) hx hn h O T R F q fun h' tk β K vs ds k R' r q'=>fE (b:=.abs) (s:={ s with heap:=h',toks:=tk }) hA R' r q'
 |len=>exact qv AK (zO) hx hn h O T R F q fun h' tk β K vs ds k R' r q'=>fE (b:=.len) (s:={ s with heap:=h',toks:=tk }) hA R' r q'
 |int=>exact rm sz (tH) hx hn h O T R F q fun h' tk β K vs ds k R' r q'=>fE (b:=.int) (s:={ s with heap:=h',toks:=tk }) hA R' r q'
 |list=>exact rm kN (lH) hx hn h O T R F q fun h' tk β K vs ds k R' r q'=>fE (b:=.list) (s:={ s with heap:=h',toks:=tk }) hA R' r q'
 |tuple=>exact rm mC (mH) hx hn h O T R F q fun h' tk β K vs ds k R' r q'=>fE (b:=.tuple) (s:={ s with heap:=h',toks:=tk }) hA R' r q'
 |min=>exact qv zB (zv) hx hn h O T R F q fun h' tk β K vs ds k R' r q'=>fE (b:=.min) (s:={ s with heap:=h',toks:=tk }) hA R' r q'
 |listrev=>exact (GZ hb.symm).elim
theorem qT{ps:PEs}{es:List Expr}{p p' pos pos':Pos} (hA:AOk X.prog X.A) (hx:c.isGlob "list"=true) (hx':c.isGlob "reversed"=true) (he:(!es.isEmpty)=true) (hn:cS es=true) (h:SEs X c ps es) :
  SE X c (.bi .listrev ps) (.Call (.Name "list" p) [.Call (.Name "reversed" p') es [] pos'] [] pos):=fun env s α ρ H Q E O T R F q=>by
 cases es with|nil=>exact (GZ he).elim|cons e es =>
 simp only[cS,List.all_cons,H6] at hn
 refine Call_ (d9 kN lH hx O T (callWith_type1 (args_cons (Call_ (d9 tm uu hx' O T (callWith_type1 (wpAny_mono (h env s α ρ H _ E pos' O T R F q) (fun vs s1 p=>?_) fun _ _ y=>y) (aL hn.1) (fB hn.2)))) (aL rfl)) (aL rfl) rfl))
 obtain ⟨h₁,tk₁,β,K,ds,rfl,k,f,R',r,q⟩:=p
 obtain ⟨r,_⟩:=r
 rcases ds with _ | ⟨d,_ | ⟨_,_⟩⟩ <;> first|exact False.elim q|skip
 refine ae (r.one_inv) fun v zq36 a=>?_;subst zq36
 obtain ⟨xs,rfl,q⟩:=q
 obtain ⟨t,vs,rfl,rs,z,z',hk⟩:=lG (s:={ s with heap:=h₁,toks:=tk₁ }) R' a (xs:=xs) rfl
 rcases hk with ⟨ht,_⟩ | ⟨_,n,hn⟩
 ·have hz:vs.toArray.size<=1000000:=by rw[Ht];exact z'
  have hlt:t<h₁.objs.size:=ht.elim fun o g=>IU g.1
  refine fg (s:={ s with heap:=h₁,toks:=tk₁ }) ht (CG hz) fun tk=>args_nil ?_
  have kp:=bc h₁ (iy t ((vs.toArray.size:Int)-1))
  have hI:IsRv (h₁.push (iy t ((vs.toArray.size:Int)-1))) h₁.objs.size t ((vs.toArray.size:Int)-1):=⟨_,Hi _ rfl,rfl,rfl⟩
  refine mY (s:={ s with heap:=h₁.push (iy t ((vs.toArray.size:Int)-1)),toks:=tk }) hA.handled hI (ht.keeps kp) hz (IV hlt) fun h' tk' acc' c' hk hS hacc=>?_
  have k':KeepsH h₁ h':=fun b o e=>hk b o (IV (IU e)) (kp b o e)
  have ea:acc'=vs.reverse.toArray:=by
   apply Array.ext_getElem?
   intro i
   have e1:acc'.size=vs.length:=hacc.1.trans (Ht ..)
   by_cases hi:i<vs.length
   ·have hg:acc'[i]?=some acc'[i]:=Array.getElem?_eq_getElem (by rw[e1];exact hi)
    have:=hacc.2 i _ hg
    rw[hg,<- this]
    simp only[List.getElem?_toArray,Ht]
    rw[List.getElem?_reverse hi]
   ·rw[Array.getElem?_eq_none (by exact oqz [acc'.size,i,vs.length] [] [(.eq Y0 Y2),(.no (.le (Y1+1) Y2))] (.le Y0 Y1) [1011] rfl e1 hi),List.getElem?_toArray,List.getElem?_eq_none (by rw[Hz];exact oqz [vs.length,i] [] [(.no (.le (Y1+1) Y0))] (.le Y0 Y1) [11] rfl hi)]
  rw[ea] at hS
  exact (Post.newLst (s:={ s with heap:=h₁,toks:=tk₁ }) R' k' (rs.reverse.mono (fun _ _ e=>e) (.of k')) (by rw[Hz];exact z) q (jC (by show h₁.objs.size<=(h₁.push _).objs.size;simp[Heap.push])) ⟨c',hS⟩ tk').trans k f
 ·cases hn
noncomputable def Bm:Ty->String
 | .int=>"int" | .bool=>"bool" | .tuple=>"tuple" | .list=>"list" | .cls _=>""
theorem uQ{prog:Program}{w:World}{A:Around}{E:Value->Shared->Prop}{s:Shared}{G:GV}{α:List Addr}{H:Hp}{Q:V->Hp->Prop}{u:Value}{x:V}{t:Ty}{b:Bool}{sub:Nat->Nat->Bool}
  (R:HR G α s.heap H) (r:Rep G α s.heap u x) (e:zA sub x t=some b) (q:Q (.bool b) H):wpAny (model prog w) A (call (.builtin "isinstance") [u,.type (Bm t)]) (Post G (Rep G) s α H Q) E s:=by
 have yes:b=true->Post G (Rep G) s α H Q (.bool true) s:=fun h=>by subst h;exact Post.same' R (.bool _) q
 have no:b=false->Post G (Rep G) s α H Q (.bool false) { s with toks:=s.toks+1 }:=fun h=>by subst h;exact Post.same R (.bool _) q _
 cases r with
 |int i tk=>cases t <;> first
  |exact IsiPair.int_int (yes (G5 e).symm) |exact IsiPair.int_bool (no (G5 e).symm) |exact IsiPair.int_tuple (no (G5 e).symm) |exact IsiPair.int_list (no (G5 e).symm) |cases e
 |bool i=>cases t <;> first
  |exact IsiPair.bool_int (yes (G5 e).symm) |exact IsiPair.bool_bool (yes (G5 e).symm) |exact IsiPair.bool_tuple (no (G5 e).symm) |exact IsiPair.bool_list (no (G5 e).symm) |cases e
 |none=>cases t <;> first
  |exact IsiPair.NoneType_int (no (G5 e).symm) |exact IsiPair.NoneType_bool (no (G5 e).symm) |exact IsiPair.NoneType_tuple (no (G5 e).symm) |exact IsiPair.NoneType_list (no (G5 e).symm) |cases e
 |str i tk=>cases t <;> first
  |exact IsiPair.str_int (no (G5 e).symm) |exact IsiPair.str_bool (no (G5 e).symm) |exact IsiPair.str_tuple (no (G5 e).symm) |exact IsiPair.str_list (no (G5 e).symm) |cases e
 |tup ht rs z=>cases t <;> first
  |exact IsiPair.isTuple_int ht (fun _ _ e=>e) (no (G5 e).symm) |exact IsiPair.isTuple_bool ht (fun _ _ e=>e) (no (G5 e).symm) |exact IsiPair.isTuple_tuple ht (fun _ _ e=>e) (yes (G5 e).symm) |exact IsiPair.isTuple_list ht (fun _ _ e=>e) (no (G5 e).symm) |cases e
 |lst ha =>
  obtain ⟨xs,hx⟩:=R.at ha
  refine ae (R.getList ha hx) fun vs hl _=>?_
  cases t <;> first
  |exact IsiPair.isList_int hl (fun _ _ e=>e) (no (G5 e).symm) |exact IsiPair.isList_bool hl (fun _ _ e=>e) (no (G5 e).symm) |exact IsiPair.isList_tuple hl (fun _ _ e=>e) (no (G5 e).symm) |exact IsiPair.isList_list hl (fun _ _ e=>e) (yes (G5 e).symm) |cases e
 |fn _=>cases t <;> cases e
theorem D9{t:Ty}{p:Pos}(ht:t.isCls=false)(hx:c.isGlob t.nm=true)(env:Env)(s:Shared)(Z:Value->Shared->Prop)(E:Value->Shared->Prop)(O:ch c env)(T:GF X.G c.g X.DT s.heap)(hz:Z (.type (Bm t)) s) :
  wpAny (model X.prog X.w) X.A (eval (.Name t.nm p) env) Z E s:=by
 cases t with
 |int=>exact d9 sz tH hx O T hz
 |bool=>exact d9 xE xM hx O T hz
 |tuple=>exact d9 mC mH hx O T hz
 |list=>exact d9 kN lH hx O T hz
 |cls k=>exact (GZ ht.symm).elim
theorem Au{a:PE}{t:Ty}{x:Expr}{p p' pos:Pos} (hx:c.isGlob "isinstance"=true) (ht:c.isGlob t.nm=true) (hc:t.isCls=false) (hn:cX x=true) (h:SE X c a x):SE X c (.isi a [t]) (.Call (.Name "isinstance" p) [x,.Name t.nm p'] [] pos):=fun env s α ρ H Q E O T R F q=>by
 replace q:wpE X.sub X.Φ a ρ H fun x H1=>ifSome ([t].mapM (zA X.sub x)) fun bs=>Q (.bool (bs.any id)) H1:=q
 refine Call_ (d9 Ao zF hx O T (callWith_builtin1 (args_cons (wpAny_mono (h env s α ρ H _ E O T R F q) (fun u s1 p=>?_) fun _ _ y=>y) (aL hn)) (aL hn) (fB rfl)))
 obtain ⟨h₁,tk₁,β,K,d,rfl,k,f',R',r,q'⟩:=p
 refine ae (ifSome.get q') fun bs e q'=>?_
 simp only[List.mapM_cons,List.mapM_nil,Option.bind_eq_bind,JD,Option.pure_def,Option.some.injEq] at e
 refine uw (e) fun b e1 _ zq36 zq37=>?_;subst zq36;subst zq37
 refine args_cons (D9 hc ht env _ _ _ O (T.keeps k) (args_nil ?_)) (aL rfl)
 exact wpAny_mono (uQ (s:={ s with heap:=h₁,toks:=tk₁ }) R' r e1 (by simpa using q')) (fun _ _ p=>p.trans k f') fun _ _ y=>y
end
theorem mG{c:MC}{sc:Scope}{xs:List Str}{caps:List Nat}(h:mZ c sc xs (c.cap caps) caps=true):CompOk c sc xs (c.cap caps) caps:=by
 unfold mZ at h
 simp only[H6,It,JQ] at h
 obtain ⟨hk,hs,⟨hd,hx⟩,hcs,hout,hcp⟩:=h
 simp only[Bool.or_eq_true,It] at hout
 refine ⟨hk,fun p hp hl=>?_,fun p hp hl=>?_,hx,hd,hcs,hout,fun p hp hl=>?_,fun i j e=>⟨c.nm j,by unfold MC.cap;rw[Hj,e];rfl,hcp j (H8 e)⟩⟩
 ·have:=hs p hp;rw[hl] at this;simpa using this
 ·have:=hs p hp;rw[hl] at this;simp at this
 ·have:=hs p hp;rw[hl] at this;simpa using this
theorem lw{a b p}:b5 (.Constant a b p):=fun _ _=>rfl
theorem n6{a p}:b5 (.Name a p):=fun _ _=>rfl
theorem DI{a b d p}:b5 (.BinOp a b d p):=fun _ _=>rfl
theorem C9{a p}:b5 (.UnaryOp .USub a p):=fun _ _=>rfl
theorem iL{a b d p}:b5 (.Call a b d p):=fun _ _=>rfl
theorem yW{a b p}:b5 (.Subscript a b p):=fun _ _=>rfl
theorem C7{a b p}:b5 (.Tuple a b p):=fun _ _=>rfl
theorem zy{a p}:b5 (.List a p):=fun _ _=>rfl
theorem zK{a b d p}:b5 (.ListComp a b d p):=fun _ _=>rfl
theorem fP{X:SX}{c:MC}{pe:PE}{e:Expr}(h:SE X c pe e)(pt:b5 e):SE X c pe e/\SC X c pe e:=⟨h,xV h pt⟩
theorem bnd{a b:Bool}(h:(a && b)=true):a=true/\b=true:=HK.mp h
theorem ode{p:Prop}[Decidable p](h:decide p=true):p:=of_decide_eq_true h
theorem nte{b:Bool}(h:(!b)=true):b=false:=by cases b with|false=>rfl|true=>exact (GZ h).elim
section
variable {X:SX}{g:GC}(hA:AOk X.prog X.A)(hΦ:jE X.prog X.w X.G g X.DT X.A X.Φ)
include hA hΦ
omit hΦ in
theorem yX(b:Bi)(es:PEs)(sc:Scope)(names:List Str)(e:Expr)(ih:∀t,(gEs ⟨g,sc,names⟩ es t).2=true->SEs X ⟨g,sc,names⟩ es (gEs ⟨g,sc,names⟩ es t).1/\cS (gEs ⟨g,sc,names⟩ es t).1=true)(h:(gE ⟨g,sc,names⟩ (.bi b es) e).2=true) :
  SE X ⟨g,sc,names⟩ (.bi b es) (gE ⟨g,sc,names⟩ (.bi b es) e).1/\SC X ⟨g,sc,names⟩ (.bi b es) (gE ⟨g,sc,names⟩ (.bi b es) e).1:=by
 cases b with
 |listrev=>exact fP (qT hA (bnd (bnd h).1).1 (bnd (bnd h).1).2 (bnd (bnd h).2).1 (ih _ (bnd (bnd h).2).2).2 (ih _ (bnd (bnd h).2).2).1) iL
 |_=>exact fP (E5 hA rfl (bnd h).1 (bnd (bnd h).2).1 (ih _ (bnd (bnd h).2).2).2 (ih _ (bnd (bnd h).2).2).1) iL
omit hA hΦ in
theorem xG{a:PE}{sc:Scope}{names:List Str}(ts:List Ty)(e:Expr)(ih:(gE ⟨g,sc,names⟩ a (kid 1 e)).2=true->SE X ⟨g,sc,names⟩ a (gE ⟨g,sc,names⟩ a (kid 1 e)).1)(h:(gE ⟨g,sc,names⟩ (.isi a ts) e).2=true) :
  SE X ⟨g,sc,names⟩ (.isi a ts) (gE ⟨g,sc,names⟩ (.isi a ts) e).1/\SC X ⟨g,sc,names⟩ (.isi a ts) (gE ⟨g,sc,names⟩ (.isi a ts) e).1:=by
 have h0:=(bnd (bnd h).1).2
 rcases ts with _ | ⟨t,_ | ⟨_,_⟩⟩
 ·exact (GZ h0).elim
 ·exact fP (Au (bnd (bnd (bnd h).1).1).1 (bnd (bnd (bnd h).1).1).2 (nte h0) (bnd (bnd h).2).1 (ih (bnd (bnd h).2).2)) iL
 ·exact (GZ h0).elim
omit hA hΦ in
theorem EK{c:MC}{b:Bool}{pe:PE}{ps:PEs}{e:Expr}{t:List Expr}(h:SE X c pe e/\SC X c pe e)(ih:ou X c b ps (gEs c ps t).1/\iM X c b ps (gEs c ps t).1):ou X c b (.cons pe ps) (e::(gEs c ps t).1)/\iM X c b (.cons pe ps) (e::(gEs c ps t).1):=by
 cases ps with
 |nil=>exact ⟨wz h.1,uR h.2⟩
 |cons p2 ps=>exact ⟨uP h.1 ih.1,rS h.2 ih.2⟩
mutual
theorem bq:(pe:PE)->∀ (sc:Scope) (names:List Str) (e:Expr),(gE ⟨g,sc,names⟩ pe e).2=true->SE X ⟨g,sc,names⟩ pe (gE ⟨g,sc,names⟩ pe e).1/\SC X ⟨g,sc,names⟩ pe (gE ⟨g,sc,names⟩ pe e).1
 | .cint _,_,_,_,_=>fP zj lw
 | .cbool _,_,_,_,_=>fP vB lw
 | .cnone,_,_,_,_=>fP v6 lw
 | .var _,_,_,_,h=>fP (Ea h) n6
 | .fnv _,_,_,_,h=>fP (DW (ode (bnd h).1) (bnd h).2) n6
 | .glob _ _ _,_,_,_,h=>fP (zt (List.contains_iff_mem.mp (bnd h).1) (bnd h).2) n6
 | .bin op a b,sc,names,_,h=>fP (CN (op:=op) hA (bq a sc names _ (bnd h).1).1 (bq b sc names _ (bnd h).2).1) DI
 | .neg a,sc,names,_,h=>fP (Ef (bq a sc names _ h).1) C9
 | .nt a,sc,names,_,h=>⟨EV (bq a sc names _ h).1,Fy (bq a sc names _ h).2⟩
 | .cmp _ a b,sc,names,_,h=>⟨Di hA (nte (bnd h).1) (bq a sc names _ (bnd (bnd h).2).1).1 (bq b sc names _ (bnd (bnd h).2).2).1,DG hA (nte (bnd h).1) (bq a sc names _ (bnd (bnd h).2).1).1 (bq b sc names _ (bnd (bnd h).2).2).1⟩
 | .and es,sc,names,_,h=>⟨Eh (gi true es sc names _ h).1,B9 (gi true es sc names _ h).2⟩
 | .or es,sc,names,_,h=>⟨Fv (gi false es sc names _ h).1,E7 (gi false es sc names _ h).2⟩
 | .call _ es,sc,names,_,h=>fP (z7 (c:=⟨g,sc,names⟩) hΦ (ode (bnd (bnd h).1).1) (bnd (bnd h).1).2 (bnd (bnd h).2).1 (dk es sc names _ (bnd (bnd h).2).2).2 (dk es sc names _ (bnd (bnd h).2).2).1) iL
 | .callv _ _ es,sc,names,_,h=>fP (yj (c:=⟨g,sc,names⟩) hΦ (ode (bnd (bnd h).2).1) (bnd h).1 (bnd (bnd (bnd h).2).2).1 (dk es sc names _ (bnd (bnd (bnd h).2).2).2).2 (dk es sc names _ (bnd (bnd (bnd h).2).2).2).1) iL
 | .bi b es,sc,names,e,h=>yX hA b es sc names e (fun t h=>dk es sc names t h) h
 | .isi a ts,sc,names,e,h=>xG ts e (fun h=>(bq a sc names _ h).1) h
 | .idx a b,sc,names,_,h=>fP (EF (bnd h).1 (bq a sc names _ (bnd (bnd h).2).1).1 (bq b sc names _ (bnd (bnd h).2).2).1) yW
 | .slc a lo hi,sc,names,_,h=>fP (C4 (bq a sc names _ (bnd h).1).1 (xx lo sc names _ (bnd (bnd h).2).1) (xx hi sc names _ (bnd (bnd h).2).2)) yW
 | .tup es,sc,names,_,h=>fP (Em (ode (bnd h).1) (dk es sc names _ (bnd h).2).1) C7
 | .lst es,sc,names,_,h=>fP (CR (ode (bnd h).1) (dk es sc names _ (bnd h).2).1) zy
 | .comp elt tg caps it cond,sc,names,e,h=>by
  have htg:=(Bool.or_eq_true_iff.mp (bnd (bnd h).1).1).imp ode ode
  exact fP (t9 hA.handled htg (mG (bnd (bnd h).1).2) (bq elt _ _ _ (bnd (bnd h).2).1).1 (oY cond _ _ _ (bnd (bnd (bnd h).2).2).2) (kU it sc names _ (bnd (bnd (bnd h).2).2).1).1 (kU it sc names _ (bnd (bnd (bnd h).2).2).1).2) zK
theorem dk:(ps:PEs)->∀ (sc:Scope) (names:List Str) (es:List Expr),(gEs ⟨g,sc,names⟩ ps es).2=true->SEs X ⟨g,sc,names⟩ ps (gEs ⟨g,sc,names⟩ ps es).1/\cS (gEs ⟨g,sc,names⟩ ps es).1=true
 | .nil,_,_,_,_=>⟨Ad,rfl⟩
 | .cons pe ps,sc,names,_,h=>⟨xC (bnd h).1 (bq pe sc names _ (bnd (bnd h).2).1).1 (dk ps sc names _ (bnd (bnd h).2).2).1,HK.mpr ⟨(bnd h).1,(dk ps sc names _ (bnd (bnd h).2).2).2⟩⟩
theorem gi:(b:Bool)->(ps:PEs)->∀ (sc:Scope) (names:List Str) (es:List Expr),(gEs ⟨g,sc,names⟩ ps es).2=true->ou X ⟨g,sc,names⟩ b ps (gEs ⟨g,sc,names⟩ ps es).1/\iM X ⟨g,sc,names⟩ b ps (gEs ⟨g,sc,names⟩ ps es).1
 |_,.nil,_,_,_,_=>⟨xJ,u3⟩
 |b,.cons pe ps,sc,names,es,h=>EK (bq pe sc names _ (bnd (bnd h).2).1) (gi b ps sc names _ (bnd (bnd h).2).2)
theorem xx:(po:PO)->∀ (sc:Scope) (names:List Str) (o:Expr),(gO ⟨g,sc,names⟩ po o).2=true->SO X ⟨g,sc,names⟩ po (gO ⟨g,sc,names⟩ po o).1
 | .no,_,_,_,_=>rfl
 | .some pe,sc,names,_,h=>⟨_,rfl,(bq pe sc names _ h).1⟩
theorem oY:(po:PO)->∀ (sc:Scope) (names:List Str) (o:Expr),(y5 ⟨g,sc,names⟩ po o).2=true->wT X ⟨g,sc,names⟩ po (y5 ⟨g,sc,names⟩ po o).1
 | .no,_,_,_,_=>rfl
 | .some pe,sc,names,_,h=>⟨_,rfl,(bq pe sc names _ h).2⟩
theorem kU:(pi:PI)->∀ (sc:Scope) (names:List Str) (e:Expr),(gI ⟨g,sc,names⟩ pi e).2=true->SI X ⟨g,sc,names⟩ pi (gI ⟨g,sc,names⟩ pi e).1/\jd (gI ⟨g,sc,names⟩ pi e).1=true
 | .seq pe,sc,names,_,h=>⟨CZ hA (bq pe sc names _ (bnd h).2).1,(bnd h).1⟩
 | .rev pe,sc,names,_,h=>⟨Cb hA (bnd h).1 (bnd (bnd h).2).1 (bq pe sc names _ (bnd (bnd h).2).2).1,rfl⟩
 | .rng es,sc,names,_,h=>⟨Dc hA (bnd h).1 (bnd (bnd h).2).1 (dk es sc names _ (bnd (bnd h).2).2).2 (dk es sc names _ (bnd (bnd h).2).2).1,rfl⟩
end
end
structure FC where
 c:MC
 env:Env
 hb:Heap
structure dP (f:FC):Prop where
 env:ch f.c f.env
 nodup:f.c.names.Nodup
 kind:∀x,f.c.scope.names.lookup x≠some NameKind.free
 deadL:f.hb.get? f.env.locals=none
 deadC:∀n a,(n,a)∈f.env.cells->f.hb.get? a=none
 above:∀n a,(n,a)∈f.env.cells->f.env.locals<a
 apart:f.env.cells.Pairwise fun x y=>x.2≠y.2
 uniq:∀n a,(n,a)∈f.env.cells->f.env.cells.lookup n=some a
structure FrS (G:GV)(f:FC)(W:Nat->Prop)(h:Heap)(α:List Addr)(ρ:Loc):Prop where
 fr:∃m cm,h.Ns f.env.locals m/\Cl f.env.locals f.env.cells h cm/\∀ (i:Nat) (x:Str) (d:V),f.c.names[i]?=some x->af ρ i=some d ->
  ∃v,((f.env.kindOf x=some .local/\m x=some v)\/(f.env.kindOf x=some .cell/\cm x=some v/\∃a,f.env.cells.lookup x=some a))/\Rep G α h v d
 kb:KeepsH f.hb h
 wb:∀n a,α[n]?=some a->W n->f.hb.get? a=none
theorem FrS.fi{G:GV}{f:FC}{W:Nat->Prop}{h:Heap}{α:List Addr}{ρ:Loc}(F:FrS G f W h α ρ):FI G f.c f.env α h ρ:=fun i x d e1 e2=>by
 refine aF (F.fr) fun m cm hn hc hv=>?_
 refine ae (hv i x d e1 e2) fun v hv r=>?_
 refine ⟨v,?_,r⟩
 rcases hv with ⟨k,e⟩ | ⟨k,e,a,ha⟩
 ·exact .inl ⟨k,m,hn,e⟩
 ·exact .inr ⟨.inl k,a,ha,by have:=hc.cell x a ha;rw[e] at this;exact this⟩
theorem FrS.up{G:GV}{f:FC}{W:Nat->Prop}{h h':Heap}{α β:List Addr}{ρ:Loc}(F:FrS G f W h α ρ)(k:KeepsH h h')(hf:∀b∈β,h.get? b=none):FrS G f W h' (α++β) ρ:=by
 refine aF (F.fr) fun m cm hn hc hv=>?_
 refine ⟨⟨m,cm,hn.keeps k,hc.keeps k,fun i x d e1 e2=>?_⟩,F.kb.trans k,fun n a ha hw=>?_⟩
 ·refine ae (hv i x d e1 e2) fun v hv r=>?_
  exact ⟨v,hv,r.up k⟩
 ·by_cases hl:n<α.length
  ·rw[Hg hl] at ha;exact F.wb n a ha hw
  ·rw[Hk (by exact oqz [α.length,n] [] [(.no (.le (Y1+1) Y0))] (.le Y0 Y1) [11] rfl hl)] at ha
   have hm:=hf a (H8 ha)
   cases e:f.hb.get? a with
   |none=>rfl
   |some o=>have:=F.kb a o e;rw[hm] at this;cases this
theorem FrS.weak{G:GV}{f:FC}{W W':Nat->Prop}{h:Heap}{α:List Addr}{ρ:Loc}(F:FrS G f W h α ρ)(hw:∀n,W' n->W n):FrS G f W' h α ρ:=⟨F.fr,F.kb,fun n a e w=>F.wb n a e (hw n w)⟩
theorem mr{v:V}:∀ (ρ:Loc) (i j:Nat),af (aH ρ i v) j=some v/\j=i\/af (aH ρ i v) j=af ρ j/\(j≠i\/af ρ j=none)
 | [],i,j=>.inr ⟨rfl,.inr rfl⟩
 |x::r,0,0=>.inl ⟨rfl,rfl⟩
 |x::r,0,j+1=>.inr ⟨rfl,.inl (JS j)⟩
 |x::r,i+1,0=>.inr ⟨rfl,.inl (JS i).symm⟩
 |x::r,i+1,j+1=>(mr r i j).imp (fun h=>⟨h.1,congrArg Nat.succ h.2⟩) fun h=>⟨h.1,h.2.imp (fun b q=>b (Ix q)) id⟩
noncomputable def Lives(h h':Heap):Prop:=∀b o,h.get? b=some o->∃o',h'.get? b=some o'
theorem Lives.of{h h':Heap}(k:KeepsH h h'):Lives h h':=fun b o e=>⟨o,k b o e⟩
theorem Lives.trans{h h' h'':Heap}(a:Lives h h')(b:Lives h' h''):Lives h h'':=fun x o e=>(a x o e).elim fun o' e'=>b x o' e'
theorem Lives.sameBut{h h':Heap}{a:Addr}(hs:Heap.SameBut a h h')(ha:∃o,h'.get? a=some o):Lives h h':=fun b o e=>by
 by_cases hb:b=a
 ·subst hb;exact ha
 ·exact ⟨o,hs.extBut b o hb e⟩
noncomputable def rX(f:FC)(h h':Heap):Prop:=∀b o,h.get? b=some o->b≠f.env.locals->(∀n,(n,b) ∉ f.env.cells)->h'.get? b=some o
theorem FrS.alive{G:GV}{f:FC}{W:Nat->Prop}{h:Heap}{α:List Addr}{ρ:Loc}(F:FrS G f W h α ρ):(∃o,h.get? f.env.locals=some o):=by
 refine cR (F.fr) fun m cm zq68 _=>?_;obtain ⟨o,es,ep,ho,_⟩:=zq68
 exact ⟨o,ho⟩
section
variable {M:Model}{A:Around}{E:Value->Shared->Prop}{s:Shared}{G:GV}{f:FC}{W:Nat->Prop}{α:List Addr}{ρ:Loc}
theorem gG{i:Nat}{x:Str}{v:Value}{d:V}{Q:Unit->Shared->Prop}(K:dP f)(F:FrS G f W s.heap α ρ)(hx:f.c.isVar i x=true)(r:Rep G α s.heap v d)
  (h:∀h' tk,FrS G f W h' α (aH ρ i d)->rX f s.heap h'->KeepsLT s.heap h'->Lives s.heap h'->Q () { s with heap:=h',toks:=tk }):wpAny M A (storeName f.env x v) Q E s:=by
 refine aF (F.fr) fun m cm hn hc hv=>?_
 refine g7 (MC.isVar_spec hx) fun hxi _ _ hk=>?_
 have other:∀j y e,f.c.names[j]?=some y->af (aH ρ i d) j=some e->(j=i/\e=d)\/(y≠x/\af ρ j=some e):=fun j y e hj he=>by
  rcases mr (v:=d) ρ i j with ⟨a,b⟩ | ⟨a,b⟩
  ·rw[a] at he;cases he;exact .inl ⟨b,rfl⟩
  ·rw[a] at he
   rcases b with b|b
   ·refine .inr ⟨fun q=>b ?_,he⟩
    subst q
    obtain ⟨l1,g1⟩:=GX.mp hj
    obtain ⟨l2,g2⟩:=GX.mp hxi
    exact (List.getElem_inj K.nodup).mp (g1.trans g2.symm)
   ·rw[b] at he;cases he
 have hkind:f.env.kindOf x=some .local\/f.env.kindOf x=some .cell:=by
  rcases hk with hk|hk|hk
  ·exact .inl (K.env.loc x hk)
  ·exact .inr (K.env.cel x hk)
  ·exact absurd hk (K.kind x)
 rcases hkind with hl|hl
 ·refine wpAny_storeName_local hl hn (fun h' hn' hs'=>?_) (by rw[K.env.kind];rfl)
  have lt:KeepsLT s.heap h':=KeepsLT.sameBut hs' (d6 hn)
  refine h h' _ ⟨⟨_,cm,hn',hc.sameBut hs' (GU _),fun j y e hj he=>?_⟩,fun b o e=>hs'.extBut b o (fun q=>by rw[q,K.deadL] at e;cases e) (F.kb b o e),F.wb⟩ (fun b o e hb _=>hs'.extBut b o hb e) lt (.sameBut hs' (hn'.elim fun o g=>g.elim fun _ g=>g.elim fun _ g=>⟨o,g.1⟩))
  rcases other j y e hj he with ⟨rfl,rfl⟩ | ⟨hy,he⟩
  ·rw[hxi] at hj;cases hj
   exact ⟨v,.inl ⟨hl,if_pos rfl⟩,r.mono (fun _ _ e=>e) lt.tup⟩
  ·refine ae (hv j y e hj he) fun u hu ru=>?_
   refine ⟨u,?_,ru.mono (fun _ _ e=>e) lt.tup⟩
   rcases hu with ⟨k,e⟩ |hu
   ·exact .inl ⟨k,by rw[if_neg hy];exact e⟩
   ·exact .inr hu
 ·obtain ⟨ca,hca⟩:=K.env.cells x (.inl hl)
  have hcell:=hc.cell x ca hca
  have hmem:=JX hca
  refine wpAny_storeName_cell K.env.kind hl hca hcell fun h' hv' hs'=>?_
  have lt:KeepsLT s.heap h':=KeepsLT.sameBut hs' fun o ho items n d=>by
   refine ae (hcell) fun o' ho' hd'=>?_
   rw[ho] at ho';cases ho';rw[hd'] at d;cases d
  have hLc:f.env.locals<ca:=K.above x ca hmem
  refine h h' s.toks ⟨⟨m,fun y=>if y=x then some v else cm y,hn.sameBut hs' (IV hLc),⟨fun n c' e=>?_,hc.apart,hc.above⟩,fun j y e hj he=>?_⟩,fun b o e=>hs'.extBut b o (fun q=>by rw[q,K.deadC x ca hmem] at e;cases e) (F.kb b o e),F.wb⟩ (fun b o e _ hb=>hs'.extBut b o (fun q=>hb x (q ▸ hmem)) e) lt (.sameBut hs' (hv'.elim fun o g=>⟨o,g.1⟩))
  ·by_cases hnx:n=x
   ·subst hnx;rw[hca] at e;cases e;simpa using hv'
   ·have hcc:c'≠ca:=fun q=>hnx (name_of_addr hc.apart (JX e) (q ▸ hmem))
    simpa [hnx] using (hc.cell n c' e).sameBut hs' hcc
  ·rcases other j y e hj he with ⟨rfl,rfl⟩ | ⟨hy,he⟩
   ·rw[hxi] at hj;cases hj
    exact ⟨v,.inr ⟨hl,if_pos rfl,ca,hca⟩,r.mono (fun _ _ e=>e) lt.tup⟩
   ·refine ae (hv j y e hj he) fun u hu ru=>?_
    refine ⟨u,?_,ru.mono (fun _ _ e=>e) lt.tup⟩
    rcases hu with hu | ⟨k,e,a,ha⟩
    ·exact .inl hu
    ·exact .inr ⟨k,by show (if y=x then some v else cm y)=some u;rw[if_neg hy];exact e,a,ha⟩
end
structure StepS (f:FC)(W:Nat->Prop)(s:Shared)(α:List Addr)(H:Hp)(h':Heap)(β:List Addr)(H':Hp):Prop where
 keep:∀b o,s.heap.get? b=some o->b≠f.env.locals->(∀n,(n,b) ∉ f.env.cells)->(∀n,α[n]?=some b->¬ W n)->h'.get? b=some o
 fresh:∀b∈β,s.heap.get? b=none
 same:∀n,n<H.length->¬ W n->H'[n]?=H[n]?
 le:H.length<=H'.length
theorem StepS.refl{f:FC}{W:Nat->Prop}{s:Shared}{α:List Addr}{H:Hp}:StepS f W s α H s.heap [] H:=⟨fun _ _ e _ _ _=>e,by simp,fun _ _ _=>rfl,GU _⟩
theorem StepS.of{f:FC}{W:Nat->Prop}{s:Shared}{α:List Addr}{H:Hp}{h':Heap}{β:List Addr}{K:Hp}(k:KeepsH s.heap h')(hf:∀b∈β,s.heap.get? b=none):StepS f W s α H h' β (H++K):=
 ⟨fun b o e _ _ _=>k b o e,hf,fun n hn _=>Hg hn,by simp⟩
theorem StepS.trans{f:FC}{W:Nat->Prop}{s:Shared}{α:List Addr}{H:Hp}{h₁ h₂:Heap}{tk:Nat}{β1 β2:List Addr}{H1 H2:Hp}
  (a:StepS f W s α H h₁ β1 H1) (ak:∀b o,s.heap.get? b=some o->∃o',h₁.get? b=some o') (b:StepS f W { s with heap:=h₁,toks:=tk } (α++β1) H1 h₂ β2 H2):StepS f W s α H h₂ (β1++β2) H2:=by
 refine ⟨fun x o e h1 h2 h3=>?_,fun x hx=>?_,fun n hn hw=>?_,GP a.le b.le⟩
 ·refine b.keep x o (a.keep x o e h1 h2 h3) h1 h2 fun n hn=>?_
  by_cases hlt:n<α.length
  ·rw[Hg hlt] at hn;exact h3 n hn
  ·rw[Hk (by exact oqz [α.length,n] [] [(.no (.le (Y1+1) Y0))] (.le Y0 Y1) [11] rfl hlt)] at hn
   have:=a.fresh x (H8 hn)
   rw[e] at this;cases this
 ·rcases Hy.mp hx with hx|hx
  ·exact a.fresh x hx
  ·cases e:s.heap.get? x with
   |none=>rfl
   |some o =>
    obtain ⟨o',e'⟩:=ak x o e
    have:=b.fresh x hx
    rw[show ({ s with heap:=h₁,toks:=tk }:Shared).heap.get? x=some o' from e'] at this;cases this
 ·rw[b.same n (JF hn a.le) hw];exact a.same n hn hw
inductive PostS (G:GV) (f:FC) (W:Nat->Prop) (s:Shared) (α:List Addr) (H:Hp) (N:Loc->Hp->Prop) (R:V->Hp->Prop) (fl:Flow) (s':Shared):Prop
 |mk (h':Heap) (tk:Nat) (β:List Addr) (H':Hp) (e:s'={ s with heap:=h',toks:=tk }) (st:StepS f W s α H h' β H') (lv:Lives s.heap h') (hr:HR G (α++β) h' H') (c:match fl with
  | .next=>∃ρ',FrS G f W h' (α++β) ρ'/\N ρ' H'
  | .ret v=>KeepsH f.hb h'/\∃d,Rep G (α++β) h' v d/\R d H'
  |_=>False)
noncomputable def AQ(c:MC)(k:Nat)(st:Stmt):Prop:=∃x np u kk pp cpos pos,st=.Raise (some (.Call (.Name x np) [.Constant (.str u) kk pp] [] cpos)) none pos/\c.g.cls[k]?=some x/\c.isGlob x=true
noncomputable def RaiseOk(X:SX)(f:FC)(W:Nat->Prop)(s:Shared)(α:List Addr)(H:Hp)(Y:Nat->Hp->Prop)(E:Value->Shared->Prop):Prop:=
 ∀ (k:Nat) (st:Stmt) (h':Heap) (tk:Nat) (β:List Addr) (H':Hp) (ρ':Loc),AQ f.c k st->StepS f W s α H h' β H'->Lives s.heap h'->HR X.G (α++β) h' H'->FrS X.G f W h' (α++β) ρ'->Y k H' ->
  wpAny (model X.prog X.w) X.A (exec st f.env) (fun _ _=>False) E { s with heap:=h',toks:=tk }
noncomputable def SS(X:SX)(f:FC)(ps:PS)(st:Stmt):Prop:=
 ∀ (W:Nat->Prop) (s:Shared) (α:List Addr) (ρ:Loc) (H:Hp) (N:Loc->Hp->Prop) (R:V->Hp->Prop) (Y:Nat->Hp->Prop) (E:Value->Shared->Prop),(∀n,W n->1<=n)->GF X.G f.c.g X.DT f.hb->FrS X.G f W s.heap α ρ->HR X.G α s.heap H ->
  RaiseOk X f W s α H Y E->wpS X.sub X.Φ W ps ρ H N R Y->wpAny (model X.prog X.w) X.A (exec st f.env) (PostS X.G f W s α H N R) E s
noncomputable def SB(X:SX)(f:FC)(ps:PS)(sts:List Stmt):Prop:=
 ∀ (W:Nat->Prop) (s:Shared) (α:List Addr) (ρ:Loc) (H:Hp) (N:Loc->Hp->Prop) (R:V->Hp->Prop) (Y:Nat->Hp->Prop) (E:Value->Shared->Prop),(∀n,W n->1<=n)->GF X.G f.c.g X.DT f.hb->FrS X.G f W s.heap α ρ->HR X.G α s.heap H ->
  RaiseOk X f W s α H Y E->wpS X.sub X.Φ W ps ρ H N R Y->wpAny (model X.prog X.w) X.A (execs sts f.env) (PostS X.G f W s α H N R) E s
theorem gH{h:Heap}{a:Addr}{items:Array Value}(x:h.PlainList a items)(f:Array Value->Array Value):(h.update a (Obj.mapSeq f)).PlainList a (f items):=by
 obtain ⟨n,e⟩:=x
 have:=I1 (h:=h) (a:=a) (Obj.mapSeq f) e rfl
 exact ⟨_,this⟩
section
variable {prog:Program}{w:World}{A:Around}{E:Value->Shared->Prop}{s:Shared}
theorem l8{l:Addr}{items:Array Value}{k:Int}{j:Nat}{t:Tok}{v:Value}{Q:Unit->Shared->Prop}(hl:s.heap.PlainList l items)(hp:cD items.size k=some j)(hz:items.size<=1000000)
  (hQ:Q () { s with heap:=s.heap.update l (Obj.mapSeq (·.setIfInBounds j v)) }) :
  wpAny (model prog w) A (setItem (.ref l) (.int k t) v) Q E s:=by
 obtain ⟨ne,ho⟩:=id hl
 have hty:=hl.isList.typeIs
 obtain ⟨h1,h2⟩:=hO hp
 have hx':items[j]?=some items[j]:=Array.getElem?_eq_getElem h1
 unfold setItem
 try with_reducible refine Js ?_
 first|refine GS (G6 ?_) |skip
 refine GS (wpAny_sequenceKey hty (by decide) ?_)
 refine GS (wpAny_callSpecial?_slot (name:=Str.ofString "__setitem__") hty slot_list_setitem
  (wpAny_call_entry slot_list_setitem hty entry_list_setitem ?_ (args_list_setitem _ _ _)))
 show wpAny _ _ (Builtin.List.listSubscript? (.int k t) >>= _) _ _ s
 rcases h2 with ⟨h0,h2⟩ | ⟨h0,h2⟩
 ·refine GS (wpAny_listSubscript_int (fitsIndex_of h0 (sY hz h1 (.inl ⟨h0,h2⟩)).2) ?_)
  subst h2
  show wpAny _ _ ((seqItemAt l j >>= fun r=>pure (r.map (j,·))) >>= _) _ _ s
  refine GS (GS (wpAny_seqItemAt ho rfl (G6 ?_)))
  rw[hx']
  show wpAny _ _ (setSeqItemAt l j v >>= _) _ _ s
  refine GS (wpAny_setSeqItemAt ho rfl ?_)
  first
   |exact GS (G6 (G6 ⟨.none,rfl,G6 hQ⟩))
   |exact G6 ⟨.none,rfl,G6 hQ⟩
 ·refine GS (wpAny_listSubscript_int (fitsIndex_neg h0 (sY hz h1 (.inr ⟨h0,h2⟩)).1) ?_)
  have hidx:seqIndex? k items.size=some j:=mj hp
  obtain ⟨i,rfl⟩:∃i:Nat,k=Int.negSucc i:=by
   cases k with
   |ofNat n=>exact absurd h0 (Iv.mpr (Int.ofNat_nonneg n))
   |negSucc n=>exact ⟨n,rfl⟩
  show wpAny _ _ ((Builtin.List.listItems (.ref l) >>= fun xs=>pure ((seqIndex? (Int.negSucc i) xs.size).bind fun i=>xs[i]?.map (i,·))) >>= _) _ _ s
  refine GS (GS ?_)
  show wpAny _ _ (seqItems? (.ref l) >>= _) _ _ s
  refine GS (wpAny_seqItems ho rfl (G6 (G6 ?_)))
  rw[hidx]
  simp only[Option.bind_some,hx',Option.map_some]
  show wpAny _ _ (setSeqItemAt l j v >>= _) _ _ s
  refine GS (wpAny_setSeqItemAt ho rfl ?_)
  first
   |exact GS (G6 (G6 ⟨.none,rfl,G6 hQ⟩))
   |exact G6 ⟨.none,rfl,G6 hQ⟩
end
section
variable {G:GV}{f:FC}{W:Nat->Prop}{s:Shared}{α:List Addr}{ρ:Loc}{H:Hp}
theorem fR(K:dP f)(F:FrS G f W s.heap α ρ)(R:HR G α s.heap H){n:Nat}{a:Addr}{xs xs':List V}{vs':List Value}(hw:W n)(ha:α[n]?=some a)(hx:H[n]?=some xs){h':Heap}(hs:Heap.SameBut a s.heap h')
  (hl:h'.PlainList a vs'.toArray) (q:Reps G α s.heap vs' xs') (z:xs'.length<=lim) :
  FrS G f W h' α ρ/\HR G α h' (H.set n xs')/\StepS f W s α H h' [] (H.set n xs')/\Lives s.heap h':=by
 obtain ⟨kt,R'⟩:=R.set ha hx hs hl q z
 refine aF (F.fr) fun m cm hn hc hv=>?_
 refine ae (R.lst n a xs ha hx) fun us zq69 _=>?_;obtain ⟨o,ho,hcl,no,hd⟩:=zq69
 have hL:a≠f.env.locals:=fun q=>by
  refine dL (hn) fun o' es ep ho' hd' _=>?_
  rw[<- q,ho] at ho';cases ho';rw[hd] at hd';cases hd'
 refine ⟨⟨⟨m,cm,hn.sameBut hs (Ne.symm hL),⟨fun x c e=>?_,hc.apart,hc.above⟩,fun i x d e1 e2=>?_⟩,fun b ob e=>hs.extBut b ob (fun q=>?_) (F.kb b ob e),F.wb⟩,R',⟨fun b ob e _ _ h3=>hs.extBut b ob (fun q=>h3 n (q ▸ ha) hw) e,by simp,fun k hk hnw=>?_,by simp⟩,.sameBut hs (hl.elim fun k e=>⟨_,e⟩)⟩
 ·refine (hc.cell x c e).sameBut hs fun q=>?_
  refine ae (hc.cell x c e) fun o' ho' hd'=>?_
  rw[q,ho] at ho';cases ho';rw[hd] at hd';cases hd'
 ·refine ae (hv i x d e1 e2) fun v hv r=>?_
  exact ⟨v,hv,r.mono (fun _ _ e=>e) kt⟩
 ·rw[q,F.wb n a ha hw] at e;cases e
 ·rw[Ju (fun (q:n=k)=>hnw (q ▸ hw))]
end
section
variable {X:SX}{f:FC}
theorem GF.at{G:GV}{gc:GC}{DT:List dK}{W:Nat->Prop}{h:Heap}{α:List Addr}{ρ:Loc}(T:GF G gc DT f.hb)(F:FrS G f W h α ρ):GF G gc DT h:=T.keeps F.kb
theorem kC(K:dP f){W:Nat->Prop}{s:Shared}{α:List Addr}{ρ:Loc}{H:Hp}{N:Loc->Hp->Prop}{R:V->Hp->Prop}{E:Value->Shared->Prop}{i:Nat}{x:Str}(F:FrS X.G f W s.heap α ρ)(hx:f.c.isVar i x=true)
  {v:Value}{s1:Shared} (p:Post X.G (Rep X.G) s α H (fun v H1=>N (aH ρ i v) H1) v s1) :
  wpAny (model X.prog X.w) X.A (storeName f.env x v) (fun _=>PostS X.G f W s α H N R .next) E s1:=by
 obtain ⟨h₁,tk₁,β,K₁,d,rfl,k,fr,R',r,q⟩:=p
 refine gG (s:={ s with heap:=h₁,toks:=tk₁ }) K (F.up k fr) hx r fun h' tk F' kf lt lv=>?_
 refine ⟨h',tk,β,H++K₁,rfl,⟨fun b o e h1 h2 _=>kf b o (k b o e) h1 h2,fr,fun n hn _=>Hg hn,by simp⟩,(Lives.of k).trans lv,R'.lt' lt,_,F',q⟩
theorem c9{e:Expr}(h:fI e=true)(t:Option Expr)(l:Nat)(env:Env):swapsWith e t l env=pure false:=by
 cases e <;> first|rfl|cases h
theorem uI{i:Nat}{x:Str}{pe:PE}{v:Expr}{px pos:Pos}(K:dP f)(hx:f.c.isVar i x=true)(h:SE X f.c pe v)(hc:fI v=true):SS X f (.assign i pe) (.Assign [.Name x px] v pos):=fun W s α ρ H N R Y E hW T F HR' hY q=>by
 simp only[qS3] at q
 refine wpAny_Assign_Name (wpAny_mono (h f.env s α ρ H _ E K.env (T.at F) HR' F.fi q) (fun v s1 p=>?_) fun _ _ x=>x) (c9 hc _ _ _)
 exact kC K F hx p
theorem Cq{pe:PE}{v:Expr}{pos:Pos}(K:dP f)(h:SE X f.c pe v):SS X f (.ret pe) (.Return (some v) pos):=fun W s α ρ H N R Y E hW T F HR' hY q=>by
 simp only[qS9] at q
 refine wpAny_Return_some (wpAny_mono (h f.env s α ρ H _ E K.env (T.at F) HR' F.fi q) (fun v s1 p=>?_) fun _ _ x=>x)
 obtain ⟨h₁,tk₁,β,K₁,d,rfl,k,fr,R',r,q⟩:=p
 exact ⟨h₁,tk₁,β,H++K₁,rfl,.of k fr,.of k,R',F.kb.trans k,d,r,q⟩
theorem PostS.trans{G:GV}{W:Nat->Prop}{s:Shared}{α:List Addr}{H:Hp}{N:Loc->Hp->Prop}{R:V->Hp->Prop}{h₁:Heap}{tk₁:Nat}{β:List Addr}{H1:Hp}{fl:Flow}{s':Shared}(st:StepS f W s α H h₁ β H1)(lv:Lives s.heap h₁)
  (p:PostS G f W { s with heap:=h₁,toks:=tk₁ } (α++β) H1 N R fl s'):PostS G f W s α H N R fl s':=by
 obtain ⟨h',tk,β',H',rfl,st',lv',R',q⟩:=p
 refine ⟨h',tk,β++β',H',rfl,st.trans lv st',lv.trans lv',by simpa using R',?_⟩
 cases fl with
 |next=>refine ae (q) fun ρ' F' q=>?_;exact ⟨ρ',by simpa using F',q⟩
 |ret v=>refine qP (q) fun k d r q=>?_;exact ⟨k,d,by simpa using r,q⟩
 |brk=>exact q
 |cont=>exact q
theorem RaiseOk.later{W:Nat->Prop}{s:Shared}{α:List Addr}{H:Hp}{Y:Nat->Hp->Prop}{E:Value->Shared->Prop}{h₁:Heap}{tk₁:Nat}{β:List Addr}{H1:Hp}(hY:RaiseOk X f W s α H Y E)(st:StepS f W s α H h₁ β H1)(lv:Lives s.heap h₁) :
  RaiseOk X f W { s with heap:=h₁,toks:=tk₁ } (α++β) H1 Y E:=fun k stm h' tk β' H' ρ' hm st' lv' R' F' y=>by
 exact hY k stm h' tk (β++β') H' ρ' hm (st.trans lv st') (lv.trans lv') (by simpa using R') (by simpa using F') y
theorem DF(K:dP f):SB X f .skip []:=fun W s α ρ H N R Y E hW T F HR' hY q=>by
 simp only[qS1] at q
 exact wpAny_execs_nil ⟨s.heap,s.toks,[],H,rfl,.refl,fun b o e=>⟨o,e⟩,by simpa using HR',ρ,by simpa using F,q⟩
theorem zf{a b:PS}{st:Stmt}{sts:List Stmt}(K:dP f)(h1:SS X f a st)(h2:SB X f b sts):SB X f (.seq a b) (st::sts):=fun W s α ρ H N R Y E hW T F HR' hY q=>by
 simp only[qS2] at q
 refine wpAny_execs_cons (wpAny_mono (h1 W s α ρ H _ R Y E hW T F HR' hY q) (fun fl s1 p=>?_) fun _ _ x=>x)
 cases fl with
 |next =>
  obtain ⟨h₁,tk₁,β,H1,rfl,st,lv,R1,ρ',F',q'⟩:=p
  exact wpAny_mono (h2 W { s with heap:=h₁,toks:=tk₁ } (α++β) ρ' H1 N R Y E hW T F' R1 (hY.later st lv) q') (fun _ _ p=>p.trans st lv) fun _ _ x=>x
 |ret v =>
  obtain ⟨h₁,tk₁,β,H1,rfl,st,lv,R1,k,d,r,q'⟩:=p
  exact ⟨h₁,tk₁,β,H1,rfl,st,lv,R1,k,d,r,q'⟩
 |brk=>obtain ⟨_,_,_,_,_,_,_,_,q⟩:=p;exact q.elim
 |cont=>obtain ⟨_,_,_,_,_,_,_,_,q⟩:=p;exact q.elim
theorem Eg{c:PE}{a b:PS}{v:Expr}{x y:List Stmt}{pos:Pos}(K:dP f)(h:SC X f.c c v)(h1:SB X f a x)(h2:SB X f b y):SS X f (.ite c a b) (.If v x y pos):=fun W s α ρ H N R Y E hW T F HR' hY q=>by
 simp only[bw] at q
 refine wpAny_If (wpAny_mono (h f.env s α ρ H (fun t H1=>if t then wpS X.sub X.Φ W a ρ H1 N R Y else wpS X.sub X.Φ W b ρ H1 N R Y) E K.env (T.at F) HR' F.fi q) (fun t s1 p=>?_) fun _ _ x=>x)
 obtain ⟨h₁,tk₁,β,K₁,t',rfl,k,fr,R',rfl,q'⟩:=p
 have st:StepS f W s α H h₁ β (H++K₁):=.of k fr
 cases t with
 |true =>
  simp only[if_true] at q' ⊢
  exact wpAny_mono (h1 W { s with heap:=h₁,toks:=tk₁ } (α++β) ρ (H++K₁) N R Y E hW T (F.up k fr) R' (hY.later st (.of k)) q') (fun _ _ p=>p.trans st (.of k)) fun _ _ x=>x
 |false =>
  simp only[II,if_false] at q' ⊢
  exact wpAny_mono (h2 W { s with heap:=h₁,toks:=tk₁ } (α++β) ρ (H++K₁) N R Y E hW T (F.up k fr) R' (hY.later st (.of k)) q') (fun _ _ p=>p.trans st (.of k)) fun _ _ x=>x
theorem lU{W:Nat->Prop}{s:Shared}{α:List Addr}{H:Hp}{E:Value->Shared->Prop}:RaiseOk X f W s α H (fun _ _=>False) E:=fun _ _ _ _ _ _ _ _ _ _ _ _ y=>y.elim
inductive Go (X:SX) (f:FC) (s:Shared) (α:List Addr) (H:Hp) (W:Nat->Prop) (I:Loc->Hp->Prop) (μ:Loc->Hp->Nat) (n:Nat) (s':Shared):Prop
 |mk (h':Heap) (tk:Nat) (β:List Addr) (H':Hp) (ρ':Loc) (e:s'={ s with heap:=h',toks:=tk }) (st:StepS f W s α H h' β H') (lv:Lives s.heap h') (R:HR X.G (α++β) h' H') (F:FrS X.G f W h' (α++β) ρ') (hI:I ρ' H') (hn:n=μ ρ' H')
theorem Ew{c:PE}{b:PS}{v:Expr}{x:List Stmt}{pos:Pos}(K:dP f)(h:SC X f.c c v)(h1:SB X f b x):SS X f (.whl c b) (.While v x [] pos):=fun W s α ρ H N R Y E hW T F HR' hY q=>by
 simp only[jW] at q
 refine cR (q) fun I μ hI turn=>?_
 refine wpAny_While (codeAny_whileLoop
  (Go X f s α H W I μ) ?_ (μ ρ H)
  ⟨s.heap,s.toks,[],H,ρ,rfl,.refl,fun b o e=>⟨o,e⟩,by simpa using HR',by simpa using F,hI,rfl⟩)
 rintro n s' ⟨h',tk,β,H',ρ',rfl,st,lv,R',F',hI',rfl⟩
 have q:=turn ρ' H' hI'
 refine wpAny_mono (h f.env { s with heap:=h',toks:=tk } (α++β) ρ' H' (fun t H2=>if t then wpS X.sub X.Φ W b ρ' H2 (fun ρ3 H3=>I ρ3 H3/\μ ρ3 H3<μ ρ' H') R (fun _ _=>False) else N ρ' H2) _ K.env (T.at F') R' F'.fi q) (fun t s1 p=>?_) fun _ _ x=>x
 obtain ⟨h₁,tk₁,γ,K₁,t',rfl,k,fr,R1,rfl,q'⟩:=p
 dsimp only at k fr
 have st1:StepS f W { s with heap:=h',toks:=tk } (α++β) H' h₁ γ (H'++K₁):=.of k fr
 have st2:=st.trans lv st1
 have lv2:=lv.trans (.of k)
 have F1:=F'.up k fr
 cases t with
 |true =>
  simp only[if_true] at q' ⊢
  refine wpAny_mono (h1 W { s with heap:=h₁,toks:=tk₁ } ((α++β)++γ) ρ' (H'++K₁) _ R _ _ hW T F1 R1 lU q') (fun fl s2 p=>?_) fun _ _ x=>x
  cases fl with
  |next =>
   obtain ⟨h2,tk2,δ,H₂,rfl,st3,lv3,R2,ρ2,F2,hI2,hμ⟩:=p
   refine ⟨_,hμ,h2,tk2,(β++γ)++δ,H₂,ρ2,rfl,st2.trans (tk:=tk₁) lv2 (by simpa using st3),lv2.trans lv3,by simpa using R2,by simpa using F2,hI2,rfl⟩
  |ret v =>
   obtain ⟨h2,tk2,δ,H₂,rfl,st3,lv3,R2,kk,d,r,q2⟩:=p
   exact ⟨h2,tk2,(β++γ)++δ,H₂,rfl,st2.trans (tk:=tk₁) lv2 (by simpa using st3),lv2.trans lv3,by simpa using R2,kk,d,by simpa using r,q2⟩
  |brk=>obtain ⟨_,_,_,_,_,_,_,_,q⟩:=p;exact q.elim
  |cont=>obtain ⟨_,_,_,_,_,_,_,_,q⟩:=p;exact q.elim
 |false =>
  simp only[II,if_false] at q' ⊢
  refine wpAny_execs_nil ?_
  exact ⟨h₁,tk₁,β++γ,H'++K₁,rfl,st2,lv2,by simpa using R1,ρ',by simpa using F1,q'⟩
end
section
variable {X:SX}{f:FC}
theorem vc{G:GV}{W:Nat->Prop}{h:Heap}{α:List Addr}{ρ:Loc}(F:FrS G f W h α ρ){b:Addr}{o:Obj}(e:h.get? b=some o)(hd:∀es n,o.data≠.dict es n):b≠f.env.locals:=fun q=>by
 refine cR (F.fr) fun m cm zq73 _=>?_;refine dL (zq73) fun o' es ep ho' hd' _=>?_
 rw[<- q,e] at ho';cases ho';exact hd _ _ hd'
theorem iI{G:GV}{W:Nat->Prop}{h:Heap}{α:List Addr}{ρ:Loc}(K:dP f)(F:FrS G f W h α ρ){b:Addr}{o:Obj}(e:h.get? b=some o)(hd:∀v,o.data≠.cell v):∀n,(n,b) ∉ f.env.cells:=fun n hm=>by
 refine aF (F.fr) fun m cm _ hc _=>?_
 refine ae (hc.cell n b (K.uniq n b hm)) fun o' ho' hd'=>?_
 rw[e] at ho';cases ho';exact hd _ hd'
theorem nZ{G:GV}{h:Heap}{α:List Addr}{H:Hp} (R:HR G α h H) {b:Addr}{o:Obj} (e:h.get? b=some o) (hd:o.cls ≠ .type "list"\/∀xs n,o.data ≠ .seq xs n) (n:Nat):α[n]? ≠ some b:=fun ha=>by
 obtain ⟨xs,hx⟩:=R.at ha
 refine ae (R.lst n b xs ha hx) fun vs zq72 _=>?_;refine cz (zq72) fun o' ho' hc' k hd'=>?_
 rw[e] at ho';cases ho'
 rcases hd with hd|hd
 ·exact hd hc'
 ·exact hd _ _ hd'
theorem StepS.tup{G:GV}{W:Nat->Prop}{s:Shared}{α:List Addr}{H:Hp}{ρ:Loc}{h':Heap}{β:List Addr}{H':Hp}(K:dP f)(F:FrS G f W s.heap α ρ)(R:HR G α s.heap H)(st:StepS f W s α H h' β H'):KeepsT s.heap h':=fun a items x=>by
 refine cz (x) fun o ho hc n hd=>?_
 refine ⟨o,st.keep a o ho (vc F ho (by simp[hd])) (iI K F ho (by simp[hd])) fun k hk=>?_,hc,n,hd⟩
 exact absurd hk (nZ R ho (.inl (by rw[hc];decide)) k)
theorem StepS.weak{W W':Nat->Prop}{s:Shared}{α:List Addr}{H:Hp}{h':Heap}{β:List Addr}{H':Hp}(hw:∀n,W' n->W n)(st:StepS f W' s α H h' β H'):StepS f W s α H h' β H':=
 ⟨fun b o e h1 h2 h3=>st.keep b o e h1 h2 fun n hn w=>h3 n hn (hw n w),st.fresh,fun n hn w=>st.same n hn fun x=>w (hw n x),st.le⟩
theorem FrS.off{G:GV}{W:Nat->Prop}{h h':Heap}{α:List Addr}{ρ:Loc}{wr:List Addr}(K:dP f)(F:FrS G f W h α ρ)(hwr:∀b∈wr,∃o vs,h.get? b=some o/\o.data=.fields vs)(hdead:∀b∈wr,f.hb.get? b=none)
  (hk:∀b o,b ∉ wr->h.get? b=some o->h'.get? b=some o) (lt:KeepsLT h h'):FrS G f W h' α ρ:=by
 refine aF (F.fr) fun m cm hn hc hv=>?_
 refine ⟨⟨m,cm,hn.at' fun o e=>hk _ o (fun hm=>?_) e,⟨fun x a e=>?_,hc.apart,hc.above⟩,fun i x d e1 e2=>?_⟩,fun b o e=>hk b o (fun hm=>?_) (F.kb b o e),F.wb⟩
 ·refine cR (hwr _ hm) fun o' vs e' d'=>?_
  exact vc F e' (by simp[d']) rfl
 ·refine ae (hc.cell x a e) fun o ho hd=>?_
  refine ⟨o,hk a o (fun hm=>?_) ho,hd⟩
  refine cR (hwr _ hm) fun o' vs e' d'=>?_
  rw[ho] at e';cases e';rw[hd] at d';cases d'
 ·refine ae (hv i x d e1 e2) fun v hv r=>?_
  exact ⟨v,hv,r.mono (fun _ _ e=>e) lt.tup⟩
 ·rw[hdead b hm] at e;cases e
inductive GJ (X:SX) (f:FC) (s:Shared) (α β1:List Addr) (H:Hp) (xs:List V) (St:Nat->Heap->Prop) (wr fp:List Addr) (h2:Heap) (src:Option Nat) (W:Nat->Prop) (body:Loc->Hp->(Loc->Hp->Prop)->Prop) (i:Nat) (N:Loc->Hp->Prop) (n:Nat) (s':Shared):Prop
 |mk (j:Nat) (h':Heap) (tk:Nat) (γ:List Addr) (H':Hp) (ρ':Loc) (e:s'={ s with heap:=h',toks:=tk }) (hj:j<=xs.length) (hn:n=xs.length+1-j) (hs:St j h') (st:StepS f W s α H h' (β1++γ) H') (lv:Lives s.heap h') (R:HR X.G (α++(β1++γ)) h' H') (F:FrS X.G f W h' (α++(β1++γ)) ρ') (kt:KeepsT h2 h')
  (hsrc:∀b∈fp,b ∉ wr->(∃n,src=some n/\(α++(β1++γ))[n]?=some b)\/∃items,IsTup h' b items) (q:cU body i (xs.drop j) ρ' H' N)
theorem AY{i:Nat}{x:Str}{pit:PI}{b:PS}{iter:Expr}{body:List Stmt}{px pos:Pos}(K:dP f)(hx:f.c.isVar i x=true)(h:SI X f.c pit iter)(hns:jd iter=true)(h1:SB X f b body) :
  SS X f (.forr i pit b) (.For (.Name x px) iter body [] pos):=fun W s α ρ H N R Y E hW T F HR' hY q=>by
 simp only[dp] at q
 refine wpAny_For (wpAny_mono (h f.env s α ρ H _ E K.env (T.at F) HR' F.fi q) (fun xv s1 p=>wpAny_mono p (fun it s2 p=>?_) fun _ _ e=>e) fun _ _ e=>e) (fZ hns f.env)
 obtain ⟨h₁,tk₁,β1,K₁,xs,src,k1,f1,R₁,⟨I,fp,wr,P,St,h2,tk2,rfl,rfl,k2,Wk,hst,hwr,hfield0,hfp,hsrc,hP,_⟩,hgo⟩:=p
 have hfield:∀i h,St i h->∀b∈wr,∃o vs,h.get? b=some o/\o.data=.fields vs:=fun i h st b hb=>x8 (hfield0 i h st b hb)
 dsimp only at k2 hwr
 have k12:KeepsH s.heap h2:=k1.trans k2
 have deadS:∀b∈wr,s.heap.get? b=none:=fun b hb=>by
  cases e:s.heap.get? b with
  |none=>rfl
  |some o=>have:=hwr b hb;rw[k1 b o e] at this;cases this
 have deadB:∀b∈wr,f.hb.get? b=none:=fun b hb=>by
  cases e:f.hb.get? b with
  |none=>rfl
  |some o=>have:=deadS b hb;rw[F.kb b o e] at this;cases this
 have hWW:∀m,(W m/\some m≠src)->W m:=fun m h=>h.1
 refine codeAny_forLoop (GJ X f s α β1 H xs St wr fp h2 src W (fun ρ2 H2 k=>wpS X.sub X.Φ (fun m=>W m/\some m≠src) b ρ2 H2 k R fun _ _=>False) i N) ?_ (xs.length+1)
  ⟨0,h2,tk2,[],H++K₁,ρ,rfl,Hl _,rfl,hst,by simpa using (StepS.of (f:=f) (W:=W) (α:=α) (H:=H) (K:=K₁) k12 f1),.of k12,by simpa using R₁.keeps k2,by simpa using F.up k12 f1,fun _ _ x=>x,by simpa using hsrc,by simpa using hgo⟩
 rintro n s' ⟨j,h',tk,γ,H',ρ',rfl,hj,rfl,hstj,st,lv,R',F',kt,hsrc',hgo'⟩
 have off:∀h'':Heap,(∀b o,b ∉ wr->h'.get? b=some o->h''.get? b=some o)->KeepsLT h' h'':=fun h'' hk a o items n e d=>hk a o (fun hm=>by
  refine cR (hfield j h' hstj a hm) fun o' vs e' d'=>?_
  rw[e] at e';cases e';rw[d] at d';cases d') e
 have stOff:∀h'':Heap,(∀b o,b ∉ wr->h'.get? b=some o->h''.get? b=some o)->StepS f W s α H h'' (β1++γ) H'/\Lives s.heap h'':=fun h'' hk =>
  ⟨⟨fun b o e a1 a2 a3=>hk b o (fun hm=>by rw[deadS b hm] at e;cases e) (st.keep b o e a1 a2 a3),st.fresh,st.same,st.le⟩,
   fun b o e=>by obtain ⟨o',e'⟩:=lv b o e;exact ⟨o',hk b o' (fun hm=>by rw[deadS b hm] at e;cases e) e'⟩⟩
 by_cases hlt:j<xs.length
 ·refine Wk.item j _ _ _ hlt hstj fun v h'' tk' hPv hst'' hk''=>?_
  have lt1:=off h'' hk''
  obtain ⟨st1,lv1⟩:=stOff h'' hk''
  have F1:=F'.off K (hfield j h' hstj) deadB hk'' lt1
  have R1:=R'.lt' lt1
  have kt1:KeepsT h2 h'':=fun a items x=>lt1.tup a items (kt a items x)
  refine ae (hP j v hlt hPv) fun d hd rd=>?_
  have rd1:Rep X.G (α++(β1++γ)) h'' v d:=by
   have:=rd.mono (α':=(α++β1)++γ) d4 kt1
   rwa [G0] at this
  refine Jt (gG (s:={ s with heap:=h'',toks:=tk' }) K F1 hx rd1 fun h3 tk3 F3 kf3 lt3 lv3=>?_)
  dsimp only at kf3 lt3 lv3
  have R3:=R1.lt' lt3
  have kt3:KeepsT h2 h3:=fun a items x=>lt3.tup a items (kt1 a items x)
  have st3:StepS f W s α H h3 (β1++γ) H':=⟨fun b o e a1 a2 a3=>kf3 b o (st1.keep b o e a1 a2 a3) a1 a2,st1.fresh,st1.same,st1.le⟩
  have lv13:=lv1.trans lv3
  -- what the iterator reads is kept by the store
  have st3':St (j+1) h3:=Wk.frame _ _ _ hst'' fun b hb o e=>by
   by_cases hbw:b∈wr
   ·refine cR (hfield (j+1) h'' hst'' b hbw) fun o' vs e' d'=>?_
    rw[e] at e';cases e'
    exact kf3 b o e (vc F1 e (by simp[d'])) (iI K F1 e (by simp[d']))
   ·rcases hsrc' b hb hbw with ⟨n,hn,ha⟩ | ⟨items,hi⟩
    ·obtain ⟨ys,hy⟩:=R1.at ha
     refine ae (R1.lst n b ys ha hy) fun vs zq71 _=>?_;refine cz (zq71) fun o' ho' hc' kk hd'=>?_
     rw[e] at ho';cases ho'
     exact lt3 b o _ _ e hd'
    ·refine cz (lt1.tup b items hi) fun o' ho' hc' kk hd'=>?_
     rw[e] at ho';cases ho'
     exact lt3 b o _ _ e hd'
  have hdrop:xs.drop j=d::xs.drop (j+1):=by
   obtain ⟨hl,he⟩:=GX.mp hd
   rw[List.drop_eq_getElem_cons hl,he]
  rw[hdrop] at hgo'
  replace hgo':wpS X.sub X.Φ (fun m=>W m/\some m≠src) b (aH ρ' i d) H' (fun ρ'' H''=>cU (fun ρ2 H2 k=>wpS X.sub X.Φ (fun m=>W m/\some m≠src) b ρ2 H2 k R fun _ _=>False) i (xs.drop (j+1)) ρ'' H'' N) R (fun _ _=>False):=hgo'
  refine wpAny_mono (h1 (fun m=>W m/\some m≠src) { s with heap:=h3,toks:=tk3 } (α++(β1++γ)) (aH ρ' i d) H' _ R _ _ (fun n hn=>hW n hn.1) T (F3.weak hWW) R3 lU hgo') (fun fl s4 p=>?_) fun _ _ e=>e
  obtain ⟨h4,tk4,δ,H4,rfl,st4,lv4,R4,q4⟩:=p
  have stAll:StepS f W s α H h4 ((β1++γ)++δ) H4:=st3.trans (tk:=tk3) lv13 (st4.weak hWW)
  have lvAll:=lv13.trans lv4
  cases fl with
  |next =>
   refine ae (q4) fun ρ4 F4 q4=>?_
   have kt4:KeepsT h3 h4:=st4.tup K (F3.weak hWW) R3
   refine ⟨xs.length+1-(j+1),by exact oqz [xs.length+1-(j+1),xs.length,j,xs.length+1-j] [] [(.le (Y2+1) Y1),(.an (.le (Y1+1) (Y3+Y2)) (.le Y3 (Y1+1))),(osb (Y1+1) (Y2+1) Y0)] (.le (Y0+1) Y3) [1000101,100111] rfl hlt (aV (xs.length+1) (j)) (am (xs.length+1) (j+1)),j+1,h4,tk4,γ++δ,H4,ρ4,rfl,hlt,rfl,?_,by simpa using stAll,lvAll,by simpa using R4,?_,fun a items x=>kt4 a items (kt3 a items x),fun b hb hbw=>?_,q4⟩
   ·refine Wk.frame _ _ _ st3' fun b hb o e=>?_
    by_cases hbw:b∈wr
    ·refine cR (hfield (j+1) h3 st3' b hbw) fun o' vs e' d'=>?_
     rw[e] at e';cases e'
     exact st4.keep b o e (vc F3 e (by simp[d'])) (iI K F3 e (by simp[d'])) fun n hn=>absurd hn (nZ R3 e (.inr (by simp[d'])) n)
    ·rcases hsrc' b hb hbw with ⟨n,hn,ha⟩ | ⟨items,hi⟩
     ·obtain ⟨ys,hy⟩:=R3.at ha
      refine ae (R3.lst n b ys ha hy) fun vs zq70 _=>?_;refine cz (zq70) fun o' ho' hc' kk hd'=>?_
      rw[e] at ho';cases ho'
      refine st4.keep b o e (vc F3 e (by simp[hd'])) (iI K F3 e (by simp[hd'])) fun m hm hw=>?_
      obtain ⟨l1,g1⟩:=GX.mp ha
      obtain ⟨l2,g2⟩:=GX.mp hm
      have:m=n:=(List.getElem_inj R3.nodup).mp (g2.trans g1.symm)
      exact hw.2 (by rw[this,hn])
     ·refine cz (lt3.tup b items (lt1.tup b items hi)) fun o' ho' hc' kk hd'=>?_
      rw[e] at ho';cases ho'
      exact st4.keep b o e (vc F3 e (by simp[hd'])) (iI K F3 e (by simp[hd'])) fun n hn=>absurd hn (nZ R3 e (.inl (by rw[hc'];decide)) n)
   ·-- the frame,with the lists of the loop's outside
    obtain ⟨fr4,kb4,wb4⟩:=F4
    refine ⟨by simpa using fr4,kb4,fun n a ha hw=>?_⟩
    rw[<- G0,<- G0] at ha
    by_cases hl:n<(α++β1++γ).length
    ·rw[Hg hl] at ha
     exact F3.wb n a (by simpa using ha) hw
    ·rw[Hk (by exact oqz [(α++β1++γ).length,n] [] [(.no (.le (Y1+1) Y0))] (.le Y0 Y1) [11] rfl hl)] at ha
     have hm:=st4.fresh a (H8 ha)
     cases e:f.hb.get? a with
     |none=>rfl
     |some o=>have:=F3.kb a o e;rw[show ({ s with heap:=h3,toks:=tk3 }:Shared).heap.get? a=none from hm] at this;cases this
   ·rcases hsrc' b hb hbw with ⟨n,hn,ha⟩ | ⟨items,hi⟩
    ·refine .inl ⟨n,hn,?_⟩
     have:=d4 (β:=δ) n b ha
     simpa using this
    ·exact .inr ⟨items,kt4 b items (lt3.tup b items (lt1.tup b items hi))⟩
  |ret v =>
   refine qP (q4) fun kk d r q4=>?_
   exact ⟨h4,tk4,(β1++γ)++δ,H4,rfl,stAll,lvAll,by simpa using R4,kk,d,by simpa using r,q4⟩
  |brk=>exact q4.elim
  |cont=>exact q4.elim
 ·have hin:j=xs.length:=oqz [j,xs.length] [] [(.le Y0 Y1),(.no (.le (Y0+1) Y1))] (.eq Y0 Y1) [101,11] rfl hj hlt
  subst hin
  refine Wk.done _ _ _ hstj fun h'' tk' hk''=>wpAny_execs_nil ?_
  have lt1:=off h'' hk''
  obtain ⟨st1,lv1⟩:=stOff h'' hk''
  refine ⟨h'',tk',β1++γ,H',rfl,st1,lv1,R'.lt' lt1,ρ',F'.off K (hfield _ h' hstj) deadB hk'' lt1,?_⟩
  rw[List.drop_length] at hgo';exact hgo'
end
theorem rn(vs:List Value):vs.toArray.eraseIdxIfInBounds (vs.toArray.size-1)=vs.dropLast.toArray:=by
 unfold Array.eraseIdxIfInBounds
 split
 ·rename_i h
  apply Array.ext'
  simp only[Ht,List.eraseIdx_toArray] at h ⊢
  rw[List.eraseIdx_length_sub_one]
 ·rename_i h
  simp at h
  have h0:vs=[]:=by cases vs with|nil=>rfl|cons a r=>simp at h;omega
  subst h0;rfl
section
variable {X:SX}{f:FC}
theorem qq{G:GV}{W:Nat->Prop}{s:Shared}{α:List Addr}{ρ:Loc}{H:Hp}(F:FrS G f W s.heap α ρ)(R:HR G α s.heap H)(hW:∀n,W n->1<=n){i:Nat}{x:Str}(hx:f.c.isVar i x=true){n:Nat}{xs:List V}
  (hv:af ρ i=some (.lst n)) (hw:W n) (hh:H[n]?=some xs) :
  ∃ (a:Addr) (vs:List Value),α[n]?=some a/\VarAt f.env s.heap x (.ref a)/\s.heap.PlainList a vs.toArray/\Reps G α s.heap vs xs/\vs.length<=lim/\xs.length<=lim:=by
 refine ae (F.fi i x _ (MC.isVar_spec hx).1 hv) fun u hu r=>?_
 cases r with
 |lst ha =>
  refine b4 (R.lst n _ xs ha hh) fun vs hl q z p=>?_
  exact ⟨_,vs,ha,hu,p (by have:=hW n hw;exact oqz [n] [] [(.le 1 Y0)] (.no (.eq Y0 0)) [101] rfl this),q,by rw[q.len];exact z,z⟩
theorem gQ{W:Nat->Prop}{s:Shared}{α:List Addr}{ρ:Loc}{H:Hp}{N:Loc->Hp->Prop}{R:V->Hp->Prop}{h₁ h2:Heap}{tk₁ tk2:Nat}{β:List Addr}{K₁:Hp}{n:Nat}{xs':List V}(k:KeepsH s.heap h₁)(fr:∀b∈β,s.heap.get? b=none)
  (p:FrS X.G f W h2 (α++β) ρ/\HR X.G (α++β) h2 ((H++K₁).set n xs')/\StepS f W { s with heap:=h₁,toks:=tk₁ } (α++β) (H++K₁) h2 [] ((H++K₁).set n xs')/\Lives h₁ h2) (q:N ρ ((H++K₁).set n xs')) :
  PostS X.G f W s α H N R .next { s with heap:=h2,toks:=tk2 }:=by
 refine g7 (p) fun F' R' st lv=>?_
 have:=(StepS.of (f:=f) (W:=W) (α:=α) (H:=H) (K:=K₁) k fr).trans (Lives.of k) st
 exact ⟨h2,tk2,β,_,rfl,by simpa using this,(Lives.of k).trans lv,R',ρ,F',q⟩
theorem uV{i:Nat}{x:Str}{pk pe:PE}{j v:Expr}{px pp pos:Pos}(K:dP f)(hx:f.c.isVar i x=true)(hk:SE X f.c pk j)(h:SE X f.c pe v)(hc:fI v=true) :
  SS X f (.setidx i pk pe) (.Assign [.Subscript (.Name x px) j pp] v pos):=fun W s α ρ H N R Y E hW T F HR' hY q=>by
 simp only[qS5] at q
 refine wpAny_Assign_Subscript (wpAny_mono (h f.env s α ρ H _ E K.env (T.at F) HR' F.fi q) (fun v s1 p=>?_) fun _ _ x=>x) (c9 hc _ _ _)
 refine p.go fun h₁ tk₁ β K₁ d k1 fr1 R1 r1 q1=>?_
 have F1:=F.up k1 fr1
 refine cr (ifLst.get q1) fun n hl hw q1=>?_
 refine ae (F1.fi i x _ (MC.isVar_spec hx).1 hl) fun u hu ru=>?_
 refine fz (s:={ s with heap:=h₁,toks:=tk₁ }) K.env hx hu ?_
 refine wpAny_mono (hk f.env { s with heap:=h₁,toks:=tk₁ } (α++β) ρ (H++K₁) _ E K.env (T.at F1) R1 F1.fi q1) (fun iv s3 p=>?_) fun _ _ x=>x
 obtain ⟨h2,tk2,γ,K2,kv,rfl,k2,fr2,R2,r2,q2⟩:=p
 refine ae (ifInt.get q2) fun jj zq74 q2=>?_;subst zq74
 refine ae (ifSome.get q2) fun xs hxs q2=>?_
 refine ae (ifSome.get q2) fun pl hpl q2=>?_
 dsimp only at k2 fr2
 have F2:=F1.up k2 fr2
 cases r2 with
 |int _ t =>
  cases ru with
  |lst ha =>
   have ha2:=d4 (β:=γ) _ _ ha
   refine b4 (R2.lst n _ xs ha2 hxs) fun vs hli rs z pp=>?_
   have hpl':=pp (by have:=hW n hw;exact oqz [n] [] [(.le 1 Y0)] (.no (.eq Y0 0)) [101] rfl this)
   have hlen:=rs.len
   have zz:xs.length<=1000000:=z
   refine l8 (s:={ s with heap:=h2,toks:=tk2 }) hpl' (by rw[Ht,hlen];exact hpl) (by rw[Ht];exact oqz [vs.length,xs.length] [] [(.eq Y0 Y1),(.le Y1 1000000)] (.le Y0 1000000) [1011] rfl hlen zz) ?_
   have wl:=fR (s:={ s with heap:=h2,toks:=tk2 }) (vs':=vs.set pl v) (xs':=xs.set pl d) K F2 R2 hw ha2 hxs (IC ..) (by simpa using gH hpl' (·.setIfInBounds pl v)) (rs.set (r1.up k2) pl) (by rw[List.length_set];exact z)
   have st1:StepS f W s α H h₁ β (H++K₁):=.of k1 fr1
   have st2:StepS f W { s with heap:=h₁,toks:=tk₁ } (α++β) (H++K₁) h2 γ (H++K₁++K2):=.of k2 fr2
   have st12:=st1.trans (Lives.of k1) st2
   refine g7 (wl) fun F3 R3 st3 lv3=>?_
   have st:=st12.trans (tk:=tk2) ((Lives.of k1).trans (.of k2)) (by simpa using st3)
   exact ⟨_,tk2,β++γ,_,rfl,by simpa using st,((Lives.of k1).trans (.of k2)).trans lv3,by simpa using R3,ρ,by simpa using F3,q2⟩
theorem g9{prog:Program}{w:World}{A:Around}{E:Value->Shared->Prop}{s:Shared}{name:Str}{id:String}{a:Addr}{items:Array Value}{pos:Pos}{args:List (Bool × Sem Value)}{Q:Value->Shared->Prop} (slot:Slot "list" name id)
  (hty:typeOf (.builtin id)=pure (.type "method_descriptor")) (hl:s.heap.PlainList a items) (h:wpAny (model prog w) A (callWith pos (.builtin id) [.ref a] args []) Q E s):MethodOnS prog w A E name (.ref a) pos args Q s:=by
 refine ⟨"list",id,PySem.F.plainAttrs_list,slot,hty,hl.isList.typeIs,fun b e=>?_,h⟩
 cases e
 obtain ⟨n,ho⟩:=hl
 exact ⟨_,ho,rfl⟩
theorem El{i:Nat}{x a:Str}{pe:PE}{v:Expr}{px ap cp pos:Pos} (K:dP f) (hx:f.c.isVar i x=true) (ha:a=Str.ofString "append") (hli:ap.endLine=cp.line) (hn:cX v=true) (h:SE X f.c pe v) :
  SS X f (.app i pe) (.Expr (.Call (.Attribute (.Name x px) a ap) [v] [] cp) pos):=fun W s α ρ H N R Y E hW T F HR' hY q=>by
 subst ha
 simp only[qS6] at q
 refine cr (ifLst.get q) fun n hl hw q=>?_
 refine ae (F.fi i x _ (MC.isVar_spec hx).1 hl) fun u hu ru=>?_
 cases ru with
 |lst ha =>
  obtain ⟨xs0,hx0⟩:=HR'.at ha
  refine b4 (HR'.lst n _ xs0 ha hx0) fun vs0 _ _ _ pp0=>?_
  have hpl0:=pp0 (by have:=hW n hw;exact oqz [n] [] [(.le 1 Y0)] (.no (.eq Y0 0)) [101] rfl this)
  refine wpAny_Expr (Call_method1 rfl (aL hn) (by simp[hli]) (fz K.env hx hu ?_)) (by have:=K.env.kind;simp[interactive,this]) (c9 rfl _ _ _)
  refine g9 PySem.F.slot_list_append PySem.F.type_list_append hpl0 (P.append_list ?_)
  refine wpAny_mono (h f.env s α ρ H _ E K.env (T.at F) HR' F.fi q) (fun v s1 p=>?_) fun _ _ x=>x
  obtain ⟨h₁,tk₁,β,K₁,d,rfl,k1,fr1,R1,r1,q1⟩:=p
  refine cr (ifSome.get q1) fun xs hxs hlt q1=>?_
  have F1:=F.up k1 fr1
  have ha1:=d4 (β:=β) _ _ ha
  refine b4 (R1.lst n _ xs ha1 hxs) fun vs _ rs z pp=>?_
  have hpl:=pp (by have:=hW n hw;exact oqz [n] [] [(.le 1 Y0)] (.no (.eq Y0 0)) [101] rfl this)
  have hlen:=rs.len
  obtain ⟨ne,ho⟩:=id hpl
  refine ⟨vs.toArray,ne,by rw[Ht,hlen];exact GP (Ji hlt) fm,ho,?_⟩
  have wl:=fR (s:={ s with heap:=h₁,toks:=tk₁ }) (vs':=vs++[v]) (xs':=xs++[d]) K F1 R1 hw ha1 hxs (IC ..) (by simpa using gH hpl (·.push v)) (rs.append (.cons r1 .nil)) (by rw[GR];exact hlt)
  exact gQ k1 fr1 wl q1
theorem Cf{i:Nat}{x a:Str}{px ap cp pos:Pos} (K:dP f) (hx:f.c.isVar i x=true) (ha:a=Str.ofString "pop") (hli:ap.endLine=cp.line) :
  SS X f (.pop i) (.Expr (.Call (.Attribute (.Name x px) a ap) [] [] cp) pos):=fun W s α ρ H N R Y E hW T F HR' hY q=>by
 subst ha
 simp only[qS7] at q
 refine cr (ifLst.get q) fun n hl hw q=>?_
 refine wH (ifSome.get q) fun xs hh ys k zq9 q=>?_;subst zq9
 refine kI (qq F HR' hW hx hl hw hh) fun a vs ha hu hpl rs z' z=>?_
 have hlen:=rs.len
 refine ae (rs.get (n:=ys.length) (d:=.int k) (by simp)) fun val aw rval=>?_
 cases rval with
 |int _ t =>
  obtain ⟨ne,ho⟩:=id hpl
  refine wpAny_Expr (Call_method0 rfl (by simp[hli]) (fz K.env hx hu ?_)) (by have:=K.env.kind;simp[interactive,this]) (c9 rfl _ _ _)
  refine g9 PySem.F.slot_list_pop PySem.F.type_list_pop hpl (P.pop_list (y:=.int k t) ho ?_ ?_ (by rw[Ht];exact GP z' fm))
  ·simp only[Ht,List.getElem?_toArray]
   rw[show vs.length-1=ys.length by simp at hlen;exact oqz [vs.length-1,vs.length,ys.length] [] [(.eq Y1 (Y2+1)),(osb Y1 1 Y0)] (.eq Y0 Y2) [10101,1101,100011,10001] rfl hlen (am (vs.length) (1))];exact aw
  ·have wl:=fR (s:=s) (vs':=vs.dropLast) (xs':=ys) K F HR' hw ha hh (IC ..) (by
    have e:=gH hpl (fun xs=>xs.eraseIdxIfInBounds (vs.toArray.size-1))
    have e2:vs.toArray.eraseIdxIfInBounds (vs.toArray.size-1)=vs.dropLast.toArray:=rn vs
    rw[e2] at e;exact e) (by simpa using rs.dropLast) (by simp at z;exact HT z)
   exact gQ (h₁:=s.heap) (tk₁:=s.toks) (β:=[]) (K₁:=[]) (.refl _) (by simp) (by simpa using wl) (by simpa using q)
theorem Ec{i:Nat}{x a:Str}{px ap cp pos:Pos} (K:dP f) (hx:f.c.isVar i x=true) (ha:a=Str.ofString "reverse") (hli:ap.endLine=cp.line) :
  SS X f (.rev i) (.Expr (.Call (.Attribute (.Name x px) a ap) [] [] cp) pos):=fun W s α ρ H N R Y E hW T F HR' hY q=>by
 subst ha
 simp only[qS8] at q
 refine cr (ifLst.get q) fun n hl hw q=>?_
 refine ae (ifSome.get q) fun xs hh q=>?_
 refine kI (qq F HR' hW hx hl hw hh) fun a vs ha hu hpl rs z' z=>?_
 obtain ⟨ne,ho⟩:=id hpl
 refine wpAny_Expr (Call_method0 rfl (by simp[hli]) (fz K.env hx hu ?_)) (by have:=K.env.kind;simp[interactive,this]) (c9 rfl _ _ _)
 refine g9 PySem.F.slot_list_reverse PySem.F.type_list_reverse hpl (P.reverse_list ho ?_ (by rw[Ht];exact GP z' fm))
 have wl:=fR (s:=s) (vs':=vs.reverse) (xs':=xs.reverse) K F HR' hw ha hh (IC ..) (by simpa using gH hpl (fun xs=>xs.reverse)) rs.reverse (by rw[Hz];exact z)
 exact gQ (h₁:=s.heap) (tk₁:=s.toks) (β:=[]) (K₁:=[]) (.refl _) (by simp) (by simpa using wl) (by simpa using q)
end
section
variable {X:SX}{f:FC}
theorem FrS.other{G:GV}{W:Nat->Prop}{h h':Heap}{α:List Addr}{ρ:Loc}{C:Addr}(K:dP f)(F:FrS G f W h α ρ)(hs:Heap.SameBut C h h')(hL:C≠f.env.locals)(hc:∀n,(n,C) ∉ f.env.cells)(hb:f.hb.get? C=none)(kt:KeepsT h h'):FrS G f W h' α ρ:=by
 refine aF (F.fr) fun m cm hn hcl hv=>?_
 refine ⟨⟨m,cm,hn.sameBut hs (Ne.symm hL),⟨fun x a e=>(hcl.cell x a e).sameBut hs fun q=>hc x (q ▸ JX e),hcl.apart,hcl.above⟩,fun i x d e1 e2=>?_⟩,fun b o e=>hs.extBut b o (fun q=>by rw[q,hb] at e;cases e) (F.kb b o e),F.wb⟩
 refine ae (hv i x d e1 e2) fun v hv r=>?_
 exact ⟨v,hv,r.mono (fun _ _ e=>e) kt⟩
theorem FrS.deadH{G:GV}{W:Nat->Prop}{s:Heap}{α:List Addr}{ρ:Loc}(F:FrS G f W s α ρ){b:Addr}(e:s.get? b=none):f.hb.get? b=none:=by
 cases e':f.hb.get? b with
 |none=>rfl
 |some o=>have:=F.kb b o e';rw[e] at this;cases this
theorem lJ{i:Nat}{y:Str}{py spos:Pos}{elt iter te:Expr}{tg:Nat}{pos:Pos}{ifs:List Expr}{sc:Scope}{cs:List Str}{pelt:PE}{caps:List Nat}{pit:PI}{cond:PO}(KK:dP f)(hy:f.c.isVar i y=true)
  (hh:X.A.handled=none) (htg:tg=1\/tg=2) (K:CompOk f.c sc (tgN tg te) cs caps) (h1:SE X ⟨f.c.g,sc,tgN tg te++cs⟩ pelt elt) (h2:wT X ⟨f.c.g,sc,tgN tg te++cs⟩ cond ifs) (h3:SI X f.c pit iter) (hns:jd iter=true) :
  SS X f (.assign i (.comp pelt tg caps pit cond)) (.Assign [.Name y py] (.ListComp elt [⟨tgE tg te,iter,ifs,0⟩] sc pos) spos):=fun W s α ρ H N R Y E hW T F HR' hY q=>by
 have hsw:∃b,swapsWith (.ListComp elt [⟨tgE tg te,iter,ifs,0⟩] sc pos) (some (.Name y py)) spos.line f.env=pure b:=⟨_,rfl⟩
 obtain ⟨b,hsw⟩:=hsw
 cases b with
 |false =>
  simp only[qS3] at q
  refine wpAny_Assign_Name (wpAny_mono (t9 hh htg K h1 h2 h3 hns f.env s α ρ H _ E KK.env (T.at F) HR' F.fi q) (fun v s1 p=>?_) fun _ _ x=>x) hsw
  exact kC KK F hy p
 |true =>
  simp only[qS3,f9] at q
  rw[exec_Assign_Name_used _ _ _ _ hsw]
  refine GS (wpAny_standAt (GS ?_))
  rw[arm_evalThenUse_ListComp]
  refine GS (wpAny_mono (Q:=fun _ s'=>PostS X.G f W s α H N R .next s') ?_ (fun _ _ p=>G6 (G6 p)) fun _ _ e=>e)
  refine wpAny_comprehension_free (use:=some (assign (.Name y py) f.env)) rfl (fZ hns f.env) (K.clos KK.env) K.kind K.names (wpAny_mono (h3 f.env s α ρ H _ E KK.env (T.at F) HR' F.fi q) (fun xv s1 p=>wpAny_mono p (fun it s2 p=>?_) fun _ _ e=>e) fun _ _ e=>e)
  refine mx hh htg K h1 h2 f.env s α ρ H _ E KK.env (T.at F) F.fi it s2 p (fun acc C=>compPost (model X.prog X.w) X.A E (some (assign (.Name y py) f.env)) (fun _ s'=>PostS X.G f W s α H N R .next s') acc C) fun D C s' p=>?_
  obtain ⟨h',tk,β,K₁,ys,ds,m,rfl,k,fr,R',dD,dC,hDC,hD,hpl,rys,z,hn,q'⟩:=p
  -- the new list joins the lists
  have fr':∀b∈β++[D],s.heap.get? b=none:=fun b hb=>by
   rcases Hy.mp hb with hb|hb
   ·exact fr b hb
   ·simp at hb;subst hb;exact dD
  have F':=F.up k fr'
  have R'':HR X.G (α++(β++[D])) h' (H++(K₁++[ds])):=by
   have:=R'.push (.refl _) hD hpl rys z
   simpa using this
  have rD:Rep X.G (α++(β++[D])) h' (.ref D) (.lst (H++K₁).length):=by
   refine Rep.lst ?_
   rw[<- R'.len,<- G0,Hk (GU _)];simp
  have hCL:C≠f.env.locals:=fun q=>by obtain ⟨o,ho⟩:=F.alive;rw[<- q,dC] at ho;cases ho
  have hCc:∀n,(n,C) ∉ f.env.cells:=fun n hm=>by
   refine aF (F.fr) fun m cm _ hc _=>?_
   refine ae (hc.cell n C (KK.uniq n C hm)) fun o' ho' hd'=>?_
   rw[dC] at ho';cases ho'
  show wpAny _ _ (assign (.Name y py) f.env (.ref D)) _ _ _
  refine Jt (gG (s:={ s with heap:=h',toks:=tk }) KK F' hy rD fun h₃ tk3 F3 kf3 lt3 lv3=>?_)
  dsimp only at kf3 lt3 lv3
  refine b8 (id hn) fun oC es ep hoC hdC hkC hfC=>?_
  have hoC3:=kf3 C oC hoC hCL hCc
  have hn3:h₃.Ns C m:=⟨oC,es,ep,hoC3,hdC,hkC,hfC⟩
  refine ⟨m,hn3,fun h4 hs4=>?_⟩
  dsimp only at hs4
  have lt4:KeepsLT h₃ h4:=KeepsLT.sameBut hs4 (d6 hn3)
  refine ⟨h4,tk3,β++[D],H++(K₁++[ds]),rfl,⟨fun b o e a1 a2 _=>hs4.extBut b o (fun q=>by rw[q,dC] at e;cases e) (kf3 b o (k b o e) a1 a2),fr',fun n hnn _=>Hg hnn,by simp⟩,fun b o e=>?_,(R''.lt' lt3).lt' lt4,_,F3.other KK hs4 hCL hCc (F.deadH dC) lt4.tup,by simpa using q'⟩
  obtain ⟨o',e'⟩:=lv3 b o (k b o e)
  exact ⟨o',hs4.extBut b o' (fun q=>by rw[q,dC] at e;cases e) e'⟩
theorem mJ(K:dP f){W:Nat->Prop}{E:Value->Shared->Prop}:∀ (is:List Nat) (ts:List Expr) (s:Shared) (α:List Addr) (ρ:Loc) (vs:List Value) (ds:List V) (Z:Unit->Shared->Prop),is.all (fun i=>f.c.isVar i (f.c.nm i))=true->vs.length=is.length->FrS X.G f W s.heap α ρ->Reps X.G α s.heap vs ds ->
  (∀h' tk,FrS X.G f W h' α (iz ρ is ds)->rX f s.heap h'->KeepsLT s.heap h'->Lives s.heap h'->Z () { s with heap:=h',toks:=tk }) ->
  wpAny (model X.prog X.w) X.A (assignInOrder ((assignEach (gU f.c is ts) f.env).map (·.2)) vs) Z E s
 | [],ts,s,α,ρ,vs,ds,Z,ht,hl,F,r,hz=>by
  cases vs with
  |nil =>
   cases r
   exact G6 (hz s.heap s.toks F (fun _ _ e _ _=>e) (fun _ _ _ _ e _=>e) (fun b o e=>⟨o,e⟩))
  |cons v vs=>exact absurd hl (JS _)
 |i::is,ts,s,α,ρ,vs,ds,Z,ht,hl,F,r,hz=>by
  have ht:=HK.mp ht
  cases vs with
  |nil=>exact absurd hl.symm (JS _)
  |cons v vs =>
   cases r with
   |cons rv rs =>
    rename_i d ds
    show wpAny _ _ (do holding vs (assign (.Name (f.c.nm i) _) f.env v);assignInOrder ((assignEach (gU f.c is ts.tail) f.env).map (·.2)) vs) Z E s
    refine GS (Js (Jt (gG K F ht.1 rv fun h' tk F' kf lt lv=>?_)))
    refine mJ K is ts.tail { s with heap:=h',toks:=tk } α (aH ρ i d) vs ds Z ht.2 (Ix hl) F' (rs.mono (fun _ _ e=>e) lt.tup) fun h'' tk' F'' kf' lt' lv'=>?_
    exact hz h'' tk' F'' (fun b o e a1 a2=>kf' b o (kf b o e a1 a2) a1 a2) (lt.trans lt') (lv.trans lv')
theorem mi:∀ {is:List Nat}{ts:List Expr},(assignEach (gU f.c is ts) f.env).length=is.length/\(assignEach (gU f.c is ts) f.env).findIdx? (·.1)=none
 | [],_=>⟨rfl,rfl⟩
 |i::is,ts=>by
  obtain ⟨a,b⟩:=mi (is:=is) (ts:=ts.tail)
  have e:assignEach (gU f.c (i::is) ts) f.env=(false,assign (.Name (f.c.nm i) (bz (ts.headD (.Name "" default)))) f.env)::assignEach (gU f.c is ts.tail) f.env:=rfl
  rw[e,List.length_cons,List.length_cons,a,List.findIdx?_cons,b]
  exact ⟨rfl,rfl⟩
theorem nk{ts:List Expr}{k:Nat}{tp:Pos}{v:Expr}(h:rO v=true)(env:Env):swappedStores [.Tuple ts k tp] v env=pure none:=by
 cases v <;> first|rfl|cases h
end
section
variable {X:SX}{f:FC}
theorem qh{W:Nat->Prop}{s:Shared}{α:List Addr}{H:Hp}{N:Loc->Hp->Prop}{R:V->Hp->Prop}{h₁ h2:Heap}{tk:Nat}{β:List Addr}{K₁:Hp}{ρ':Loc}(k:KeepsH s.heap h₁)(fr:∀b∈β,s.heap.get? b=none)(R':HR X.G (α++β) h₁ (H++K₁))
  (F':FrS X.G f W h2 (α++β) ρ') (kf:rX f h₁ h2) (lt:KeepsLT h₁ h2) (lv:Lives h₁ h2) (q:N ρ' (H++K₁)):PostS X.G f W s α H N R .next { s with heap:=h2,toks:=tk }:=
 ⟨h2,tk,β,H++K₁,rfl,⟨fun b o e a1 a2 _=>kf b o (k b o e) a1 a2,fr,fun n hn _=>Hg hn,by simp⟩,(Lives.of k).trans lv,R'.lt' lt,ρ',F',q⟩
theorem uF{is:List Nat}{ts:List Expr}{pe:PE}{v:Expr}{k:Nat}{tp pos:Pos}(hA:AOk X.prog X.A)(K:dP f)(ht:is.all (fun i=>f.c.isVar i (f.c.nm i))=true)(hnd:is.Nodup)(hc:fI v=true)(hok:rO v=true)(h:SE X f.c pe v):SS X f (.unpack is pe) (.Assign [.Tuple (gU f.c is ts) k tp] v pos):=fun W s α ρ H N R Y E hW T F HR' hY q=>by
 simp only[qS4] at q
 have hsole:swapsWithSole [.Tuple (gU f.c is ts) k tp] v pos.line f.env=pure false:=by
  show swapsWith v (some (.Tuple (gU f.c is ts) k tp)) pos.line f.env=pure false
  refine c9 ?_ _ _ _
  exact hc
 have ev:=h f.env s α ρ H _ E K.env (T.at F) HR' F.fi q
 obtain ⟨hlen,hfind⟩:=mi (f:=f) (is:=is) (ts:=ts)
 refine Assign_Tuple (wpAny_mono ev (fun u s1 p=>?_) fun _ _ x=>x) hsole (nk hok f.env)
 obtain ⟨h₁,tk₁,β,K₁,d,rfl,k1,fr,R1,r,q'⟩:=p
 obtain ⟨vs,rfl,hl,q'⟩:=ifTup.get q'
 obtain ⟨a,us,rfl,hti,rs,z⟩:=r.tup_inv
 ·rw[arm_assign_Tuple]
  refine GS (wpAny_standAt ?_)
  refine unpack_tuple (s:={ s with heap:=h₁,toks:=tk₁ }) hA.handled hti (by rw[hlen,Ht,rs.len,hl]) hfind fun h2 he=>?_
  have k2:=md he
  refine mJ (W:=W) K is ts { s with heap:=h2,toks:=tk₁ } (α++β) ρ us vs _ ht (by rw[rs.len,hl]) (F.up (k1.trans k2) fr) (rs.mono (fun _ _ e=>e) (.of k2)) fun h3 tk3 F3 kf3 lt3 lv3=>?_
  exact qh (k1.trans k2) fr (R1.keeps k2) F3 kf3 lt3 lv3 q'
end
inductive PostT (G:GV) (f:FC) (s:Shared) (α:List Addr) (H:Hp) (Q:V->Hp->Prop) (v:Value) (s':Shared):Prop
 |mk (h':Heap) (tk:Nat) (β:List Addr) (K:Hp) (d:V) (e:s'={ s with heap:=h',toks:=tk }) (k:∀b o,s.heap.get? b=some o->b≠f.env.locals->h'.get? b=some o)
  (l:∀m,s.heap.Ns f.env.locals m->h'.Ns f.env.locals m) (fr:∀b∈β,s.heap.get? b=none) (R:HR G (α++β) h' (H++K)) (r:Rep G (α++β) h' v d) (q:Q d (H++K))
noncomputable def xt(X:SX)(f:FC):Prop:=
 ∀ (k:Nat) (x:Str) (vs:List V) (H:Hp) (Q:V->Hp->Prop),f.c.g.fns[k]?=some x->X.Φ (k+1000) vs H Q (fun _ _=>False)->∀ (W:Nat->Prop) (s:Shared) (α:List Addr) (ρ:Loc) (vals:List Value) (E:Value->Shared->Prop),
  GF X.G f.c.g X.DT f.hb->FrS X.G f W s.heap α ρ->HR X.G α s.heap H->Reps X.G α s.heap vals vs->wpAny (model X.prog X.w) X.A (call (.ref (X.G.fa k)) vals) (PostT X.G f s α H Q) E s
section
variable {X:SX}{f:FC}
theorem PostT.trans{s:Shared}{α:List Addr}{H:Hp}{Q:V->Hp->Prop}{h₁:Heap}{tk₁:Nat}{β:List Addr}{K:Hp}{v:Value}{s':Shared}(k:KeepsH s.heap h₁)(fr:∀b∈β,s.heap.get? b=none)
  (p:PostT X.G f { s with heap:=h₁,toks:=tk₁ } (α++β) (H++K) Q v s'):PostT X.G f s α H Q v s':=by
 obtain ⟨h',tk,β',K',d,rfl,k',l',fr',R',r',q'⟩:=p
 refine ⟨h',tk,β++β',K++K',d,rfl,fun b o e n=>k' b o (k b o e) n,fun m e=>l' m (e.keeps k),fun b hb=>?_,by simpa using R',by simpa using r',by simpa using q'⟩
 rcases Hy.mp hb with hb|hb
 ·exact fr b hb
 ·cases e:s.heap.get? b with
  |none=>rfl
  |some o=>have:=k b o e;rw[show h₁.get? b=none from fr' b hb] at this;cases this
theorem yg{k:Nat}{x:Str}{ps:PEs}{e:Expr}{es:List Expr}{pos:Pos}(hT:xt X f)(hf:f.c.g.fns[k]?=some x)(hn:cX e=true)(h:SEs X f.c ps (e::es))
  (W:Nat->Prop) (s:Shared) (α:List Addr) (ρ:Loc) (H:Hp) (Q:V->Hp->Prop) (E:Value->Shared->Prop) (O:ch f.c f.env) (T:GF X.G f.c.g X.DT f.hb) (R:HR X.G α s.heap H) (F:FrS X.G f W s.heap α ρ)
  (q:eV X.sub X.Φ ps ρ H fun vs H1=>X.Φ (k+1000) vs H1 Q fun _ _=>False) :
  wpAny (model X.prog X.w) X.A (callWith pos (.ref (X.G.fa k)) [] (backTo pos (starEach (e::es) f.env)) []) (PostT X.G f s α H Q) E s:=by
 refine dI ((T.at F).fn k x hf) fun _ d o pm cd doc _ _ ho hd _=>?_
 refine callWith_def hd (wpAny_mono (h f.env s α ρ H _ E pos O (T.at F) R F.fi q) (fun vs s1 p=>?_) fun _ _ y=>y) (aL hn)
 obtain ⟨h₁,tk₁,β,K,ds,rfl,k',f',R',r,q'⟩:=p
 refine ⟨k' _ _ ho,?_⟩
 exact wpAny_mono (hT k x ds (H++K) Q hf q' W { s with heap:=h₁,toks:=tk₁ } (α++β) ρ vs E T (F.up k' f') R' r.1) (fun _ _ p=>p.trans k' f') fun _ _ y=>y
theorem Lives.turn{W:Nat->Prop}{s:Shared}{α:List Addr}{ρ:Loc}{h':Heap}(F:FrS X.G f W s.heap α ρ)(k:∀b o,s.heap.get? b=some o->b≠f.env.locals->h'.get? b=some o)(l:∀m,s.heap.Ns f.env.locals m->h'.Ns f.env.locals m):Lives s.heap h':=fun b o e=>by
 by_cases hb:b=f.env.locals
 ·subst hb
  refine cR (F.fr) fun m cm hn _=>?_
  refine jY (l m hn) fun o' _ _ e' _=>?_
  exact ⟨_,e'⟩
 ·exact ⟨o,k b o e hb⟩
theorem FrS.turn{W:Nat->Prop}{s:Shared}{α β:List Addr}{ρ:Loc}{h':Heap}(K:dP f)(F:FrS X.G f W s.heap α ρ)(k:∀b o,s.heap.get? b=some o->b≠f.env.locals->h'.get? b=some o)
  (l:∀m,s.heap.Ns f.env.locals m->h'.Ns f.env.locals m) (fr:∀b∈β,s.heap.get? b=none):FrS X.G f W h' (α++β) ρ:=by
 refine aF (F.fr) fun m cm hn hc hv=>?_
 have kt:KeepsT s.heap h':=fun a items x=>by
  refine cz (x) fun o ho hc' n hd=>?_
  refine ⟨o,k a o ho fun ha=>?_,hc',n,hd⟩
  subst ha
  refine dL (hn) fun o' es ep ho' hd' _=>?_
  rw[ho] at ho';cases ho'
  rw[hd] at hd';cases hd'
 refine ⟨⟨m,cm,?_,?_,fun i x d e1 e2=>?_⟩,fun b o e=>?_,fun n a ha hw=>?_⟩
 ·exact l m hn
 ·exact hc.extBut (fun c o n e=>k c o e n) (GU _)
 ·refine ae (hv i x d e1 e2) fun v hv r=>?_
  exact ⟨v,hv,r.mono d4 kt⟩
 ·refine k b o (F.kb b o e) fun hb=>?_
  subst hb
  rw[K.deadL] at e;cases e
 ·by_cases hl:n<α.length
  ·rw[Hg hl] at ha;exact F.wb n a ha hw
  ·rw[Hk (by exact oqz [α.length,n] [] [(.no (.le (Y1+1) Y0))] (.le Y0 Y1) [11] rfl hl)] at ha
   have hm:=fr a (H8 ha)
   cases e:f.hb.get? a with
   |none=>rfl
   |some o=>have:=F.kb a o e;rw[hm] at this;cases this
noncomputable def OneT(X:SX)(f:FC)(c:Nat × PEs)(e:Expr):Prop:=
 ∃x p r pos,e=.Call (.Name x p) r [] pos/\f.c.g.fns[c.1]?=some x/\f.c.isGlob x=true/\(!r.isEmpty)=true/\cS r=true/\SEs X f.c c.2 r
theorem OneT.run{c:Nat × PEs}{e:Expr}(o:OneT X f c e)(K:dP f)(hT:xt X f)(W:Nat->Prop)(s:Shared)(α:List Addr)(ρ:Loc)(H:Hp)(Q:V->Hp->Prop)(E:Value->Shared->Prop)(T:GF X.G f.c.g X.DT f.hb)(F:FrS X.G f W s.heap α ρ)(R:HR X.G α s.heap H)
  (q:eV X.sub X.Φ c.2 ρ H fun vs H1=>X.Φ (c.1+1000) vs H1 Q fun _ _=>False):wpAny (model X.prog X.w) X.A (eval e f.env) (PostT X.G f s α H Q) E s:=by
 obtain ⟨x,p,r,pos,rfl,hf,hx,he,hn,h⟩:=o
 cases r with|nil=>exact (GZ he).elim|cons a r=>exact Call_ (gA K.env hx (T.at F).g ((T.at F).fn c.1 x hf).1 (yg hT hf (HK.mp hn).1 h W s α ρ H Q E K.env T R F q))
end
section
variable {X:SX}{f:FC}(hA:AOk X.prog X.A)(hΦ:jE X.prog X.w X.G f.c.g X.DT X.A X.Φ)(K:dP f)(hT:xt X f)
include hA hΦ K hT
theorem Gx(i:Nat)(e:PE)(st:Stmt)(h:(gS f.c (.assign i e) st).2=true):SS X f (.assign i e) (gS f.c (.assign i e) st).1:=by
 have h1:=bnd (bnd h).2
 rcases Bool.or_eq_true_iff.mp (bnd h).1 with hc|hc
 ·cases e with
  |comp elt tg caps it cond =>
   have h3:=h1.2
   have htg:=(Bool.or_eq_true_iff.mp (bnd (bnd h3).1).1).imp ode ode
   have hi:=kU hA hΦ it f.c.scope f.c.names _ (bnd (bnd (bnd h3).2).2).1
   exact lJ K h1.1 hA.handled htg (mG (bnd (bnd h3).1).2) (bq hA hΦ elt _ _ _ (bnd (bnd h3).2).1).1 (oY hA hΦ cond _ _ _ (bnd (bnd (bnd h3).2).2).2) hi.1 hi.2
  |_=>exact (GZ hc).elim
 ·exact uI K h1.1 (bq hA hΦ e f.c.scope f.c.names _ h1.2).1 hc
mutual
theorem Cj:(ps:PS)->∀ (st:Stmt),(gS f.c ps st).2=true->SS X f ps (gS f.c ps st).1
 | .skip,_,h=>(GZ h).elim
 | .seq _ _,_,h=>(GZ h).elim
 | .assign i e,st,h=>Gx hA hΦ K hT i e st h
 | .unpack is e,_,h=>uF hA K (bnd (bnd h).1).1 (ode (bnd (bnd h).1).2) (bnd (bnd (bnd h).2).1).1 (bnd (bnd (bnd h).2).1).2 (bq hA hΦ e f.c.scope f.c.names _ (bnd (bnd h).2).2).1
 | .setidx i k e,_,h=>uV K (bnd (bnd h).1).1 (bq hA hΦ k f.c.scope f.c.names _ (bnd (bnd h).2).1).1 (bq hA hΦ e f.c.scope f.c.names _ (bnd (bnd h).2).2).1 (bnd (bnd h).1).2
 | .app i e,_,h=>El K (bnd (bnd h).1).1 rfl (ode (bnd (bnd h).1).2) (bnd (bnd h).2).1 (bq hA hΦ e f.c.scope f.c.names _ (bnd (bnd h).2).2).1
 | .pop i,_,h=>Cf K (bnd h).1 rfl (ode (bnd h).2)
 | .rev i,_,h=>Ec K (bnd h).1 rfl (ode (bnd h).2)
 | .ret e,_,h=>Cq K (bq hA hΦ e f.c.scope f.c.names _ h).1
 | .ite c a b,_,h=>Eg K (bq hA hΦ c f.c.scope f.c.names _ (bnd h).1).2 (je a _ (bnd (bnd h).2).1) (je b _ (bnd (bnd h).2).2)
 | .whl c b,_,h=>Ew K (bq hA hΦ c f.c.scope f.c.names _ (bnd h).1).2 (je b _ (bnd h).2)
 | .forr i it b,_,h=>AY K (bnd h).1 (kU hA hΦ it f.c.scope f.c.names _ (bnd (bnd h).2).1).1 (kU hA hΦ it f.c.scope f.c.names _ (bnd (bnd h).2).1).2 (je b _ (bnd (bnd h).2).2)
 | .raise k,st,h=>fun W s α ρ H N R Y E hW T F HR' hY q=>wpAny_mono (hY k _ s.heap s.toks [] H ρ ⟨_,_,_,_,_,_,_,rfl,ode (bnd h).1,(bnd h).2⟩ .refl (fun b o e=>⟨o,e⟩) (by simpa using HR') (by simpa using F) q) (fun _ _ f=>f.elim) fun _ _ e=>e
 | .opaq,_,h=>(GZ h).elim
theorem je:(ps:PS)->∀ (sts:List Stmt),(gB f.c ps sts).2=true->SB X f ps (gB f.c ps sts).1
 | .skip,_,_=>DF K
 | .seq a b,_,h=>zf K (Cj a _ (bnd h).1) (je b _ (bnd h).2)
 | .opaq,_,_=>fun W s α ρ H N R Y E hW T F HR' hY q=>(show False from q).elim
 | .assign _ _,_,h=>(GZ h).elim
 | .unpack _ _,_,h=>(GZ h).elim
 | .setidx _ _ _,_,h=>(GZ h).elim
 | .app _ _,_,h=>(GZ h).elim
 | .pop _,_,h=>(GZ h).elim
 | .rev _,_,h=>(GZ h).elim
 | .ret _,_,h=>(GZ h).elim
 | .ite _ _ _,_,h=>(GZ h).elim
 | .whl _ _,_,h=>(GZ h).elim
 | .forr _ _ _,_,h=>(GZ h).elim
 | .raise _,_,h=>(GZ h).elim
end
end
theorem bg:∀ (names:List (Str × NameKind)) (n:Nat) (acc:List (Str × Addr)) (x:Str),(names.lookup x=some NameKind.cell\/∃a,acc.lookup x=some a)->∃a,(cellsFrom n names acc).lookup x=some a
 | [],n,acc,x,h=>by
  rcases h with h|h
  ·simp at h
  ·exact h
 | (y,k)::r,n,acc,x,h=>by
  unfold cellsFrom
  by_cases hxy:x=y
  ·subst hxy
   rcases h with h | ⟨a,h⟩
   ·rw[Jo] at h;cases h
    rw[if_pos (by rfl)]
    exact bg r _ _ x (.inr ⟨n,by rw[Jo]⟩)
   ·by_cases hk:(k == NameKind.cell)=true
    ·rw[if_pos hk];exact bg r _ _ x (.inr ⟨n,by rw[Jo]⟩)
    ·rw[if_neg hk];exact bg r _ _ x (.inr ⟨a,h⟩)
  ·have hne:(x == y)=false:=by simpa using hxy
   have h':r.lookup x=some NameKind.cell\/∃a,acc.lookup x=some a:=by
    rcases h with h|h
    ·rw[HE,hne] at h;exact .inl h
    ·exact .inr h
   by_cases hk:(k == NameKind.cell)=true
   ·rw[if_pos hk]
    refine bg r _ _ x ?_
    rcases h' with h' | ⟨a,h'⟩
    ·exact .inl h'
    ·exact .inr ⟨a,by rw[HE,hne];exact h'⟩
   ·rw[if_neg hk];exact bg r _ _ x h'
theorem eu:∀ (names:List (Str × NameKind)) (n:Nat) (acc:List (Str × Addr)),(cellsFrom n names acc).map (·.1)=((names.filter fun x=>x.2 == NameKind.cell).map (·.1)).reverse++acc.map (·.1)
 | [],n,acc=>by simp[cellsFrom]
 | (y,k)::r,n,acc=>by
  unfold cellsFrom
  by_cases hk:(k == NameKind.cell)=true
  ·rw[if_pos hk,eu r];simp[hk]
  ·rw[if_neg hk,eu r];simp[hk]
theorem dS{β:Type}:∀ (l:List (Str × β)) (x:Str) (v:β),(l.map (·.1)).Nodup->(x,v)∈l->l.lookup x=some v
 | [],_,_,_,h=>by simp at h
 | (y,u)::r,x,v,hn,h=>by
  rw[G1,J1] at hn
  rcases Hf.mp h with h|h'
  ·cases h;rw[Jo]
  ·have hne:(x == y)=false:=by
    simp only[beq_eq_false_iff_ne]
    intro e;subst e
    exact hn.1 (Hq.mpr ⟨_,h',rfl⟩)
   rw[HE,hne];exact dS r x v hn.2 h'
theorem lj{k:Str->Option NameKind}:∀ (binds:List (Str × Value)) (m:Str->Option Value) (x:Str),x ∉ binds.map (·.1)->bindL k binds m x=m x
 | [],_,_,_=>rfl
 | (n,v)::r,m,x,h=>by
  simp only[G1,Hf,not_or] at h
  unfold bindL
  rw[lj r _ x h.2]
  split
  ·exact if_neg h.1
  ·rfl
theorem mB{k:Str->Option NameKind}:∀ (binds:List (Str × Value)) (m:Str->Option Value) (x:Str) (v:Value),(binds.map (·.1)).Nodup->(x,v)∈binds->k x=some .local->bindL k binds m x=some v
 | [],_,_,_,_,h,_=>by simp at h
 | (n,u)::r,m,x,v,hn,h,hk=>by
  rw[G1,J1] at hn
  unfold bindL
  rcases Hf.mp h with h|h
  ·cases h
   rw[lj r _ _ hn.1,if_pos hk];exact if_pos rfl
  ·exact mB r _ x v hn.2 h hk
theorem lu{k:Str->Option NameKind}:∀ (binds:List (Str × Value)) (m:Str->Option Value) (x:Str),x ∉ binds.map (·.1)->bindC k binds m x=m x
 | [],_,_,_=>rfl
 | (n,v)::r,m,x,h=>by
  simp only[G1,Hf,not_or] at h
  unfold bindC
  rw[lu r _ x h.2]
  split
  ·rfl
  ·exact if_neg h.1
theorem mf{k:Str->Option NameKind}:∀ (binds:List (Str × Value)) (m:Str->Option Value) (x:Str) (v:Value),(binds.map (·.1)).Nodup->(x,v)∈binds->k x≠some .local->bindC k binds m x=some v
 | [],_,_,_,_,h,_=>by simp at h
 | (n,u)::r,m,x,v,hn,h,hk=>by
  rw[G1,J1] at hn
  unfold bindC
  rcases Hf.mp h with h|h
  ·cases h
   rw[lu r _ _ hn.1,if_neg hk];exact if_pos rfl
  ·exact mf r _ x v hn.2 h hk
structure kZ (gc:GC)(d:dK)(f:Fn)(vs:List Str):Prop where
 nodup:vs.Nodup
 kind:d.scope.kind=.function
 coro:d.scope.isCoroutine=false
 gen:d.scope.isGenerator=false
 nofree:∀x,d.scope.names.lookup x≠some NameKind.free
 uniq:((d.scope.names.filter fun x=>x.2 == NameKind.cell).map (·.1)).Nodup
 par:∀x∈vs.take f.np,d.scope.names.lookup x=some .local\/d.scope.names.lookup x=some .cell
 bind:∀ (pm cd doc:Value) (vals:List Value),vals.length=f.np->bindArgs (docDef d.name d.params d.body d.scope pm cd doc) ⟨vals,[]⟩=pure ((vs.take f.np).zip vals)
 body:gB ⟨gc,d.scope,vs⟩ f.body d.body=(d.body,true)
theorem v4{gc:GC}{d:dK}{f:Fn}{vs:List Str}(D:kZ gc d f vs)(L a:Addr)(cd:Value):ch ⟨gc,d.scope,vs⟩ (envOfC d.name d.scope L a cd) where
 kind:=D.kind
 globals:=rfl
 builtins:=rfl
 loc:=fun x e=>e
 glob:=fun x e=>e
 cel:=fun x e=>e
 fre:=fun x e=>absurd e (D.nofree x)
 cells:=fun x e=>by
  rcases e with e|e
  ·exact bg _ _ _ x (.inl e)
  ·exact absurd e (D.nofree x)
theorem uo{β:Type}:∀ {xs:List Str}{ys:List β}{i:Nat}{x:Str}{y:β},xs[i]?=some x->ys[i]?=some y->(x,y)∈xs.zip ys
 | [],_,_,_,_,h,_=>by simp at h
 |_::_,[],_,_,_,_,h=>by simp at h
 |_::_,_::_,0,_,_,h1,h2=>by simp at h1 h2;subst h1 h2;simp
 |_::_,_::_,i+1,_,_,h1,h2=>by
  simp at h1 h2
  simp only[List.zip_cons_cons,Hf]
  exact .inr (uo h1 h2)
theorem qU{np nv:Nat}{vs:List V}{i:Nat}{d:V}(h:af (eG np nv vs) i=some d):vs[i]?=some d:=by
 have key:∀ (l:List V) (n i:Nat),af (l.map some++List.replicate n none) i=some d->l[i]?=some d:=fun l=>by
  induction l with
  |nil =>
   intro n
   induction n with
   |zero=>intro i h;cases h
   |succ n ih =>
    intro i h
    cases i with
    |zero=>cases h
    |succ i=>exact absurd (ih i h) (by simp)
  |cons x l ih =>
   intro n i h
   cases i with
   |zero=>exact h
   |succ i=>exact ih n i h
 exact key vs _ i h
structure Room (prog:Program)(A:Around)(n:Nat):Prop where
 handled:A.handled=none
 depth:A.depth+n+100<recursionLimit
 units:A.units+3*n+100<cLine
 tree:prog.given.tree=none
 frames:∃l,A.frames=some l
theorem Room.down{prog:Program}{A:Around}{n:Nat}{env:Env}(r:Room prog A (n+1)):Room prog (A.deeper env) n:=
 ⟨r.handled,rm1 r.depth,rm2 r.units,r.tree,by
  obtain ⟨l,e⟩:=r.frames
  exact ⟨env::l,by show A.frames.map (env :: ·)=_;rw[e];rfl⟩⟩
theorem Room.ok{prog:Program}{A:Around}{n:Nat}{env:Env}(r:Room prog A (n+1))(hg:env.scope.isGenerator=false)(hc:env.scope.isCoroutine=false)(hb:env.builtins=builtinsNs)(hm:env.globals=mainGlobals):AOk prog (A.deeper env):=by
 obtain ⟨l,e⟩:=r.frames
 refine ⟨r.handled,rm3 r.units,fun w s hl hs=>PylongRoom.of hl ?_ (SeerAt.of hs r.tree (env:=env) (l:=l) (by show A.frames.map (env :: ·)=_;rw[e];rfl) hg hc hb hm)⟩
 exact rm4 r.depth
section
variable {prog:Program}{w:World}{G:GV}{gc:GC}{DT:List dK}{P:List Fn}{sub:Nat->Nat->Bool}
theorem jU{H H':Hp}(hs:∀n,n<H.length->H'[n]?=H[n]?)(hl:H.length<=H'.length):H'=H++H'.drop H.length:=by
 conv=>lhs;rw[<- List.take_append_drop H.length H']
 congr 1
 apply List.ext_getElem?
 intro n
 by_cases hn:n<H.length
 ·rw[List.getElem?_take,if_pos hn];exact hs n hn
 ·rw[List.getElem?_take,if_neg hn,List.getElem?_eq_none (by exact oqz [List.length H,n] [] [(.no (.le (Y1+1) Y0))] (.le Y0 Y1) [11] rfl hn)]
noncomputable def SCallC(prog:Program)(w:World)(G:GV)(gc:GC)(DT:List dK)(A:Around)(Φ:Call):Prop:=
 ∀ (f:Nat) (x:Str) (vs:List V) (H:Hp) (Q:V->Hp->Prop),gc.fns[f]?=some x->Φ f vs H Q (fun _ _=>False)->∀ (s:Shared) (α:List Addr) (vals:List Value) (E:Value->Shared->Prop),
  GF G gc DT s.heap->HR G α s.heap H->Reps G α s.heap vals vs->codeAny (model prog w) A (.call (.ref (G.fa f)) ⟨vals,[]⟩)
   (fun r s'=>match r with | .ok (.ret v)=>Post G (Rep G) s α H Q v s' | .ok _=>False | .error e=>E e s') s
theorem SCallC.wp{A:Around}{Φ:Call}(h:SCallC prog w G gc DT A Φ):jE prog w G gc DT A Φ:=fun f x vs H Q hx hq s α vals E T R r=>wpAny_call (h f x vs H Q hx hq s α vals E T R r)
theorem vk{n:Nat}{A:Around}{Φ:Call}{f:Nat}{s:Shared}(hA:Room prog A (n+1))(hdefs:∀ (k:Nat) (d:dK) (f:Fn),DT[k]?=some d->P[k]?=some f->∃vs,kZ gc d f vs)(hΦ:∀env,jE prog w G gc DT (A.deeper env) Φ)
  (hT:∀ (d:dK) (vn:List Str) (cd:Value),DT[f]?=some d ->
   xt ⟨prog,w,G,DT,A.deeper (envOfC d.name d.scope s.heap.objs.size (G.fa f) cd),sub,Φ⟩ ⟨⟨gc,d.scope,vn⟩,envOfC d.name d.scope s.heap.objs.size (G.fa f) cd,s.heap⟩)
  {x:Str}{vs:List V}{H:Hp}{Q:V->Hp->Prop}{Y:Nat->Hp->Prop}{fd:Fn} (hx:gc.fns[f]?=some x) (hf:P[f]?=some fd) (hlen:vs.length=fd.np)
  (hw:wpS sub Φ (fun m=>H.length<=m) fd.body (eG fd.np fd.nv vs) H (fun _ H'=>Q .none H') Q Y) (α:List Addr) (vals:List Value) (E:Value->Shared->Prop)
  (hR:∀ (d:dK) (vn:List Str) (cd:Value) (h₁:Heap) (tk:Nat),DT[f]?=some d->kZ gc d fd vn->KeepsH s.heap h₁->RaiseOk ⟨prog,w,G,DT,A.deeper (envOfC d.name d.scope s.heap.objs.size (G.fa f) cd),sub,Φ⟩ ⟨⟨gc,d.scope,vn⟩,envOfC d.name d.scope s.heap.objs.size (G.fa f) cd,s.heap⟩ (fun m=>H.length<=m)
   { s with heap:=h₁,toks:=tk } α H Y (fun e s'=>wpAny (model prog w) (A.deeper (envOfC d.name d.scope s.heap.objs.size (G.fa f) cd)) (leaving (envOfC d.name d.scope s.heap.objs.size (G.fa f) cd) e) (fun _ s''=>E e s'') (fun e' s''=>E e' s'') s'))
  (T:GF G gc DT s.heap) (R:HR G α s.heap H) (r:Reps G α s.heap vals vs):codeAny (model prog w) A (.call (.ref (G.fa f)) ⟨vals,[]⟩)
   (fun r s'=>match r with | .ok (.ret v)=>Post G (Rep G) s α H Q v s' | .ok _=>False | .error e=>E e s') s:=by
 refine dI (T.fn f x hx) fun hm d o pm cd doc hd hname ho hdata hcd=>?_
 obtain ⟨vn,D⟩:=hdefs f d fd hd hf
 have hvl:vals.length=fd.np:=r.len.trans hlen
 have hkindOf:∀ (x:Str),x∈vn.take fd.np->d.scope.names.lookup x=some .local\/(d.scope.names.lookup x=some .cell/\((cellsFrom (s.heap.objs.size+1) d.scope.names []).lookup x).isSome=true):=fun x hx=>by
  rcases D.par x hx with e|e
  ·exact .inl e
  ·obtain ⟨a,ha⟩:=bg d.scope.names (s.heap.objs.size+1) [] x (.inl e)
   exact .inr ⟨e,by rw[ha];rfl⟩
 have hmemz:∀y∈(vn.take fd.np).zip vals,y.1∈vn.take fd.np:=fun y hy=>(List.of_mem_zip (show (y.1,y.2)∈_ from hy)).1
 refine (call_cells (rm5 hA.depth) ho hdata T.nolimit hcd (D.bind pm cd doc vals hvl) (fun y hy=>hkindOf y.1 (hmemz y hy)) (fun h₁ tk Fr' Cl'=>?_) D.coro D.gen D.kind)
 let env:=envOfC d.name d.scope s.heap.objs.size (G.fa f) cd
 let fc:FC:=⟨⟨gc,d.scope,vn⟩,env,s.heap⟩
 let X:SX:=⟨prog,w,G,DT,A.deeper env,sub,Φ⟩
 have K:dP fc:=by
  refine ⟨v4 D _ _ _,D.nodup,D.nofree,cK _,fun m a hm=>jC (Ji (Cl'.above m a hm)),Cl'.above,Cl'.apart,fun m a hm=>?_⟩
  refine dS _ _ _ ?_ hm
  show ((cellsFrom _ _ _).map (·.1)).Nodup
  rw[eu]
  rw[List.map_nil,List.append_nil]
  exact (List.reverse_perm _).nodup_iff.mpr D.uniq
 have hnd:(((vn.take fd.np).zip vals).map (·.1)).Nodup:=by
  refine List.Nodup.sublist ?_ (List.Nodup.sublist (List.take_sublist fd.np vn) D.nodup)
  have:∀ (a:List Str) (b:List Value),((a.zip b).map (·.1)).Sublist a:=fun a=>by
   induction a with
   |nil=>intro b;simp
   |cons x a ih=>intro b;cases b with
    |nil=>simp
    |cons y b=>simpa using ih b
  exact this _ _
 have hkeep:KeepsH s.heap h₁:=Fr'.keep
 have F:FrS G fc (fun m=>H.length<=m) h₁ α (eG fd.np fd.nv vs):=by
  refine ⟨⟨_,_,Fr'.ns,Cl',fun i y dv hi hd'=>?_⟩,hkeep,fun m a ha hm=>?_⟩
  ·have hvi:=qU hd'
   refine ae (r.get hvi) fun v hv rv=>?_
   have hil:i<fd.np:=by rw[<- hlen];exact (GX.mp hvi).1
   have hyt:(vn.take fd.np)[i]?=some y:=by rw[List.getElem?_take,if_pos hil];exact hi
   have hz:(y,v)∈(vn.take fd.np).zip vals:=uo hyt hv
   refine ⟨v,?_,rv.mono (fun _ _ e=>e) (.of hkeep)⟩
   rcases hkindOf y (hmemz _ hz) with e | ⟨e,_⟩
   ·exact .inl ⟨e,mB _ _ _ _ hnd hz e⟩
   ·exact .inr ⟨e,mf _ _ _ _ hnd hz (by rw[show (envOfC d.name d.scope s.heap.objs.size (G.fa f) cd).kindOf y=some .cell from e];simp),bg _ _ _ y (.inl e)⟩
  ·have:=(GX.mp ha).1
   rw[R.len] at this;exact absurd hm (Nat.not_le.mpr this)
 have hb:SB X fc fd.body (gB ⟨gc,d.scope,vn⟩ fd.body d.body).1:=je (X:=X) (f:=fc) (hA.ok (env:=env) D.gen D.coro rfl rfl) (hΦ env) K (hT d vn cd hd) fd.body d.body (congrArg Prod.snd D.body)
 rw[D.body] at hb
 have hs:=hb (fun m=>H.length<=m) { s with heap:=h₁,toks:=tk } α _ H _ _ _ _
  (fun m hm=>GP R.pos hm) T F (R.keeps hkeep) (hR d vn cd h₁ tk hd D hkeep) hw
 refine wpAny_mono hs (fun fl s' p=>?_) fun _ _ e=>e
 obtain ⟨h',tk',β,H',rfl,st,lv,R',pf⟩:=p
 have hH':H'=H++H'.drop H.length:=jU (fun m hm=>st.same m hm (Nat.not_le.mpr hm)) st.le
 have fresh:∀b∈β,s.heap.get? b=none:=fun b hb=>by
  cases e:s.heap.get? b with
  |none=>rfl
  |some o'=>have:=st.fresh b hb;rw[show ({ s with heap:=h₁,toks:=tk }:Shared).heap.get? b=some o' from hkeep b o' e] at this;cases this
 cases fl with
 |next =>
  refine ae (pf) fun ρ' F' hN=>?_
  exact ⟨h',tk',β,_,.none,rfl,F'.kb,fresh,hH' ▸ R',Rep.none,hH' ▸ hN⟩
 |ret v =>
  refine qP (pf) fun kb dv rv hR=>?_
  exact ⟨h',tk',β,_,dv,rfl,kb,fresh,hH' ▸ R',rv,hH' ▸ hR⟩
 |_=>exact pf.elim
theorem uY{n:Nat}{A:Around}{Φ:Call}{f:Nat}{s:Shared}(hA:Room prog A (n+1))(hdefs:∀ (k:Nat) (d:dK) (f:Fn),DT[k]?=some d->P[k]?=some f->∃vs,kZ gc d f vs)(hΦ:∀env,jE prog w G gc DT (A.deeper env) Φ)
  (hT:∀ (d:dK) (vn:List Str) (cd:Value),DT[f]?=some d ->
   xt ⟨prog,w,G,DT,A.deeper (envOfC d.name d.scope s.heap.objs.size (G.fa f) cd),sub,Φ⟩ ⟨⟨gc,d.scope,vn⟩,envOfC d.name d.scope s.heap.objs.size (G.fa f) cd,s.heap⟩)
  {x:Str}{vs:List V}{H:Hp}{Q:V->Hp->Prop}{fd:Fn} (hx:gc.fns[f]?=some x) (hf:P[f]?=some fd) (hlen:vs.length=fd.np)
  (hw:wpS sub Φ (fun m=>H.length<=m) fd.body (eG fd.np fd.nv vs) H (fun _ H'=>Q .none H') Q (fun _ _=>False)) (α:List Addr) (vals:List Value) (E:Value->Shared->Prop)
  (T:GF G gc DT s.heap) (R:HR G α s.heap H) (r:Reps G α s.heap vals vs):codeAny (model prog w) A (.call (.ref (G.fa f)) ⟨vals,[]⟩)
   (fun r s'=>match r with | .ok (.ret v)=>Post G (Rep G) s α H Q v s' | .ok _=>False | .error e=>E e s') s:=
 vk hA hdefs hΦ hT hx hf hlen hw α vals E (fun d vn cd h₁ tk _ _ _ k st h' tk' β H' ρ' _ _ _ _ _ hf=>hf.elim) T R r
theorem jI(hlenP:P.length=gc.fns.length)(hP:P.length<=1000)(hdefs:∀ (k:Nat) (d:dK) (f:Fn),DT[k]?=some d->P[k]?=some f->∃vs,kZ gc d f vs) :
  ∀ (n:Nat) (A:Around),Room prog A n->SCallC prog w G gc DT A (ag sub P n)
 |0,A,_=>fun f x vs H Q _ h=>(show False from h).elim
 |n+1,A,hA=>fun f x vs H Q hx h s α vals E T R r=>by
  refine cr (h) fun fd hf hlen hw=>?_
  refine uY hA hdefs (fun env=>(jI hlenP hP hdefs n _ hA.down).wp) (fun d vn cd _ k x vs H Q _ hk=>?_) hx hf hlen hw α vals E T R r
  ·replace hk:ag sub P n (k+1000) vs H Q (fun _ _=>False):=hk
   cases n with
   |zero=>exact (show False from hk).elim
   |succ n =>
    obtain ⟨d',hd',_⟩:=hk
    have:=(GX.mp hd').1
    exact absurd this (Nat.not_lt.mpr (GP hP (Jn _ _)))
end
theorem lK:∀ (ns:List Str) (vals:List Value),ns.Nodup->vals.length=ns.length->∀x∈ns,(((ns.zip vals).lookup x).isNone)=false
 | [],_,_,_,x,h=>by simp at h
 |n::ns,[],_,h,_,_=>by simp at h
 |n::ns,v::vals,hn,hl,x,hx=>by
  rw[List.zip_cons_cons]
  by_cases e:x=n
  ·subst e;rw[Jo];rfl
  ·have:(x == n)=false:=by simpa using e
   rw[HE,this]
   rw[J1] at hn
   exact lK ns vals hn.2 (by simpa using hl) x (by simpa [e] using hx)
theorem lY:∀ (ns:List Str) (vals:List Value),ns.Nodup->vals.length=ns.length->(ns.filterMap fun n=>((ns.zip vals).lookup n).map (n,·))=ns.zip vals:=by
 have key:∀ (ms:List Str) (us:List Value) (f:Str->Option Value),us.length=ms.length->(∀n v,(n,v)∈ms.zip us->f n=some v)->(ms.filterMap fun n=>(f n).map (n,·))=ms.zip us:=fun ms=>by
  induction ms with
  |nil=>intro us f _ _;simp
  |cons n ms ih =>
   intro us f hl h
   cases us with
   |nil=>simp at hl
   |cons u us =>
    rw[List.filterMap_cons,h n u (by simp),List.zip_cons_cons]
    show (n,u)::_=_
    rw[ih us f (by simpa using hl) fun a b hab=>h a b (by simp[hab])]
 intro ns vals hn hl
 refine key ns vals _ hl fun n v h=>?_
 refine dS _ _ _ ?_ h
 have:(ns.zip vals).map (·.1)=ns:=List.map_fst_zip (by exact oqz [ns.length,vals.length] [] [(.eq Y1 Y0)] (.le Y0 Y1) [101] rfl hl)
 rw[this];exact hn
theorem qW{name:Str}{params:Arguments}{body:List Stmt}{scope:Scope}{pm cd doc:Value}{vals:List Value}{ns:List Str}
  (h1:params.posonlyargs=[]) (h2:params.vararg=none) (h3:params.kwonlyargs=[]) (h4:params.kwarg=none) (hns:params.args.map (·.arg)=ns) (hn:ns.Nodup) (hl:vals.length=ns.length) :
  bindArgs (docDef name params body scope pm cd doc) ⟨vals,[]⟩=pure (ns.zip vals):=by
 obtain ⟨po,ar,va,ko,kd,kw,df⟩:=params
 simp only at h1 h2 h3 h4 hns
 subst h1 h2 h3 h4
 subst hns
 dsimp only[bindArgs,docDef,List.map_nil,List.nil_append,List.append_nil]
 generalize List.map (fun x:Arg=>x.arg) ar=ns at hn hl ⊢
 have hf:(List.filter (fun n=>(List.lookup n (ns.zip vals)).isNone) ns)=[]:=by
  rw[List.filter_eq_nil_iff]
  intro x hx
  rw[lK _ _ hn hl x hx];simp
 have hg:=lY _ _ hn hl
 have hns:notAStandIn Value.none=pure ():=rfl
 dsimp [seqItems?]
 simp[hl,hns]
 have hc:¬ ((!(List.filter (fun n=>(List.lookup n (ns.zip vals)).isNone) (List.take (ns.length-(List.drop ((#[]:Array Value).size-ns.length) ([]:List Value)).length) ns)).isEmpty)=true):=by
  simp only[List.drop_nil,List.length_nil,Nat.sub_zero,List.take_length,hf];decide
 exact (if_neg hc).trans (congrArg pure hg)
end Mine
namespace Mine
open PySem PyProof.Rows PySem.Calls PySem.W
noncomputable def mN(r:DefRec):dK:=⟨r.name,r.params,r.body,r.scope⟩
noncomputable def rE(gc:GC)(d:dK)(f:Fn)(vs:List Str):Bool:=
 decide vs.Nodup && decide (d.scope.kind=.function) && (d.scope.isCoroutine == false) && (d.scope.isGenerator == false) && d.scope.names.all (fun x=>decide (x.2≠NameKind.free)) &&
 decide ((d.scope.names.filter fun x=>x.2 == NameKind.cell).map (·.1)).Nodup &&
 (vs.take f.np).all (fun x=>decide (d.scope.names.lookup x=some NameKind.local) ||decide (d.scope.names.lookup x=some NameKind.cell)) &&
 d.params.posonlyargs.isEmpty && d.params.vararg.isNone && d.params.kwonlyargs.isEmpty && d.params.kwarg.isNone && decide (d.params.args.map (·.arg)=vs.take f.np) && decide (f.np<=vs.length)
theorem vO{gc:GC}{d:dK}{f:Fn}{vs:List Str}(h:rE gc d f vs=true)(hb:gB ⟨gc,d.scope,vs⟩ f.body d.body=(d.body,true)):kZ gc d f vs:=by
 unfold rE at h
 simp only[H6,It,beq_iff_eq,List.isEmpty_iff,Option.isNone_iff_eq_none] at h
 obtain ⟨⟨⟨⟨⟨⟨⟨⟨⟨⟨⟨⟨h1,h2⟩,h3⟩,h4⟩,h5⟩,h6⟩,h7⟩,h8⟩,h9⟩,h10⟩,h11⟩,h12⟩,h13⟩:=h
 refine ⟨h1,h2,h3,h4,fun x e=>?_,h6,fun x hx=>?_,fun pm cd doc vals hv=>?_,hb⟩
 ·have:=JQ.mp h5 (x,NameKind.free) (JX e)
  simp at this
 ·have:=JQ.mp h7 x hx
  simpa using this
 ·exact qW h8 h9 h10 h11 h12 (List.Nodup.sublist (List.take_sublist _ _) h1) (by rw[hv,JA];exact oqz [f.np,min f.np vs.length,vs.length] [] [(.le Y0 Y2),(.or (.an (.le Y0 Y2) (.eq Y1 Y0)) (.an (.le Y2 Y0) (.eq Y1 Y2)))] (.eq Y0 Y1) [1001,1101,10001,10011] rfl h13 (Mine.lP (f.np) (vs.length)))
noncomputable def xz(gc:GC):List dK->List Fn->List (List Str)->Bool
 | [],[],[]=>true
 |d::ds,f::fs,v::vs=>rE gc d f v && xz gc ds fs vs
 |_,_,_=>false
noncomputable def qM(gc:GC):List dK->List Fn->List (List Str)->List (List Stmt × Bool)
 |d::ds,f::fs,v::vs=>gB ⟨gc,d.scope,v⟩ f.body d.body::qM gc ds fs vs
 |_,_,_=>[]
structure Chk (gc:GC)(DT:List dK)(P:List Fn)(VT:List (List Str)):Prop where
 a:xz gc DT P VT=true
 b:qM gc DT P VT=DT.map fun d=>(d.body,true)
theorem sC{gc:GC}:∀ {DT:List dK}{P:List Fn}{VT:List (List Str)},Chk gc DT P VT->P.length=DT.length/\∀ (k:Nat) (d:dK) (f:Fn),DT[k]?=some d->P[k]?=some f->∃vs,kZ gc d f vs
 | [],[],[],_=>⟨rfl,fun k d f h=>by simp at h⟩
 |d::ds,f::fs,v::vs,h=>by
  have h1:=HK.mp h.a
  have h2:=List.cons.inj h.b
  obtain ⟨hl,hr⟩:=sC ⟨h1.2,h2.2⟩
  refine ⟨by simp[hl],fun k d' f' e1 e2=>?_⟩
  cases k with
  |zero=>simp at e1 e2;subst e1 e2;exact ⟨v,vO h1.1 h2.1⟩
  |succ k=>simp at e1 e2;exact hr k d' f' e1 e2
 | [],[],_::_,h=>(GZ h.a).elim
 | [],_::_,_,h=>(GZ h.a).elim
 |_::_,[],_,h=>(GZ h.a).elim
 |_::_,_::_,[],h=>(GZ h.a).elim
theorem uK{G:GV}{α:List Addr}{h:Heap}{vs:List Value}{ns:List Int}(r:IntsAre vs ns):Reps G α h vs (ns.map .int):=by
 induction r with
 |nil=>exact .nil
 |cons n t r ih=>exact .cons (.int n t) ih
noncomputable def hV(mg:Str->Option Value)(fns:List Str)(k:Nat):Addr:=match fns[k]? with|some x=>(match mg x with|some (.ref a)=>a|_=>0) |none=>0
section
variable {prog:Program}{w:World}{view:Program}{loose:List Str}{mean:ExcName->Option Value}{mg mb:Str->Option Value}
theorem vz{h:Heap}{gc:GC}(T:Top view loose mean mg mb h)(hfns:gc.fns=(recsOf view).map (·.name))  (hglobs:gc.globs=[])(hseer:importsNone view=true)
  (hblt:(bltNames.all fun x=>!startupNames.contains x && !loose.contains x && !((recsOf view).map (·.name)).contains x && !((litsOf view).map (·.1)).contains x && !((clssOf view loose).map (·.name)).contains x && decide (x ≠ "__name__"))=true) :
  GF ⟨mg,mb,hV mg gc.fns,fun _=>.none⟩ gc ((recsOf view).map mN) h where
 g:=T.g
 b:=T.b
 nolimit:=T.nolimit
 seer:=T.seer hseer
 fn:=fun k x e=>by
  have e0:=e
  rw[hfns,Hj] at e
  cases hr:(recsOf view)[k]? with
  |none=>rw[hr] at e;simp at e
  |some r =>
   rw[hr] at e;simp at e;subst e
   refine pJ (T.fn r (H8 hr)) fun a o pm cd doc h1 h2 h3 h4=>?_
   have hfa:hV mg gc.fns k=a:=by unfold hV;rw[e0];simp[h1]
   refine ⟨by show mg r.name=some (.ref (hV mg gc.fns k));rw[hfa];exact h1,mN r,o,pm,cd,doc,by rw[Hj,hr];rfl,rfl,?_,h3,h4⟩
   show h.get? (hV mg gc.fns k)=some o
   rw[hfa];exact h2
 blt:=fun x hx=>by
  have:=JQ.mp hblt x hx
  simp only[H6,Bool.not_eq_true',It] at this
  obtain ⟨⟨⟨⟨⟨h1,h2⟩,h3⟩,h4⟩,h5⟩,h6⟩:=this
  have nm:∀ {l:List Str},l.contains x=false->x ∉ l:=fun {l} h hm=>by
   rw[List.contains_iff_mem.mpr hm] at h;cases h
  exact ⟨T.free x (nm h1) (nm h2) (nm h3) (nm h4) (nm h5),T.builtins x h6⟩
 glob:=fun x a b e=>by rw[hglobs] at e;simp at e
theorem rN{prog:Program}{n:Nat}(ht:prog.given.tree=none)(hn:n<=500):Room prog callerA n:=⟨rfl,by show 1+300+n+100<1000;exact oqz [n] [] [(.le Y0 500)] (.le (301+Y0+100+1) 1000) [11] rfl hn,by show 4+3*n+100<9900;exact oqz [n] [] [(.le Y0 500)] (.le (.a (.a (.a 4 (.m 3 Y0)) 100) 1) 9900) [31] rfl hn,ht,[],rfl⟩
theorem zo(htree:prog.given.tree=none){s:Shared}{gc:GC}{G:GV}{DT:List dK}{P:List Fn}{VT:List (List Str)}{sub:Nat->Nat->Bool}(F:GF G gc DT s.heap)(hlen:gc.fns.length=DT.length)(hchk:Chk gc DT P VT)
  {l:Addr}{vs:List Value}{ns:List Int} (hP1:P.length<=1000) (hl:s.heap.IsList l vs.toArray) (hI:IntsAre vs ns) (h63:ns.length<=63) {k n:Nat}{x:Str}{fa:Addr} (hk:gc.fns[k]?=some x) (hfa:G.mg x=some (.ref fa)) (hn:n<=500)
  (hw:ag sub P n k [.lst 0] [ns.map .int] (fun v _=>v=.bool true) (fun _ _=>False)) {R:Result->Shared->Prop}
  (hR:∀h' tk,KeepsH s.heap h'->R (.ok (.ret (.bool true))) { s with heap:=h',toks:=tk }) :
  codeAny (model prog w) callerA (.call (.ref fa) ⟨[.ref l],[]⟩) R s:=by
 obtain ⟨hP,hdefs⟩:=sC hchk
 have hsc:=jI (prog:=prog) (w:=w) (G:=G) (sub:=sub) (by rw[hP,hlen]) hP1 hdefs n callerA (rN htree hn)
 have hf:G.fa k=fa:=by
  have:=(F.fn k x hk).1
  rw[hfa] at this;injection this with this;injection this with this;exact this.symm
 have HR0:HR G [l] s.heap [ns.map .int]:=by
  refine ⟨rfl,by simp,by simp,fun m a xs e1 e2=>?_⟩
  cases m with
  |zero =>
   simp at e1 e2;subst e1 e2
   refine ⟨vs,hl,uK hI,?_,fun h=>absurd rfl h⟩
   rw[GO];exact GP h63 (by decide)
  |succ m=>simp at e1
 have:=hsc k x [.lst 0] [ns.map .int] _ hk hw s [l] [.ref l] (fun _ _=>False) F HR0 (.cons (Rep.lst rfl) .nil)
 rw[hf] at this
 refine codeAny_mono this fun r s' p=>?_
 cases r with
 |error e=>exact p.elim
 |ok fl =>
  cases fl with
  |ret v =>
   obtain ⟨h',tk,β,K,d,rfl,kp,_,_,rp,rfl⟩:=p
   cases rp
   exact hR h' tk kp
  |_=>exact p.elim
end
end Mine
namespace Mine
open PySem
noncomputable def Sm(k:Nat)(x:Int):Prop:=x.natAbs<2^k
theorem Sm.mono{k l:Nat}{x:Int}(h:Sm k x)(hl:k<=l):Sm l x:=JF h (HL (by decide) hl)
theorem Sm.mul{k l:Nat}{x y:Int}(h1:Sm k x)(h2:Sm l y):Sm (k+l) (x*y):=by
 unfold Sm at *
 rw[HU,IW]
 exact Nat.mul_lt_mul'' h1 h2
theorem Sm.add{k:Nat}{x y:Int}(h1:Sm k x)(h2:Sm k y):Sm (k+1) (x+y):=by
 unfold Sm at *
 rw[I8];exact oqz [(x+y).natAbs,2^k,x.natAbs,y.natAbs] [x,y] [(.le (Y2+1) Y1),(.le (Y3+1) Y1),(.an (.il Y0 (.c Y2)) (.il (.g Y0) (.c Y2))),(.an (.il Y1 (.c Y3)) (.il (.g Y1) (.c Y3))),(ona (Y0+Y1) Y0)] (.le (Y0+1) (.r Y1 2)) [100101111,101010111] rfl h1 h2 (bC (x)) (bC (y)) (bn (x+y))
theorem Sm.sub{k:Nat}{x y:Int}(h1:Sm k x)(h2:Sm k y):Sm (k+1) (x-y):=by
 unfold Sm at *
 rw[I8];exact oqz [(x-y).natAbs,2^k,x.natAbs,y.natAbs] [x,y] [(.le (Y2+1) Y1),(.le (Y3+1) Y1),(.an (.il Y0 (.c Y2)) (.il (.g Y0) (.c Y2))),(.an (.il Y1 (.c Y3)) (.il (.g Y1) (.c Y3))),(ona (.s Y0 Y1) Y0)] (.le (Y0+1) (.r Y1 2)) [101001111,100110111] rfl h1 h2 (bC (x)) (bC (y)) (bn (x-y))
theorem Sm.neg{k:Nat}{x:Int}(h1:Sm k x):Sm k (-x):=by
 unfold Sm at *;exact oqz [(-x).natAbs,2^k,x.natAbs] [x] [(.le (Y2+1) Y1),(.an (.il Y0 (.c Y2)) (.il (.g Y0) (.c Y2))),(ona (.g Y0) Y0)] (.le (Y0+1) Y1) [101011,100111] rfl h1 (bC (x)) (bn (-x))
theorem Sm.bits{k:Nat}{x:Int}(h:Sm k x):Builtin.Int.intBits x<=k:=by
 unfold Builtin.Int.intBits
 split
 ·exact Hl _
 ·rename_i hx
  have:x.natAbs≠0:=by simpa using hx
  exact (Nat.log2_lt this).mpr h
theorem IntMulOk.left{a b:Int}(h:Sm 64 a):IntMulOk a b:=IntMulOk.of_left h.bits
theorem IntMulOk.right{a b:Int}(h:Sm 64 b):IntMulOk a b:=IntMulOk.of_right h.bits
theorem IntMulOk.sum{k l:Nat}{a b:Int}(h1:Sm k a)(h2:Sm l b)(h:k+l<=134217728):IntMulOk a b:=by
 have e:(2:Nat)^27=134217728:=by decide
 have b1:=h1.bits
 have b2:=h2.bits
 have h3:Builtin.Int.intTooBig (Builtin.Int.intBits a+Builtin.Int.intBits b)=false:=by
  unfold Builtin.Int.intTooBig bitsLine
  exact decide_eq_false (by exact oqz [Builtin.Int.intBits a,Builtin.Int.intBits b,k,l] [] [(.le (Y2+Y3) 134217728),(.le Y0 Y2),(.le Y1 Y3)] (.no (.il (.a (.c 134217728) 1) (.a (.c Y0) (.c Y1)))) [1111] rfl h b1 b2)
 unfold IntMulOk
 rw[h3];simp
theorem IntMulOk.sm{k l:Nat}{a b:Int}(h1:Sm k a)(h2:Sm l b)(hk:k<=67108864)(hl:l<=67108864):IntMulOk a b:=IntMulOk.sum h1 h2 (Nat.add_le_add hk hl)
theorem f8{a b:Int}(hb:b≠0):(a.fmod b).natAbs<b.natAbs:=by
 rcases Jj hb with h|h
 ·have h1:a.fmod b=-((-a).fmod (-b)):=by rw[Int.neg_fmod_neg];exact oqz [] [a.fmod b] [] (.ie Y0 (.g (.g Y0))) [1] rfl
  have h2:=Im (-a) (b:=-b) (by exact oqz [] [b] [(.il (Y0+1) 0)] (.il (0+1) (.g Y0)) [11] rfl h)
  have h3:=IJ (-a) (b:=-b) (by exact oqz [] [b] [(.il (Y0+1) 0)] (.il (0+1) (.g Y0)) [11] rfl h)
  exact oqz [(a.fmod b).natAbs,b.natAbs] [a.fmod b,b,(-a).fmod (-b)] [(.ie Y0 (.g Y2)),(.il 0 Y2),(.il (Y2+1) (.g Y1)),(.an (.il Y1 (.c Y1)) (.il (.g Y1) (.c Y1))),(ona Y0 Y0)] (.le (Y0+1) Y1) [101012011,101010101] rfl h1 h2 h3 (bC (b)) (bn (a.fmod b))
 ·have h2:=Im a h
  have h3:=IJ a h
  exact oqz [(a.fmod b).natAbs,b.natAbs] [a.fmod b,b] [(.il 0 Y0),(.il (Y0+1) Y1),(.an (.il Y1 (.c Y1)) (.il (.g Y1) (.c Y1))),(ona Y0 Y0)] (.le (Y0+1) Y1) [1001101,1001121] rfl h2 h3 (bC (b)) (bn (a.fmod b))
theorem yB{a b:Int}:b.gcd (a.fmod b)=a.gcd b:=by
 rw[Int.fmod_def,Int.gcd_comm,HS,Int.gcd_sub_mul_right_left]
theorem ai{β:Type}(H:List β)(x:β)(K:List β):(H++x::K)[H.length]?=some x:=by simp
theorem dj{β:Type}(H:List β)(x y:β)(K:List β):(H++x::y::K)[H.length+1]?=some y:=by
 rw[Hk (by exact oqz [H.length] [] [] (.le Y0 (Y0+1)) [1] rfl)];simp
theorem cy{β:Type}(H:List β)(x y:β)(K:List β):(H++x::K).set H.length y=H++y::K:=by simp
theorem av{β:Type}{H H':List β}{n:Nat}{x:β}(h:H<+:H')(e:H[n]?=some x):H'[n]?=some x:=by
 obtain ⟨K,rfl⟩:=h
 rw[Hg (GX.mp e).1];exact e
theorem aj{β:Type}(H K:List β):H<+:H++K:=⟨K,rfl⟩
theorem ah{β:Type}{A B C:List β}(h1:A<+:B)(h2:B<+:C):A<+:C:=List.IsPrefix.trans h1 h2
theorem yx(b:Int):dx 0 b 1=(List.range b.toNat).map fun (i:Nat)=>(i:Int):=by
 unfold dx
 have:(Builtin.Range.rangeSize 0 b 1).toNat=b.toNat:=by
  unfold Builtin.Range.rangeSize
  simp
  first|done|exact oqz [(if 0<b then b else 0).toNat,b.toNat] [if 0<b then b else 0,b] [(.or (.an (.il (0+1) Y1) (.ie Y0 Y1)) (.an (.no (.il (0+1) Y1)) (.ie Y0 0))),(otn Y0 Y0),(otn Y1 Y1)] (.eq Y0 Y1) [101001001,100000001,11010,100000011,1000100101,10000010,100101,100001] rfl (Mine.qH (0<b) (b) (0)) (aQ (if 0<b then b else 0)) (aQ (b)) | (split <;> omega)
 rw[this]
 apply ID
 intro i _;exact oqz [i] [] [] (.ie (.a 0 (.m 1 (.c Y0))) (.c Y0)) [1] rfl
end Mine
namespace Mine
theorem bo{body:Loc->Hp->(Loc->Hp->Prop)->Prop}{i:Nat}{N:Loc->Hp->Prop}(I:List V->Loc->Hp->Prop)
  (step:∀ (x:V) (xs:List V) (ρ:Loc) (H:Hp) (k:Loc->Hp->Prop),I (x::xs) ρ H->(∀ρ' H',I xs ρ' H'->k ρ' H')->body (aH ρ i x) H k) (fin:∀ρ H,I [] ρ H->N ρ H) :
  ∀ (xs:List V) (ρ:Loc) (H:Hp),I xs ρ H->cU body i xs ρ H N
 | [],ρ,H,h=>fin ρ H h
 |x::xs,ρ,H,h=>step x xs ρ H _ h fun ρ' H' h'=>bo I step fin xs ρ' H' h'
end Mine
namespace Mine
open PySem
theorem iC{b:Int}{H:Hp}{Q:List V->Option Nat->Hp->Prop}(hb:cI b)(h:Q ((List.range' 0 b.toNat).map fun (i:Nat)=>V.int (i:Int)) none H):oZ [.int b] H Q:=by
 refine ⟨0,b,1,rfl,by unfold cI;decide,hb,.inl rfl,?_⟩
 rw[yx,Hw,List.range_eq_range'];exact h
theorem uE{a b:Int}{H:Hp}{Q:List V->Option Nat->Hp->Prop}(ha:cI a)(hb:cI b)(h:Q ((List.range' 0 (b-a).toNat).map fun (i:Nat)=>V.int (a+(i:Int))) none H):oZ [.int a,.int b] H Q:=by
 refine ⟨a,b,1,rfl,ha,hb,.inl rfl,?_⟩
 have:dx a b 1=(List.range (b-a).toNat).map fun (i:Nat)=>a+(i:Int):=by
  unfold dx
  have:(Builtin.Range.rangeSize a b 1).toNat=(b-a).toNat:=by
   unfold Builtin.Range.rangeSize
   simp
   first|done | (exact oqz [(if a<b then b-a else 0).toNat,(b-a).toNat] [if a<b then b-a else 0,a,b] [(.or (.an (.il (Y1+1) Y2) (.ie Y0 (.s Y2 Y1))) (.an (.no (.il (Y1+1) Y2)) (.ie Y0 0))),(otn Y0 Y0),(otn (.s Y2 Y1) Y1)] (.eq Y0 Y1) [101001001,100000001,11010,100000011,1000100101,10000010,100101,100001] rfl (Mine.qH (a<b) (b-a) (0)) (aQ (if a<b then b-a else 0)) (aQ (b-a))) | (split <;> omega)
  rw[this]
  apply ID
  intro i _;exact oqz [i] [a] [] (.ie (.a Y0 (.m 1 (.c Y0))) (.a Y0 (.c Y0))) [1] rfl
 rw[this,Hw,List.range_eq_range'];exact h
theorem Sm.pow{k:Nat}{x:Int}(h:Sm k x):∀n:Nat,Sm (k*n+1) (x^n)
 |0=>by rw[HH];unfold Sm;simp
 |n+1=>by
  rw[Hr]
  exact Sm.mono (Sm.mul (Sm.pow h n) h) (by rw[Nat.mul_succ];exact oqz [k*n,k] [] [] (.le (Y0+1+Y1) (Y0+Y1+1)) [1] rfl)
end Mine
namespace Mine
theorem aK{i:Int}(h1:-1000000<=i)(h2:i<=1000000):cI i:=by
 have e:(2:Int)^40=1099511627776:=by decide
 unfold cI
 rw[e];exact oqz [] [i] [(.il (.g 1000000) Y0),(.il Y0 1000000)] (.an (.il (.a (.g 1099511627776) 1) Y0) (.il (Y0+1) 1099511627776)) [11,101] rfl h1 h2
end Mine
namespace Mine
open PySem
theorem eW:∀xs ys:List Int,PyData.eqvAll (xs.map .int) (ys.map .int)=decide (xs=ys)
 | [],[]=>rfl
 | [],_::_=>rfl
 |_::_,[]=>rfl
 |x::xs,y::ys=>by
  simp only[G1,PyData.eqvAll,PyData.eqv,eW xs ys,List.cons.injEq]
  by_cases h:x=y <;> simp[h]
theorem mI{H:Hp}{k l:Nat}{cs ds:List Int}{Q:Bool->Prop}(h1:H[k]?=some (cs.map .int))(h2:H[l]?=some (ds.map .int))(h:Q (decide (cs=ds))):l6 (.lst k) (.lst l) H Q:=
 ⟨_,_,.inr ⟨_,_,rfl,h1,rfl⟩,.inr ⟨_,_,rfl,h2,rfl⟩,by rw[PyData.eqv,eW];exact h⟩
theorem ix3{o:Option (List V)}{xs:List V}{k:Int}{i:Nat}{v:V}{Q:V->Prop}(e:o=some xs)(p:cD xs.length k=some i)(g:xs[i]?=some v)(q:Q v):ifSome o fun xs=>ifSome (cD xs.length k) fun i=>ifSome xs[i]? fun v=>Q v:=
 ifSome.mk e (ifSome.mk p (ifSome.mk g q))
theorem ix2{o:Option (List V)}{xs:List V}{k:Int}{i:Nat}{Q:List V->Nat->Prop}(e:o=some xs)(p:cD xs.length k=some i)(q:Q xs i):ifSome o fun xs=>ifSome (cD xs.length k) fun i=>Q xs i:=
 ifSome.mk e (ifSome.mk p q)
section
variable {a b:Int}{m n:Nat}{H:Hp}{Q:V->Hp->Prop}{x y:V}{xs ys:List V}
theorem cO:gN .add (.int a) (.int b) H Q=Q (.int (a+b)) H:=rfl
theorem Cd:gN .add (.lst m) (.lst n) H Q=ifSome H[m]? fun xs=>ifSome H[n]? fun ys=>xs.length+ys.length<=lim/\Q (.lst H.length) (H++[xs++ys]):=rfl
theorem e6:gN .sub (.int a) (.int b) H Q=Q (.int (a-b)) H:=rfl
theorem dm:gN .mul (.int a) (.int b) H Q=(IntMulOk a b/\Q (.int (a*b)) H):=rfl
theorem nU:gN .fdiv (.int a) (.int b) H Q=(pY b/\Q (.int (a.fdiv b)) H):=rfl
theorem ub:gN .mod (.int a) (.int b) H Q=(b≠0/\Q (.int (a.fmod b)) H):=rfl
theorem fh:dJ .lt (.int a) (.int b) H Q=Q (.bool (decide (a<b))) H:=rfl
theorem yY:dJ .le (.int a) (.int b) H Q=Q (.bool (decide (a<=b))) H:=rfl
theorem vv:dJ .gt (.int a) (.int b) H Q=Q (.bool (decide (b<a))) H:=rfl
theorem oK:dJ .ge (.int a) (.int b) H Q=Q (.bool (decide (b<=a))) H:=rfl
theorem dQ:dJ .eq (.int a) (.int b) H Q=Q (.bool (decide (a=b))) H:=rfl
theorem jR:dJ .ne (.int a) (.int b) H Q=Q (.bool (!decide (a=b))) H:=rfl
theorem EY:dJ .eq (.tup xs) y H Q=(l6 (.tup xs) y H (fun b=>Q (.bool b) H)\/Cv (.tup xs) y H (Q (.bool false) H)):=rfl
theorem FX:dJ .eq (.lst m) y H Q=(l6 (.lst m) y H (fun b=>Q (.bool b) H)\/Cv (.lst m) y H (Q (.bool false) H)):=rfl
theorem ER:dJ .isin .none (.lst m) H Q=ifSome H[m]? fun xs=>(∀z∈xs,∃t,z=.tup t)/\Q (.bool false) H:=rfl
theorem Fm:dJ .ne (.tup xs) y H Q=l6 (.tup xs) y H fun b=>Q (.bool (!b)) H:=rfl
theorem FJ:dJ .ne (.lst m) y H Q=l6 (.lst m) y H fun b=>Q (.bool (!b)) H:=rfl
theorem EW:dJ .is (.tup xs) .none H Q=Q (.bool false) H:=rfl
theorem Bj:ld .abs [.int a] H Q=Q (.int (if a<0 then -a else a)) H:=rfl
theorem eF:ld .len [.tup xs] H Q=Q (.int xs.length) H:=rfl
theorem cJ:ld .len [.lst m] H Q=ifSome H[m]? fun xs=>Q (.int xs.length) H:=rfl
theorem Ct{t:Bool}:ld .int [.bool t] H Q=Q (.int (if t then 1 else 0)) H:=rfl
theorem i7:ld .list [x] H Q=ifSome (items H x) fun xs=>Q (.lst H.length) (H++[xs]):=rfl
theorem kr:ld .tuple [x] H Q=ifSome (items H x) fun xs=>Q (.tup xs) H:=rfl
theorem Fx:ld .min [.int a,.int b] H Q=Q (.int (if b<a then b else a)) H:=rfl
theorem bu:dX (.tup [x,y]) (.int 0) H Q=Q x H:=rfl
theorem bS:dX (.tup [x,y]) (.int 1) H Q=Q y H:=rfl
theorem cE{z:V}:dX (.tup [x,y,z]) (.int 0) H Q=Q x H:=rfl
theorem bJ{z:V}:dX (.tup [x,y,z]) (.int 1) H Q=Q y H:=rfl
theorem bI{z:V}:dX (.tup [x,y,z]) (.int 2) H Q=Q z H:=rfl
theorem cu{k:Int}:dX (.lst m) (.int k) H Q=ifSome H[m]? fun xs=>ifSome (cD xs.length k) fun i=>ifSome xs[i]? fun v=>Q v H:=rfl
theorem aN{t:Bool}:bm H (.bool t)=some t:=rfl
theorem GA:bm H (.lst m)=(H[m]?).map fun xs=>!xs.isEmpty:=rfl
theorem my:items H (.tup xs)=some xs:=rfl
theorem dc:items H (.lst m)=H[m]?:=rfl
theorem cg:jH 1 x=some [some x]:=rfl
theorem ye:jH 2 (.tup [x,y])=some [some x,some y]:=rfl
theorem jx:jA (.lst m)=some m:=rfl
theorem CK:jA (.tup xs)=none:=rfl
end
end Mine
namespace Mine
theorem aD{v:V}{l:List V}:List.map some (v::l)=some v::List.map some l:=rfl
theorem aB:List.map some ([]:List V)=[]:=rfl
theorem ay{v:Option V}{l m:Loc}:v::l++m=v::(l++m):=rfl
theorem ax{m:Loc}:([]:Loc)++m=m:=rfl
theorem aO{n:Nat}:List.replicate (n+1) (none:Option V)=none::List.replicate n none:=rfl
theorem aC:List.replicate 0 (none:Option V)=[]:=rfl
theorem aq{a b:Nat}{vs:List V}:eG a b vs=List.map some vs++List.replicate (b-a) none:=rfl
theorem fq{v:V}{l:List V}:(v::l).length=l.length+1:=rfl
theorem aX{A B:Prop}:(if true=true then A else B)=A:=rfl
theorem aR{A B:Prop}:(if false=true then A else B)=B:=rfl
theorem du{A B:Prop}:(if false=false then A else B)=A:=rfl
theorem gf:(!true)=false:=rfl
theorem CF:[true].any id=true:=rfl
theorem E8:decide (((2:Nat):Int)=2)=true:=rfl
theorem CT:(!false)=true:=rfl
end Mine
namespace Mine
open PySem PyProof.Rows PySem.Calls
theorem yC{G:GV}{gc:GC}{DT:List dK}{h:Heap}(F:GF G ⟨gc.fns,gc.cls,[]⟩ DT h)(hg:∀x a b,(x,a,b)∈gc.globs->∃t ta tb,G.mg x=some (.ref t)/\IsTup h t #[.int a ta,.int b tb]):GF G gc DT h where
 g:=F.g
 b:=F.b
 nolimit:=F.nolimit
 seer:=F.seer
 fn:=F.fn
 blt:=F.blt
 glob:=hg
end Mine
namespace Mine
section
variable {S:Type}[Lean.Grind.CommRing S]
noncomputable abbrev zS (n:Int):S:=@Int.cast S Lean.Grind.Ring.intCast n
theorem zS0:zS (S:=S) 0=0:=by grind
theorem zS1:zS (S:=S) 1=1:=by grind
theorem fM(a b:Int):zS (S:=S) (a+b)=zS a+zS b:=by grind
theorem jn(a:Int):zS (S:=S) (-a)=-zS a:=by grind
theorem ci(a b:Int):zS (S:=S) (a*b)=zS a*zS b:=by grind
noncomputable def bN(f:Nat->S):Nat->S
 |0=>0
 |n+1=>bN f n+f n
theorem bZ(f:Nat->S):bN f 0=0:=rfl
theorem aT(f:Nat->S)(n:Nat):bN f (n+1)=bN f n+f n:=rfl
noncomputable def eS:List S->Nat->S
 | [],0=>1
 | [],_+1=>0
 |_::_,0=>1
 |x::r,k+1=>eS r (k+1)-x*eS r k
theorem eS0:∀xs:List S,eS xs 0=1
 | []=>rfl
 |_::_=>rfl
theorem eSN(k:Nat):eS ([]:List S) (k+1)=0:=rfl
theorem eSC(x:S)(r:List S)(k:Nat):eS (x::r) (k+1)=eS r (k+1)-x*eS r k:=rfl
theorem iO:∀ (xs:List S) (k:Nat),xs.length<k->eS xs k=0
 | [],0,h=>absurd h (Nat.lt_irrefl 0)
 | [],k+1,_=>rfl
 |x::r,0,h=>absurd h (J2 _)
 |x::r,k+1,h=>by
  have h':r.length<k:=Jh h
  rw[eSC,iO r (k+1) (Nat.lt_succ_of_lt h'),iO r k h'];grind
noncomputable def pS:List S->Nat->S
 | [],_=>0
 |x::r,k=>x^k+pS r k
theorem pSN(k:Nat):pS ([]:List S) k=0:=rfl
theorem pSC(x:S)(r:List S)(k:Nat):pS (x::r) k=x^k+pS r k:=rfl
theorem bP{f g:Nat->S}:∀ {n:Nat},(∀j,j<n->f j=g j)->bN f n=bN g n
 |0,_=>rfl
 |n+1,h=>by rw[aT,aT,bP (fun j hj=>h j (Nat.lt_succ_of_lt hj)),h n (Ia n)]
theorem ij(f g:Nat->S):∀n:Nat,bN (fun j=>f j+g j) n=bN f n+bN g n
 |0=>by rw[bZ,bZ,bZ];grind
 |n+1=>by rw[aT,aT,aT,ij f g n];grind
theorem fL(c:S)(f:Nat->S):∀n:Nat,bN (fun j=>c*f j) n=c*bN f n
 |0=>by rw[bZ,bZ];grind
 |n+1=>by rw[aT,aT,fL c f n];grind
theorem ix:∀n:Nat,bN (fun _=>(0:S)) n=0
 |0=>rfl
 |n+1=>by rw[aT,ix n];grind
theorem jy(f:Nat->S):∀n:Nat,bN f (n+1)=f 0+bN (fun j=>f (j+1)) n
 |0=>by rw[aT,bZ,bZ];grind
 |n+1=>by rw[aT,jy f n,aT];grind
theorem nE(x:S)(r:List S)(g:Nat->S):∀n:Nat,bN (fun j=>eS (x::r) j*g j) (n+1)=bN (fun j=>eS r j*g j) (n+1)-x*bN (fun j=>eS r j*g (j+1)) n
 |0=>by rw[aT,aT,bZ,bZ,bZ,eS0,eS0];grind
 |n+1=>by rw[aT,nE x r g n,aT _ (n+1),aT _ n,aT (fun j=>eS r j*g (j+1)) n,eSC];grind
theorem wP(x:S)(r:List S)(k:Nat):bN (fun j=>eS r j*x^(k+1-j)) (k+1)-x*bN (fun j=>eS r j*x^(k+1-(j+1))) k=eS r k*x:=by
 have h:bN (fun j=>eS r j*x^(k+1-j)) k=x*bN (fun j=>eS r j*x^(k+1-(j+1))) k:=by
  rw[<- fL]
  refine bP fun j hj=>?_
  rw[I3,Nat.sub_add_comm (Ji hj),GQ]
  grind
 rw[aT,h,Ib,show x^1=x by grind]
 grind
theorem ky:∀ (xs:List S) (k:Nat),bN (fun j=>eS xs j*pS xs (k+1-j)) (k+1)+zS ((k:Int)+1)*eS xs (k+1)=0
 | [],k=>by
  rw[eSN,show (fun j=>eS ([]:List S) j*pS [] (k+1-j))=fun _=>0 from funext fun j=>by rw[pSN];grind,ix]
  grind
 |x::r,k=>by
  have h1:=ky r k
  have h2:bN (fun j=>eS r j*pS r (k+1-(j+1))) k+zS (k:Int)*eS r k=0:=by
   cases k with
   |zero=>rw[bZ,show ((0:Nat):Int)=0 from rfl,zS0];grind
   |succ k =>
    have:=ky r k
    rw[<- this,show ((k+1:Nat):Int)=(k:Int)+1 from rfl]
    congr 1
    exact bP fun j _=>by rw[I3]
  have h3:=wP x r k
  have h4:(fun j=>eS (x::r) j*pS (x::r) (k+1-j))=fun j=>eS (x::r) j*x^(k+1-j)+eS (x::r) j*pS r (k+1-j):=funext fun j=>by rw[pSC];grind
  rw[h4,ij,nE x r (fun j=>x^(k+1-j)),nE x r (fun j=>pS r (k+1-j)),h3,eSC,fM,zS1]
  rw[fM,zS1] at h1
  clear h3 h4
  grind
theorem yG(xs ys:List S)(k:Nat):pS (xs++ys) k=pS xs k+pS ys k:=by
 induction xs with
 |nil=>rw[List.nil_append,pSN];grind
 |cons x r ih=>rw[List.cons_append,pSC,pSC,ih];grind
theorem ue(x:S)(k:Nat):∀ys:List S,pS (ys.map (x*·)) k=x^k*pS ys k
 | []=>by rw[List.map_nil,pSN];grind
 |y::ys=>by rw[G1,pSC,pSC,ue x k ys,I5];grind
noncomputable def yA(xs ys:List S):List S:=xs.flatMap fun x=>ys.map (x*·)
noncomputable def wJ(xs ys:List S):List S:=xs.flatMap fun x=>ys.map (x+·)
theorem s6(ys:List S)(k:Nat):∀xs:List S,pS (yA xs ys) k=pS xs k*pS ys k
 | []=>by show pS [] k=_;rw[pSN];grind
 |x::xs=>by
  have:=s6 ys k xs
  unfold yA at *
  rw[List.flatMap_cons,yG,this,pSC,ue];grind
noncomputable def bnm:Nat->Nat->Int
 |_,0=>1
 |0,_+1=>0
 |n+1,k+1=>bnm n k+bnm n (k+1)
theorem jV:∀n:Nat,bnm n 0=1
 |0=>rfl
 |_+1=>rfl
theorem yZ(k:Nat):bnm 0 (k+1)=0:=rfl
theorem kM(n k:Nat):bnm (n+1) (k+1)=bnm n k+bnm n (k+1):=rfl
theorem eE:∀ {n k:Nat},n<k->bnm n k=0
 |_,0,h=>absurd h (J2 _)
 |0,_+1,_=>rfl
 |n+1,k+1,h=>by rw[kM,eE (Jh h),eE (Nat.lt_succ_of_lt (Jh h))];rfl
theorem FZ(x y:S):∀k:Nat,(x+y)^k=bN (fun j=>zS (bnm k j)*(x^j*y^(k-j))) (k+1)
 |0=>by rw[aT,bZ,jV,zS1,Nat.sub_self];grind
 |k+1=>by
  have h1:bN (fun j=>zS (bnm k (j+1))*(x^(j+1)*y^(k-j))) (k+1)+y^(k+1)=y*bN (fun j=>zS (bnm k j)*(x^j*y^(k-j))) (k+1):=by
   rw[jy (fun j=>zS (bnm k j)*(x^j*y^(k-j))) k,aT,eE (Ia k),zS0,jV,zS1,Nat.sub_zero]
   have:bN (fun j=>zS (bnm k (j+1))*(x^(j+1)*y^(k-j))) k=y*bN (fun j=>zS (bnm k (j+1))*(x^(j+1)*y^(k-(j+1)))) k:=by
    rw[<- fL]
    refine bP fun j hj=>?_
    rw[show k-j=(k-(j+1))+1 by exact oqz [k-j,k,j,k-(j+1)] [] [(.le (Y2+1) Y1),(osb Y1 Y2 Y0),(osb Y1 (Y2+1) Y3)] (.eq Y0 (Y3+1)) [10001001,1001011,110,1010001,110001] rfl hj (am (k) (j)) (am (k) (j+1)),GQ y];grind
   rw[this,GQ y];grind
  have h2:(fun j=>zS (bnm (k+1) (j+1))*(x^(j+1)*y^(k+1-(j+1))))=fun j=>x*(zS (bnm k j)*(x^j*y^(k-j)))+zS (bnm k (j+1))*(x^(j+1)*y^(k-j)):=funext fun j=>by
   rw[kM,fM,I3,GQ x];grind
  rw[jy _ (k+1),h2,ij,fL,jV,zS1,Nat.sub_zero,GQ (x+y),FZ x y k]
  grind
theorem uD(x:S)(k:Nat):∀ys:List S,pS (ys.map (x+·)) k=bN (fun j=>zS (bnm k j)*(x^j*pS ys (k-j))) (k+1)
 | []=>by rw[List.map_nil,pSN,show (fun j=>zS (bnm k j)*(x^j*pS ([]:List S) (k-j)))=fun _=>0 from funext fun j=>by rw[pSN];grind,ix]
 |y::ys=>by
  rw[G1,pSC,uD x k ys,FZ,<- ij]
  exact bP fun j _=>by rw[pSC];grind
theorem tR(ys:List S)(k:Nat):∀xs:List S,pS (wJ xs ys) k=bN (fun j=>zS (bnm k j)*(pS xs j*pS ys (k-j))) (k+1)
 | []=>by show pS [] k=_;rw[pSN,show (fun j=>zS (bnm k j)*(pS ([]:List S) j*pS ys (k-j)))=fun _=>0 from funext fun j=>by rw[pSN];grind,ix]
 |x::xs=>by
  have:=tR ys k xs
  unfold wJ at *
  rw[List.flatMap_cons,yG,this,uD,<- ij]
  exact bP fun j _=>by rw[pSC];grind
end
theorem two_pow_pos(n:Nat):(0:Rat)<2^n:=Rat.pow_pos (by decide)
structure Sq where
 f:Nat->Rat
 c:∃K:Rat,∀n m,n<=m->(f n-f m)*2^n<=K/\(f m-f n)*2^n<=K
theorem Sq.bd(x:Sq):∃B:Rat,0<=B/\∀n,x.f n<=B/\- B<=x.f n:=by
 obtain ⟨K,h⟩:=x.c
 have h0:=h 0 0 (GU _)
 refine ⟨K+(x.f 0).abs,?_,fun n=>?_⟩
 ·have:=@Rat.abs_nonneg (x.f 0);grind
 ·have:=h 0 n (Hl _)
  rw[Rat.pow_zero,Rat.mul_one,Rat.mul_one] at this
  have a1:x.f 0<=(x.f 0).abs:=by unfold Rat.abs;grind
  have a2:- (x.f 0).abs<=x.f 0:=by unfold Rat.abs;grind
  grind
noncomputable def Sq.ofRat(q:Rat):Sq:=⟨fun _=>q,0,fun n m _=>by grind⟩
noncomputable def Sq.add(x y:Sq):Sq:=⟨fun n=>x.f n+y.f n,by
 obtain ⟨K,h⟩:=x.c;obtain ⟨L,g⟩:=y.c
 refine ⟨K+L,fun n m hm=>?_⟩
 have:=h n m hm;have:=g n m hm;grind⟩
noncomputable def Sq.neg(x:Sq):Sq:=⟨fun n=>- x.f n,by
 obtain ⟨K,h⟩:=x.c
 refine ⟨K,fun n m hm=>?_⟩
 have:=h n m hm;grind⟩
theorem ck{a b:Rat}(ha:0<=a)(hb:0<=b):0<=a*b:=HV ha hb
theorem Ae{u v B L:Rat}(h1:u<=B)(h2:-B<=u)(g1:v<=L)(g2:-L<=v):u*v<=B*L/\-(B*L)<=u*v:=by
 have e1:=ck (a:=B-u) (b:=L+v) (by grind) (by grind)
 have e2:=ck (a:=B+u) (b:=L-v) (by grind) (by grind)
 have e3:=ck (a:=B-u) (b:=L-v) (by grind) (by grind)
 have e4:=ck (a:=B+u) (b:=L+v) (by grind) (by grind)
 constructor <;> grind
noncomputable def Sq.mul(x y:Sq):Sq:=⟨fun n=>x.f n*y.f n,by
 obtain ⟨K,h⟩:=x.c;obtain ⟨L,g⟩:=y.c
 obtain ⟨B,hB,b⟩:=x.bd;obtain ⟨C,hC,c⟩:=y.bd
 refine ⟨B*L+C*K,fun n m hm=>?_⟩
 have h1:=h n m hm;have g1:=g n m hm
 have e1:=Ae (u:=x.f n) (v:=(y.f n-y.f m)*2^n) (B:=B) (L:=L) (b n).1 (b n).2 g1.1 (by grind)
 have e2:=Ae (u:=y.f m) (v:=(x.f n-x.f m)*2^n) (B:=C) (L:=K) (c m).1 (c m).2 h1.1 (by grind)
 constructor <;> grind⟩
noncomputable def Sq.le(x y:Sq):Prop:=∃K:Rat,∀n,(x.f n-y.f n)*2^n<=K
theorem Sq.le_refl(x:Sq):x.le x:=⟨0,fun n=>by grind⟩
theorem Sq.le_trans{x y z:Sq}:x.le y->y.le z->x.le z:=fun ⟨K,h⟩ ⟨L,g⟩=>⟨K+L,fun n=>by have:=h n;have:=g n;grind⟩
theorem Sq.le_total(x y:Sq):x.le y\/y.le x:=by
 rcases Classical.em (x.le y) with h|h
 ·exact .inl h
 ·right
  obtain ⟨K,hx⟩:=x.c;obtain ⟨L,hy⟩:=y.c
  have:∃n,K+L<(x.f n-y.f n)*2^n:=by
   refine HD fun hn=>h ⟨K+L,fun n=>?_⟩
   exact Rat.not_lt.mp fun hlt=>hn ⟨n,hlt⟩
  obtain ⟨n,hn⟩:=this
  refine ⟨K+L,fun m=>?_⟩
  have p0:=two_pow_pos n
  have k0:0<=K:=by have:=hx 0 0 (GU _);grind
  have l0:0<=L:=by have:=hy 0 0 (GU _);grind
  rcases Jz n m with hm|hm
  ·have a:=hx n m hm;have b:=hy n m hm
   have:0<(x.f m-y.f m)*2^n:=by grind
   have h3:0<x.f m-y.f m:=by
    refine Rat.not_le.mp fun hle=>?_
    have:=ck (a:=- (x.f m-y.f m)) (b:=2^n) (by grind) (HB p0)
    grind
   have:=ck (HB h3) (HB (two_pow_pos m))
   grind
  ·have a:=hx m n hm;have b:=hy m n hm
   have h3:0<x.f n-y.f n:=by
    refine Rat.not_le.mp fun hle=>?_
    have:=ck (a:=- (x.f n-y.f n)) (b:=2^n) (by grind) (HB p0)
    grind
   have:=ck (HB h3) (HB (two_pow_pos m))
   grind
noncomputable instance Sq.st:Setoid Sq:=⟨fun x y=>x.le y/\y.le x,fun _=>⟨Sq.le_refl _,Sq.le_refl _⟩,fun h=>⟨h.2,h.1⟩,fun h g=>⟨Sq.le_trans h.1 g.1,Sq.le_trans g.2 h.2⟩⟩
noncomputable def Re:Type:=Quotient Sq.st
theorem Sq.add_le{x y z w:Sq}:x.le y->z.le w->(x.add z).le (y.add w):=fun ⟨K,h⟩ ⟨L,g⟩=>⟨K+L,fun n=>by
 have:=h n;have:=g n;show (x.f n+z.f n-(y.f n+w.f n))*2^n<=K+L;grind⟩
theorem Sq.neg_le{x y:Sq}:x.le y->(y.neg).le x.neg:=fun ⟨K,h⟩=>⟨K,fun n=>by
 have:=h n;show (- y.f n - - x.f n)*2^n<=K;grind⟩
theorem Sq.mul_eqv{x y z w:Sq}(h:x ≈ y)(g:z ≈ w):(x.mul z).le (y.mul w):=by
 obtain ⟨⟨K,h1⟩,K',h2⟩:=h;obtain ⟨⟨L,g1⟩,L',g2⟩:=g
 obtain ⟨B,hB,b⟩:=x.bd;obtain ⟨C,hC,c⟩:=w.bd
 have k0:∃M:Rat,K<=M/\K'<=M:=⟨if K<=K' then K' else K,by grind⟩
 have l0:∃M:Rat,L<=M/\L'<=M:=⟨if L<=L' then L' else L,by grind⟩
 obtain ⟨M,m1,m2⟩:=k0;obtain ⟨N,n1,n2⟩:=l0
 refine ⟨B*N+C*M,fun n=>?_⟩
 have p1:=h1 n;have p2:=h2 n;have q1:=g1 n;have q2:=g2 n
 have e1:=Ae (u:=x.f n) (v:=(z.f n-w.f n)*2^n) (B:=B) (L:=N) (b n).1 (b n).2 (by grind) (by grind)
 have e2:=Ae (u:=w.f n) (v:=(x.f n-y.f n)*2^n) (B:=C) (L:=M) (c n).1 (c n).2 (by grind) (by grind)
 show (x.f n*z.f n-y.f n*w.f n)*2^n<=_
 grind
theorem Sq.eqv_of{x y:Sq}(h:∀n,x.f n=y.f n):x ≈ y:=⟨⟨0,fun n=>by rw[h];grind⟩,⟨0,fun n=>by rw[h];grind⟩⟩
namespace Re
noncomputable def mk(x:Sq):Re:=Quotient.mk _ x
noncomputable instance:Add Re:=⟨Quotient.lift₂ (fun x y=>mk (Sq.add x y)) fun _ _ _ _ h g=>JN ⟨Sq.add_le h.1 g.1,Sq.add_le h.2 g.2⟩⟩
noncomputable instance:Mul Re:=⟨Quotient.lift₂ (fun x y=>mk (Sq.mul x y)) fun _ _ _ _ h g=>JN ⟨Sq.mul_eqv h g,Sq.mul_eqv (Setoid.symm h) (Setoid.symm g)⟩⟩
noncomputable instance:Neg Re:=⟨Quotient.lift (fun x=>mk (Sq.neg x)) fun _ _ h=>JN ⟨Sq.neg_le h.2,Sq.neg_le h.1⟩⟩
noncomputable instance:Sub Re:=⟨fun x y=>x+-y⟩
noncomputable instance:NatCast Re:=⟨fun n=>mk (Sq.ofRat (n:Rat))⟩
noncomputable instance:IntCast Re:=⟨fun n=>mk (Sq.ofRat (n:Rat))⟩
noncomputable instance (n:Nat):OfNat Re n:=⟨((n:Nat):Re)⟩
noncomputable def Fi(x:Re):Nat->Re
 |0=>1
 |n+1=>Fi x n*x
noncomputable instance:HPow Re Nat Re:=⟨Fi⟩
noncomputable instance:SMul Nat Re:=⟨fun n x=>(n:Re)*x⟩
noncomputable instance:SMul Int Re:=⟨fun n x=>(n:Re)*x⟩
noncomputable def leR:Re->Re->Prop:=Quotient.lift₂ Sq.le fun _ _ _ _ h g=>propext ⟨fun k=>Sq.le_trans (Sq.le_trans h.2 k) g.1,fun k=>Sq.le_trans (Sq.le_trans h.1 k) g.2⟩
noncomputable instance:LE Re:=⟨leR⟩
noncomputable instance:LT Re:=⟨fun x y=>¬ y<=x⟩
theorem fO{x y:Sq}(h:∀n,x.f n=y.f n):mk x=mk y:=JN (Sq.eqv_of h)
theorem b9{P:Re->Prop}(h:∀x,P (mk x)):∀x,P x:=Quotient.ind h
theorem FF(x y:Re):x+y=y+x:=b9 (P:=fun x=>x+y=y+x) (fun a=>b9 (P:=fun y=>mk a+y=y+mk a) (fun b=>fO (x:=a.add b) (y:=b.add a) fun _=>Rat.add_comm _ _) y) x
noncomputable instance:Lean.Grind.CommRing Re where
 add_zero x:=b9 (P:=fun x=>x+0=x) (fun a=>fO (x:=a.add (.ofRat ((0:Nat):Rat))) (y:=a) fun n=>Rat.add_zero _) x
 add_comm:=FF
 add_assoc x y z:=b9 (P:=fun x=>x+y+z=x+(y+z)) (fun a=>b9 (P:=fun y=>mk a+y+z=mk a+(y+z)) (fun b=>b9 (P:=fun z=>mk a+mk b+z=mk a+(mk b+z)) (fun c=>fO (x:=(a.add b).add c) (y:=a.add (b.add c)) fun n=>Rat.add_assoc _ _ _) z) y) x
 mul_assoc x y z:=b9 (P:=fun x=>x*y*z=x*(y*z)) (fun a=>b9 (P:=fun y=>mk a*y*z=mk a*(y*z)) (fun b=>b9 (P:=fun z=>mk a*mk b*z=mk a*(mk b*z)) (fun c=>fO (x:=(a.mul b).mul c) (y:=a.mul (b.mul c)) fun n=>Rat.mul_assoc _ _ _) z) y) x
 mul_one x:=b9 (P:=fun x=>x*1=x) (fun a=>fO (x:=a.mul (.ofRat ((1:Nat):Rat))) (y:=a) fun n=>Rat.mul_one _) x
 one_mul x:=b9 (P:=fun x=>1*x=x) (fun a=>fO (x:=(Sq.ofRat ((1:Nat):Rat)).mul a) (y:=a) fun n=>Rat.one_mul _) x
 left_distrib x y z:=b9 (P:=fun x=>x*(y+z)=x*y+x*z) (fun a=>b9 (P:=fun y=>mk a*(y+z)=mk a*y+mk a*z) (fun b=>b9 (P:=fun z=>mk a*(mk b+z)=mk a*mk b+mk a*z) (fun c=>fO (x:=a.mul (b.add c)) (y:=(a.mul b).add (a.mul c)) fun n=>Rat.mul_add _ _ _) z) y) x
 right_distrib x y z:=b9 (P:=fun x=>(x+y)*z=x*z+y*z) (fun a=>b9 (P:=fun y=>(mk a+y)*z=mk a*z+y*z) (fun b=>b9 (P:=fun z=>(mk a+mk b)*z=mk a*z+mk b*z) (fun c=>fO (x:=(a.add b).mul c) (y:=(a.mul c).add (b.mul c)) fun n=>Rat.add_mul _ _ _) z) y) x
 zero_mul x:=b9 (P:=fun x=>0*x=0) (fun a=>fO (x:=(Sq.ofRat ((0:Nat):Rat)).mul a) (y:=.ofRat ((0:Nat):Rat)) fun n=>Rat.zero_mul _) x
 mul_zero x:=b9 (P:=fun x=>x*0=0) (fun a=>fO (x:=a.mul (.ofRat ((0:Nat):Rat))) (y:=.ofRat ((0:Nat):Rat)) fun n=>Rat.mul_zero _) x
 mul_comm x y:=b9 (P:=fun x=>x*y=y*x) (fun a=>b9 (P:=fun y=>mk a*y=y*mk a) (fun b=>fO (x:=a.mul b) (y:=b.mul a) fun n=>Rat.mul_comm _ _) y) x
 pow_zero x:=rfl
 pow_succ x n:=rfl
 ofNat_succ n:=fO (x:=.ofRat ((n+1:Nat):Rat)) (y:=(Sq.ofRat ((n:Nat):Rat)).add (.ofRat ((1:Nat):Rat))) fun k=>by show ((n+1:Nat):Rat)=(n:Rat)+((1:Nat):Rat);grind
 neg_add_cancel x:=b9 (P:=fun x=>-x+x=0) (fun a=>fO (x:=a.neg.add a) (y:=.ofRat ((0:Nat):Rat)) fun n=>Rat.neg_add_cancel _) x
 sub_eq_add_neg x y:=rfl
 neg_zsmul i x:=b9 (P:=fun x=>((-i:Int):Re)*x=-((i:Re)*x)) (fun a=>fO (x:=(Sq.ofRat ((-i:Int):Rat)).mul a) (y:=((Sq.ofRat (i:Rat)).mul a).neg) fun n=>by show ((-i:Int):Rat)*a.f n=- ((i:Rat)*a.f n);rw[Rat.intCast_neg,Rat.neg_mul]) x
 zsmul_natCast_eq_nsmul n x:=rfl
 intCast_neg i:=fO (x:=.ofRat ((-i:Int):Rat)) (y:=(Sq.ofRat (i:Rat)).neg) fun n=>Rat.intCast_neg _
instance:Std.IsLinearOrder Re where
 le_refl x:=b9 (P:=fun x=>x<=x) (fun a=>Sq.le_refl a) x
 le_trans x y z:=b9 (P:=fun x=>x<=y->y<=z->x<=z) (fun a=>b9 (P:=fun y=>mk a<=y->y<=z->mk a<=z) (fun b=>b9 (P:=fun z=>mk a<=mk b->mk b<=z->mk a<=z) (fun _=>Sq.le_trans) z) y) x
 le_antisymm x y:=b9 (P:=fun x=>x<=y->y<=x->x=y) (fun a=>b9 (P:=fun y=>mk a<=y->y<=mk a->mk a=y) (fun _ h g=>JN ⟨h,g⟩) y) x
 le_total x y:=b9 (P:=fun x=>x<=y\/y<=x) (fun a=>b9 (P:=fun y=>mk a<=y\/y<=mk a) (fun b=>Sq.le_total a b) y) x
instance:Std.LawfulOrderLT Re where
 lt_iff x y:=⟨fun h=>⟨(Std.le_total (a:=x) (b:=y)).resolve_right h,h⟩,fun h=>h.2⟩
instance:Lean.Grind.OrderedAdd Re where
 add_le_left_iff {x y} z:=by
  refine ⟨fun h=>?_,fun h=>?_⟩
  ·revert h
   exact b9 (P:=fun x=>x<=y->x+z<=y+z) (fun a=>b9 (P:=fun y=>mk a<=y->mk a+z<=y+z) (fun b=>b9 (P:=fun z=>mk a<=mk b->mk a+z<=mk b+z) (fun c h=>show Sq.le (a.add c) (b.add c) from Sq.add_le h (Sq.le_refl c)) z) y) x
  ·have key:∀x y z:Re,x<=y->x+z<=y+z:=fun x y z=>b9 (P:=fun x=>x<=y->x+z<=y+z) (fun a=>b9 (P:=fun y=>mk a<=y->mk a+z<=y+z) (fun b=>b9 (P:=fun z=>mk a<=mk b->mk a+z<=mk b+z) (fun c h=>show Sq.le (a.add c) (b.add c) from Sq.add_le h (Sq.le_refl c)) z) y) x
   have:=key _ _ (-z) h
   rwa [show x+z+-z=x by grind,show y+z+-z=y by grind] at this
theorem AZ(K:Rat):∃m:Nat,K<2^m:=by
 refine ⟨K.num.natAbs,?_⟩
 have h1:K<=(K.num.natAbs:Rat):=by
  rw[Rat.le_iff]
  show K.num*((1:Nat):Int)<=((K.num.natAbs:Nat):Int)*(K.den:Int)
  have d:=K.den_pos
  have:((K.num.natAbs:Nat):Int)*1<=((K.num.natAbs:Nat):Int)*(K.den:Int):=JL (by exact oqz [K.den] [] [(.le (0+1) Y0)] (.il 1 (.c Y0)) [11] rfl d) (by exact oqz [K.num.natAbs] [] [] (.il 0 (.c Y0)) [1] rfl)
  (clear d;omega)
 have h2:∀n:Nat,(n:Rat)<2^n:=fun n=>by
  have:=Rat.natCast_lt_natCast.mpr (Nat.lt_two_pow_self (n:=n))
  rwa [Rat.natCast_pow] at this
 have:=h2 K.num.natAbs
 grind
theorem Sq.pos{x:Sq}(h:¬ x.le (.ofRat ((0:Nat):Rat))):∃n,∀m,n<=m->1<x.f m*2^n:=by
 obtain ⟨K,hK⟩:=x.c
 refine HD fun hn=>h ⟨K+1,fun n=>?_⟩
 refine Rat.not_lt.mp fun hlt=>hn ⟨n,fun m hm=>?_⟩
 have:=hK n m hm
 have e:(Sq.ofRat ((0:Nat):Rat)).f n=0:=rfl
 rw[e] at hlt
 grind
theorem mul_pos{x y:Re}:0<x->0<y->0<x*y:=by
 refine b9 (P:=fun x=>0<x->0<y->0<x*y) (fun a=>b9 (P:=fun y=>0<mk a->0<y->0<mk a*y) (fun b h g=>?_) y) x
 obtain ⟨n,hn⟩:=Sq.pos (x:=a) h
 obtain ⟨k,hk⟩:=Sq.pos (x:=b) g
 rintro ⟨K,hK⟩
 obtain ⟨m,hm⟩:=AZ K
 have a1:=hn (n+k+m) (by exact oqz [n,k,m] [] [] (.le Y0 (Y0+Y1+Y2)) [1] rfl)
 have a2:=hk (n+k+m) (by exact oqz [k,n,m] [] [] (.le Y0 (Y1+Y0+Y2)) [1] rfl)
 have a3:(a.f (n+k+m)*b.f (n+k+m)-((0:Nat):Rat))*2^(n+k+m)<=K:=hK (n+k+m)
 revert a1 a2 a3
 generalize a.f (n+k+m)=u
 generalize b.f (n+k+m)=v
 intro a1 a2 a3
 have e:(u*v-((0:Nat):Rat))*2^(n+k+m)=(u*2^n)*(v*2^k)*2^m:=by rw[show ((0:Nat):Rat)=0 from rfl];grind
 have p1:0<(u*2^n-1)*(v*2^k-1):=Rat.mul_pos (by grind) (by grind)
 have p2:0<((u*2^n)*(v*2^k)-1)*2^m:=Rat.mul_pos (by grind) (two_pow_pos m)
 grind
instance:Lean.Grind.OrderedRing Re where
 zero_lt_one:=by
  rintro ⟨K,hK⟩
  obtain ⟨m,hm⟩:=AZ K
  have:(((1:Nat):Rat)-((0:Nat):Rat))*2^m<=K:=hK m
  rw[show ((0:Nat):Rat)=0 from rfl,show ((1:Nat):Rat)=1 from rfl] at this
  grind
 mul_lt_mul_of_pos_left {a b c} h g:=by
  have:=mul_pos (x:=c) (y:=b-a) g (by grind)
  rw[show c*(b-a)=c*b-c*a by grind] at this
  generalize c*b=u at *;generalize c*a=v at *
  grind
 mul_lt_mul_of_pos_right {a b c} h g:=by
  have:=mul_pos (x:=c) (y:=b-a) g (by grind)
  rw[show c*(b-a)=b*c-a*c by grind] at this
  generalize b*c=u at *;generalize a*c=v at *
  grind
example (x y:Re) (h:0<x) (g:x<y):x*x<y*y:=by
 have:=mul_pos h h;have:=mul_pos h (show 0<y-x by grind);have:=mul_pos (show 0<y by grind) (show 0<y-x by grind);grind
end Re
end Mine
namespace Mine
open Re
theorem eO{a b:Re}(h:a<b):0<b-a:=by grind
theorem Ay{a b:Re}(h:a<b):a-b<0:=by grind
theorem cH{a b:Re}(h:a<=b):0<=b-a:=by grind
theorem GL{a b:Re}(h:0<b-a):a<b:=by grind
theorem Gy{a b:Re}(h:a-b<0):a<b:=by grind
theorem Gi{a b:Re}(h:a-b=0):a=b:=by grind
theorem GD{a b:Re}(h:a-b=0):b=a:=by grind
theorem Gp{a b:Re}(h:a=b):a-b=0:=by grind
theorem fj{a b c:Re}(h:a<b)(g:b<c):a<c:=by grind
theorem uG{a b c:Re}(h:a<b)(g:b<=c):a<c:=by grind
theorem rJ{a b c:Re}(h:a<=b)(g:b<c):a<c:=by grind
theorem bU{a b c:Re}(h:a<=b)(g:b<=c):a<=c:=by grind
theorem bM{a b:Re}(h:a<b):a<=b:=by grind
theorem E0{a b:Re}(h:¬ a<b):b<=a:=by grind
theorem Gu{a b:Re}(h:a<b):a≠b:=by grind
theorem Dz{a b:Re}(h:a<b):b≠a:=by grind
theorem jQ:(0:Re)<1:=Ic
end Mine
namespace Mine
theorem lC{n m:Nat}(h:n<=m):(2:Rat)^n<=2^m:=by
 have:=Rat.natCast_le_natCast.mpr (HL (show 0<2 by decide) h)
 rwa [Rat.natCast_pow,Rat.natCast_pow] at this
end Mine
namespace Mine
open Re
theorem ba(x y:Int):((x+y:Int):Re)=x+y:=fO (x:=.ofRat ((x+y:Int):Rat)) (y:=(Sq.ofRat (x:Rat)).add (.ofRat (y:Rat))) fun _=>Rat.intCast_add _ _
theorem au(x y:Int):((x*y:Int):Re)=x*y:=fO (x:=.ofRat ((x*y:Int):Rat)) (y:=(Sq.ofRat (x:Rat)).mul (.ofRat (y:Rat))) fun _=>Rat.intCast_mul _ _
theorem cP(x:Int):((-x:Int):Re)=-x:=fO (x:=.ofRat ((-x:Int):Rat)) (y:=(Sq.ofRat (x:Rat)).neg) fun _=>Rat.intCast_neg _
theorem ov(x y:Int):((x-y:Int):Re)=x-y:=by rw[Int.sub_eq_add_neg,ba,cP];grind
theorem aE:((0:Int):Re)=0:=rfl
theorem bD{x:Int}(h:0<x):(0:Re)<(x:Re):=by
 obtain ⟨n,rfl⟩:∃n:Nat,x=((n+1:Nat):Int):=⟨(x-1).toNat,by exact oqz [(x-1).toNat] [x] [(.il (0+1) Y0),(otn (.s Y0 1) Y0)] (.ie Y0 (.c (Y0+1))) [1001,1011,10001,101] rfl h (aQ (x-1))⟩
 induction n with
 |zero=>exact Ic
 |succ n ih =>
  have h1:=ih (by exact oqz [n] [] [] (.il (0+1) (.c (Y0+1))) [1] rfl)
  have:(((n+1+1:Nat):Int):Re)=((n+1:Nat):Int)+1:=by
   rw[show ((n+1+1:Nat):Int)=((n+1:Nat):Int)+1 by exact oqz [n] [] [] (.ie (.c (Y0+1+1)) (.a (.c (Y0+1)) 1)) [1] rfl,ba];rfl
  rw[this];have:=Ic (R:=Re);grind
theorem io{x y:Int}(h:x<y):(x:Re)<(y:Re):=by
 have:=bD (x:=y-x) (by exact oqz [] [y,x] [(.il (Y1+1) Y0)] (.il (0+1) (.s Y0 Y1)) [11] rfl h)
 rw[ov] at this;grind
theorem aZ{x y:Int}(h:x<=y):(x:Re)<=(y:Re):=by
 rcases Int.lt_or_eq_of_le h with h|h
 ·have:=io h;exact bM (this)
 ·rw[h];exact Ha _
open Classical in
noncomputable def rsg(x:Re):Int:=if 0<x then 1 else if x<0 then -1 else 0
theorem bj{x:Re}(h:0<x):rsg x=1:=if_pos h
theorem bh{x:Re}(h:x<0):rsg x=-1:=by unfold rsg;rw[if_neg (by grind),if_pos h]
theorem bF:rsg 0=0:=by unfold rsg;rw[if_neg (by grind),if_neg (by grind)]
theorem aS(x:Re):0<x\/x<0\/x=0:=by
 rcases Classical.em (0<x) with h|h
 ·exact .inl h
 ·rcases Classical.em (x<0) with g|g
  ·exact .inr (.inl g)
  ·exact .inr (.inr (by grind))
theorem eX(x y:Re):rsg (x*y)=rsg x*rsg y:=by
 rcases aS x with h|h|h <;> rcases aS y with g|g|g
 ·rw[bj h,bj g,bj (mul_pos h g)];rfl
 ·rw[bj h,bh g,bh (by have:=mul_pos h (show 0 < -y by grind);grind)];rfl
 ·rw[g,show x*0=0 by grind,bF,Hh]
 ·rw[bh h,bj g,bh (by have:=mul_pos (show 0 < -x by grind) g;grind)];rfl
 ·rw[bh h,bh g,bj (by have:=mul_pos (show 0 < -x by grind) (show 0 < -y by grind);grind)];rfl
 ·rw[g,show x*0=0 by grind,bF,Hh]
 ·rw[h,show 0*y=0 by grind,bF,HO]
 ·rw[h,show 0*y=0 by grind,bF,HO]
 ·rw[h,show 0*y=0 by grind,bF,HO]
theorem qc(x:Re):rsg (-x)=- rsg x:=by
 rcases aS x with h|h|h
 ·rw[bj h,bh (by grind)]
 ·rw[bh h,bj (by grind)];rfl
 ·rw[h,show -(0:Re)=0 by grind,bF];rfl
noncomputable def sg(n:Int):Int:=if n<0 then -1 else if 0<n then 1 else 0
theorem kA(n:Int):rsg (n:Re)=sg n:=by
 unfold sg
 rcases Int.lt_trichotomy n 0 with h|h|h
 ·rw[if_pos h,bh (io h)]
 ·rw[h];exact bF
 ·rw[if_neg (by exact oqz [] [n] [(.il (0+1) Y0)] (.no (.il (Y0+1) 0)) [11] rfl h),if_pos h,bj (bD h)]
theorem ac{x y:Re}(h:0<=x)(g:0<=y):0<=x*y:=by
 rcases aS x with a|a|a
 ·rcases aS y with b|b|b
  ·have:=mul_pos a b;exact bM (this)
  ·grind
  ·rw[b];grind
 ·grind
 ·rw[a];grind
end Mine
namespace Mine
open Re
open Classical in
noncomputable def ab(x:Re):Re:=if 0<=x then x else -x
theorem aI(x:Re):0<=ab x:=by unfold ab;split <;> grind
theorem f7(x:Re):ab x=x\/ab x=-x:=by unfold ab;split <;> simp
theorem cT(x:Re):x<=ab x/\-x<=ab x:=by unfold ab;split <;> grind
theorem cQ(x y:Re):ab (x*y)=ab x*ab y:=by
 have h:=aI x;have g:=aI y
 have k:=ac h g
 have e:ab (x*y)*ab (x*y)=(ab x*ab y)*(ab x*ab y):=by
  rcases f7 x with a|a <;> rcases f7 y with b|b <;> rcases f7 (x*y) with c|c <;> rw[a,b,c] <;> grind
 have l:=aI (x*y)
 generalize ab (x*y)=p at *
 generalize ab x*ab y=q at *
 rcases aS (p-q) with d|d|d
 ·have:=mul_pos d (show 0<p+q by grind);grind
 ·have:=mul_pos (show 0<q-p by grind) (show 0<p+q by grind);grind
 ·grind
theorem rH{n:Int}(h:n≠0):1<=ab (n:Re):=by
 have one:((1:Int):Re)=1:=rfl
 rcases Int.lt_or_lt_of_ne h with h|h
 ·have:=aZ (show 1<=-n by exact oqz [] [n] [(.il (Y0+1) 0)] (.il 1 (.g Y0)) [11] rfl h);have:=(cT (n:Re)).2;rw[cP] at *;grind
 ·have:=aZ (show 1<=n by exact oqz [] [n] [(.il (0+1) Y0)] (.il 1 Y0) [11] rfl h);have:=(cT (n:Re)).1;grind
theorem bY{x y:Re}(h:x*y=0)(g:x≠0):y=0:=by
 rcases aS x with a|a|a
 ·rcases aS y with b|b|b
  ·have:=mul_pos a b;grind
  ·have:=mul_pos a (show 0 < -y by grind);grind
  ·exact b
 ·rcases aS y with b|b|b
  ·have:=mul_pos (show 0 < -x by grind) b;grind
  ·have:=mul_pos (show 0 < -x by grind) (show 0 < -y by grind);grind
  ·exact b
 ·exact absurd a g
end Mine
namespace Mine
noncomputable def mulG(a b:Int):Int->List Int->List Int
 |c,[]=>[c]
 |c,x::r=>(c+x*a)::mulG a b (x*b) r
noncomputable def addL(xs ys:List Int):List Int:=List.zipWith (fun x y=>x+y) xs ys
noncomputable def smul(c:Int)(xs:List Int):List Int:=xs.map fun x=>c*x
noncomputable def mulN(a b:Int):Nat->List Int->List Int
 |0,xs=>xs
 |n+1,xs=>mulG a b 0 (mulN a b n xs)
noncomputable def bW(n:Nat):List Int:=List.replicate n 0
theorem cf{a b:Int}:∀ {c:Int}{xs:List Int},(mulG a b c xs).length=xs.length+1
 |_,[]=>rfl
 |c,x::r=>by
  show (mulG a b (x*b) r).length+1=r.length+1+1
  rw[cf]
theorem bV{a b:Int}{xs:List Int}:∀ {n:Nat},(mulN a b n xs).length=xs.length+n
 |0=>rfl
 |n+1=>by
  show (mulG a b 0 (mulN a b n xs)).length=_
  rw[cf,bV];rfl
theorem mE{a b c d:Int}:∀ {xs:List Int}{e f e' f':Int},e+f*a=e'+f'*c->f*b=f'*d->mulG a b e (mulG c d f xs)=mulG c d e' (mulG a b f' xs)
 | [],e,f,e',f',h1,h2=>by
  show [e+f*a,f*b]=[e'+f'*c,f'*d]
  rw[h1,h2]
 |x::r,e,f,e',f',h1,h2=>by
  show (e+(f+x*c)*a)::mulG a b ((f+x*c)*b) (mulG c d (x*d) r)=(e'+(f'+x*a)*c)::mulG c d ((f'+x*a)*d) (mulG a b (x*b) r)
  have i1:e+(f+x*c)*a=e'+(f'+x*a)*c:=by grind
  have i2:(f+x*c)*b+x*d*a=(f'+x*a)*d+x*b*c:=by grind
  have i3:x*d*b=x*b*d:=by grind
  rw[i1,mE i2 i3]
theorem mK{a b c d:Int}{xs:List Int}:∀ {n:Nat},mulG a b 0 (mulN c d n xs)=mulN c d n (mulG a b 0 xs)
 |0=>rfl
 |n+1=>by
  show mulG a b 0 (mulG c d 0 (mulN c d n xs))=mulG c d 0 (mulN c d n (mulG a b 0 xs))
  rw[<- mK (n:=n)]
  exact mE (by exact oqz [] [a,c] [] (.ie (.a 0 (.m 0 Y0)) (.a 0 (.m 0 Y1))) [1] rfl) (by exact oqz [] [b,d] [] (.ie (.m 0 Y0) (.m 0 Y1)) [1] rfl)
theorem mA{a b c d:Int}{xs:List Int}{m:Nat}:∀ {n:Nat},mulN a b n (mulN c d m xs)=mulN c d m (mulN a b n xs)
 |0=>rfl
 |n+1=>by
  show mulG a b 0 (mulN a b n (mulN c d m xs))=mulN c d m (mulG a b 0 (mulN a b n xs))
  rw[mA (n:=n),mK]
theorem r9{a b:Int}{xs:List Int}:∀ {n:Nat},mulN a b (n+1) xs=mulN a b n (mulG a b 0 xs)
 |0=>rfl
 |n+1=>by
  show mulG a b 0 (mulN a b (n+1) xs)=mulG a b 0 (mulN a b n (mulG a b 0 xs))
  rw[r9 (n:=n)]
theorem gn{xs ys:List Int}(h:xs.length=ys.length):(addL xs ys).length=xs.length:=by
 unfold addL;rw[List.length_zipWith,h,Nat.min_self]
theorem qr{a b:Int}:∀ {xs ys:List Int}{c d:Int},xs.length=ys.length->mulG a b (c+d) (addL xs ys)=addL (mulG a b c xs) (mulG a b d ys)
 | [],[],_,_,_=>rfl
 |x::r,y::t,c,d,h=>by
  show ((c+d)+(x+y)*a)::mulG a b ((x+y)*b) (addL r t)=((c+x*a)+(d+y*a))::addL (mulG a b (x*b) r) (mulG a b (y*b) t)
  have i1:(c+d)+(x+y)*a=(c+x*a)+(d+y*a):=by grind
  have i2:(x+y)*b=x*b+y*b:=by grind
  rw[i1,i2,qr (Ix h)]
theorem jv{a b t:Int}:∀ {xs:List Int}{c:Int},mulG a b (t*c) (smul t xs)=smul t (mulG a b c xs)
 | [],_=>rfl
 |x::r,c=>by
  show (t*c+t*x*a)::mulG a b (t*x*b) (smul t r)=(t*(c+x*a))::smul t (mulG a b (x*b) r)
  have i1:t*c+t*x*a=t*(c+x*a):=by grind
  have i2:t*x*b=t*(x*b):=by grind
  rw[i1,i2,jv]
theorem oQ{a b:Int}{xs ys:List Int}(h:xs.length=ys.length):∀ {n:Nat},mulN a b n (addL xs ys)=addL (mulN a b n xs) (mulN a b n ys)
 |0=>rfl
 |n+1=>by
  show mulG a b 0 (mulN a b n (addL xs ys))=_
  rw[oQ h (n:=n),show (0:Int)=0+0 from rfl,qr (by rw[bV,bV,h])]
  rfl
theorem gz{a b t:Int}{xs:List Int}:∀ {n:Nat},mulN a b n (smul t xs)=smul t (mulN a b n xs)
 |0=>rfl
 |n+1=>by
  show mulG a b 0 (mulN a b n (smul t xs))=_
  rw[gz (n:=n),show (0:Int)=t*0 from (Hh t).symm,jv]
  rfl
theorem lr{a b:Int}:∀ {n:Nat},mulG a b 0 (bW n)=bW (n+1)
 |0=>rfl
 |n+1=>by
  show (0+0*a)::mulG a b (0*b) (bW n)=0::bW (n+1)
  rw[HO,HO,lr];rfl
theorem mulN_nil{a b:Int}:∀ {n:Nat},mulN a b n []=bW n
 |0=>rfl
 |n+1=>by
  show mulG a b 0 (mulN a b n [])=_
  rw[mulN_nil,lr]
theorem mn{xs ys:List Int}:addL xs ys=addL ys xs:=by
 unfold addL;rw[List.zipWith_comm];congr 1;funext x y;exact Int.add_comm _ _
theorem lT:∀ {xs ys zs:List Int},addL (addL xs ys) zs=addL xs (addL ys zs)
 | [],_,_=>by simp[addL]
 |_::_,[],_=>by simp[addL]
 |_::_,_::_,[]=>by simp[addL]
 |x::r,y::t,z::u=>by
  show ((x+y)+z)::addL (addL r t) u=(x+(y+z))::addL r (addL t u)
  rw[lT,Jr]
theorem jo:∀ {xs:List Int},addL (bW xs.length) xs=xs
 | []=>rfl
 |x::r=>by
  show (0+x)::addL (bW r.length) r=x::r
  rw[jo,HG]
noncomputable def hs(b e s:Int):List Int->List Int
 | []=>[]
 |c::r=>addL (mulG b e 0 (hs b e s r)) (smul c (mulN s s r.length [1]))
theorem dT{b e s:Int}:∀ {r:List Int},(hs b e s r).length=r.length
 | []=>rfl
 |c::r=>by
  show (addL _ _).length=r.length+1
  rw[gn,cf,dT]
  rw[cf,dT];unfold smul;rw[GO,bV];exact Id _ _
noncomputable def ls(b e s:Int):Nat->List Int->List Int
 |k,[]=>bW k
 |k,c::r=>addL (mulN s s r.length (mulN b e k [c])) (ls b e s (k+1) r)
theorem B7{b e s:Int}:∀ {r:List Int}{k:Nat},ls b e s k r=mulN b e k (hs b e s r)
 | [],_=>mulN_nil.symm
 |c::r,k=>by
  show addL (mulN s s r.length (mulN b e k [c])) (ls b e s (k+1) r)=mulN b e k (addL (mulG b e 0 (hs b e s r)) (smul c (mulN s s r.length [1])))
  rw[oQ (by rw[cf,dT];unfold smul;rw[GO,bV];exact Id _ _),B7,<- r9,gz,mA,mn,<- gz,<- gz]
  show _=addL _ (mulN b e k (mulN s s r.length [c*1]))
  rw[H7]
theorem wV{b e s:Int}{r:List Int}:ls b e s 0 r=hs b e s r:=B7
noncomputable def tv:Int->List Int->Int
 |_,[]=>0
 |l,x::r=>(if l*x<0 then 1 else 0)+tv (if x=0 then l else x) r
theorem fW(l x:Int)(r:List Int):tv l (x::r)=(if l*x<0 then 1 else 0)+tv (if x=0 then l else x) r:=rfl
theorem A9(l:Int):tv l []=0:=rfl
noncomputable def sgn(x:Int):Int:=if x<0 then -1 else if 0<x then 1 else 0
noncomputable def aw(p q:Int):List Int->Int
 | []=>0
 |c::cs=>aw p q cs*p+c*q^cs.length
theorem tL(p q c:Int)(cs:List Int):aw p q (c::cs)=aw p q cs*p+c*q^cs.length:=rfl
noncomputable def hc(a0 a1 b0 b1:Int):List Int->List Int
 | []=>[]
 |c::r=>addL (mulG a0 a1 0 (hc a0 a1 b0 b1 r)) (smul c (mulN b0 b1 r.length [1]))
theorem pd{b e s:Int}:∀ {r:List Int},hs b e s r=hc b e s s r
 | []=>rfl
 |c::r=>by
  show addL (mulG b e 0 (hs b e s r)) _=addL (mulG b e 0 (hc b e s s r)) _
  rw[pd]
theorem aW{c:Int}{xs:List Int}:(smul c xs).length=xs.length:=GO ..
theorem kF{a0 a1 b0 b1:Int}:∀ {r:List Int},(hc a0 a1 b0 b1 r).length=r.length
 | []=>rfl
 |c::r=>by
  have e:(mulG a0 a1 0 (hc a0 a1 b0 b1 r)).length=(smul c (mulN b0 b1 r.length [1])).length:=by
   rw[cf,kF,aW,bV];exact Id _ _
  show (addL _ _).length=r.length+1
  rw[gn e,cf,kF]
theorem jq(p q:Int):∀ {xs ys:List Int},xs.length=ys.length->aw p q (addL xs ys)=aw p q xs+aw p q ys
 | [],[],_=>rfl
 |x::r,y::t,h=>by
  have h':r.length=t.length:=Ix h
  show aw p q (addL r t)*p+(x+y)*q^(addL r t).length=(aw p q r*p+x*q^r.length)+(aw p q t*p+y*q^t.length)
  rw[jq p q h',gn h',h'];grind
theorem bE(p q c:Int):∀ {xs:List Int},aw p q (smul c xs)=c*aw p q xs
 | []=>(Hh _).symm
 |x::r=>by
  show aw p q (smul c r)*p+(c*x)*q^(smul c r).length=c*(aw p q r*p+x*q^r.length)
  rw[bE p q c,aW];grind
theorem jk(p q a b:Int):∀ {xs:List Int}{c:Int},aw p q (mulG a b c xs)=(a*q+b*p)*aw p q xs+c*q^xs.length
 | [],c=>by
  show 0*p+c*q^0=(a*q+b*p)*0+c*q^0
  exact oqz [] [p,c*q^0,a*q,b*p] [] (.ie (.a (.m 0 Y0) Y1) (.a (.r (Y2+Y3) 0) Y1)) [1] rfl
 |x::r,c=>by
  show aw p q (mulG a b (x*b) r)*p+(c+x*a)*q^(mulG a b (x*b) r).length=(a*q+b*p)*(aw p q r*p+x*q^r.length)+c*q^(r.length+1)
  rw[jk p q a b,cf,Hr];grind
theorem mQ(p q a b:Int){xs:List Int}:∀ {n:Nat},aw p q (mulN a b n xs)=(a*q+b*p)^n*aw p q xs
 |0=>by rw[HH,Hs];rfl
 |n+1=>by
  show aw p q (mulG a b 0 (mulN a b n xs))=_
  rw[jk,mQ,Hr];grind
theorem wn(p q:Int):aw p q [1]=1:=by
 show 0*p+1*q^0=1
 grind
theorem nJ(p q a0 a1 b0 b1:Int):∀ {xs:List Int},aw p q (hc a0 a1 b0 b1 xs)=aw (a0*q+a1*p) (b0*q+b1*p) xs
 | []=>rfl
 |c::r=>by
  have e:(mulG a0 a1 0 (hc a0 a1 b0 b1 r)).length=(smul c (mulN b0 b1 r.length [1])).length:=by
   rw[cf,kF,aW,bV];exact Id _ _
  show aw p q (addL _ _)=aw (a0*q+a1*p) (b0*q+b1*p) r*(a0*q+a1*p)+c*(b0*q+b1*p)^r.length
  rw[jq p q e,jk,bE,mQ,wn,nJ p q];grind
theorem g5(k p q:Int):∀ {c:Int}{r:List Int},aw (k*p) (k*q) (c::r)=k^r.length*aw p q (c::r)
 |c,[]=>by
  show 0*(k*p)+c*(k*q)^0=k^0*(0*p+c*q^0)
  grind
 |c,d::r=>by
  show aw (k*p) (k*q) (d::r)*(k*p)+c*(k*q)^(r.length+1)=k^(r.length+1)*(aw p q (d::r)*p+c*q^(r.length+1))
  rw[g5 k p q,Int.mul_pow,Hr k];grind
theorem gR(t c:Int)(r:List Int):aw t 1 (c::r)=aw t 1 r*t+c:=by
 show aw t 1 r*t+c*1^r.length=_
 rw[Int.one_pow,H7]
theorem dZ:∀ {xs:List Int},(∀t:Int,t≠0->aw t 1 xs=0)->∀x∈xs,x=0
 | [],_,x,hx=>nomatch hx
 |c::r,h,x,hx=>by
  have h':∀t:Int,t≠0->aw t 1 r*t+c=0:=fun t ht=>by rw[<- gR];exact h t ht
  have hc:c=0:=by
   have h1:=h' (c.natAbs+1) (by exact oqz [c.natAbs] [] [] (.no (.ie (.a (.c Y0) 1) 0)) [1] rfl)
   have hd:((c.natAbs:Int)+1) ∣ c:=⟨-(aw (c.natAbs+1) 1 r),by grind⟩
   exact HD fun h0=>by
    have h2:=Nat.le_of_dvd (Jf.mpr h0) (Iu.mpr hd)
    (clear h hx h' h1 hd h0;omega)
  have hr:∀t:Int,t≠0->aw t 1 r=0:=fun t ht=>by
   have h1:=h' t ht
   rw[hc,Hv] at h1
   exact (Int.mul_eq_zero.mp h1).resolve_right ht
  rcases Hf.mp hx with rfl|hx
  ·exact hc
  ·exact dZ hr x hx
theorem lS:∀ {xs ys:List Int},xs.length=ys.length->(∀t:Int,aw t 1 xs=aw t 1 ys)->xs=ys:=fun {xs ys} hl h=>by
 have hz:∀x∈addL xs (smul (-1) ys),x=0:=dZ fun t _=>by
  rw[jq t 1 (by rw[aW,hl]),bE,h t];exact oqz [] [aw t 1 ys,-1*aw t 1 ys] [(.ie Y1 (.g (.m 1 Y0)))] (.ie (Y0+Y1) 0) [101,11] rfl (HC 1 (aw t 1 ys))
 clear h
 induction xs generalizing ys with
 |nil=>cases ys with
  |nil=>rfl
  |cons y t=>cases hl
 |cons x r ih=>cases ys with
  |nil=>cases hl
  |cons y t =>
   have h1:x+-1*y=0:=hz _ GW
   have h2:r=t:=ih (Ix hl) fun z hz'=>hz z (G3 _ hz')
   rw[h2];congr 1;exact oqz [] [x,y,-1*y] [(.ie (Y0+Y2) 0),(.ie Y2 (.g (.m 1 Y1)))] (.ie Y0 Y1) [1101,10011] rfl h1 (HC 1 (y))
theorem jb(p q c:Int):∀ {xs:List Int},aw p q (xs++[c])=aw p q xs*q+c*p^xs.length
 | []=>by
  show 0*p+c*q^0=0*q+c*p^0
  grind
 |x::r=>by
  show aw p q (r++[c])*p+x*q^(r++[c]).length=(aw p q r*p+x*q^r.length)*q+c*p^(r.length+1)
  rw[jb p q c,GR,G8,Hr,Hr];grind
theorem pB(p q:Int):∀ {xs:List Int},aw p q xs.reverse=aw q p xs
 | []=>rfl
 |x::r=>by
  rw[IO,jb,pB p q,Hz];rfl
noncomputable def Up(xs:List Int):Prop:=xs.Pairwise fun x y=>0<x->0<=y
noncomputable def NN(xs:List Int):Prop:=∀x∈xs,0<=x
theorem Up.cons{x:Int}{xs:List Int}(h:0<x->NN xs)(u:Up xs):Up (x::xs):=I2.mpr ⟨fun y hy hx=>h hx y hy,u⟩
theorem Up.hd{x:Int}{xs:List Int}(h:Up (x::xs))(hx:0<x):NN xs:=fun y hy=>(I2.mp h).1 y hy hx
theorem Up.tl{x:Int}{xs:List Int}(h:Up (x::xs)):Up xs:=(I2.mp h).2
theorem Up.nil:Up []:=List.Pairwise.nil
theorem NN.cons{x:Int}{xs:List Int}(h:0<=x)(u:NN xs):NN (x::xs):=fun y hy=>by
 rcases Hf.mp hy with rfl|hy
 ·exact h
 ·exact u y hy
theorem NN.hd{x:Int}{xs:List Int}(h:NN (x::xs)):0<=x:=h x GW
theorem NN.tl{x:Int}{xs:List Int}(h:NN (x::xs)):NN xs:=fun y hy=>h y (G3 _ hy)
theorem Up.rev{xs:List Int}(h:Up xs):Up (smul (-1) xs.reverse):=by
 unfold Up smul
 rw[IQ,List.pairwise_reverse]
 exact List.Pairwise.imp (fun {a b} hab hb=>by by_cases ha:0<a;(· have:=hab ha;exact oqz [] [-1*a,-1*b,b] [(.il (0+1) Y1),(.il 0 Y2),(.ie Y1 (.g (.m 1 Y2)))] (.il 0 Y0) [1110] rfl hb this (HC 1 (b)));exact oqz [] [-1*a,a] [(.no (.il (0+1) Y1)),(.ie Y0 (.g (.m 1 Y1)))] (.il 0 Y0) [1011] rfl ha (HC 1 (a))) h
end Mine
namespace Mine
open PySem
noncomputable abbrev vv0:PE:=.var 0
noncomputable abbrev vv1:PE:=.var 1
noncomputable abbrev vv2:PE:=.var 2
noncomputable abbrev vv3:PE:=.var 3
noncomputable abbrev vv4:PE:=.var 4
noncomputable abbrev vv5:PE:=.var 5
noncomputable abbrev vv6:PE:=.var 6
noncomputable abbrev vv7:PE:=.var 7
noncomputable abbrev vv8:PE:=.var 8
noncomputable abbrev vv9:PE:=.var 9
noncomputable abbrev C5:PE:=.var 10
noncomputable abbrev kk0:PE:=.cint 0
noncomputable abbrev kk1:PE:=.cint 1
noncomputable abbrev kk2:PE:=.cint 2
noncomputable abbrev kk3:PE:=.cint 3
noncomputable abbrev kk6:PE:=.cint 6
noncomputable abbrev kk8:PE:=.cint 8
noncomputable abbrev kk9:PE:=.cint 9
noncomputable abbrev DZ:PE:=.cint 10
noncomputable abbrev Gf:PE:=.cint 13
noncomputable abbrev GG:PE:=.cint 18
noncomputable abbrev qD:PE:=.cint 4096
noncomputable abbrev ss1 (a:PE):PEs:=.cons a .nil
noncomputable abbrev ss2 (a b:PE):PEs:=.cons a (ss1 b)
noncomputable abbrev ss3 (a b c:PE):PEs:=.cons a (ss2 b c)
noncomputable def ym:PS:=.seq (.ite (.cmp .lt vv1 (.bi .len (ss1 vv0))) (.seq (.ret (.idx vv0 vv1)) .skip) .skip) (.seq (.ret kk0) .skip)
noncomputable def EO:PS:=.seq (.assign 2 (.bin .mod vv0 vv1)) (.seq (.assign 0 vv1) (.seq (.assign 1 vv2) .skip))
noncomputable def Cu:PS:=.seq (.whl (.cmp .ne vv1 kk0) EO) (.seq (.ret (.bi .abs (ss1 vv0))) .skip)
noncomputable def xf:PS:=.seq (.ret (.and (ss2 (.isi vv0 [.int]) (.nt (.isi vv0 [.bool]))))) .skip
noncomputable def vE(dv:Nat):PS:=.seq (.assign 2 (.call dv (ss2 vv0 vv1))) (.seq (.ite (.cmp .lt vv1 kk0) (.seq (.assign 2 (.bin .sub kk0 vv2)) .skip) .skip)
 (.seq (.ret (.tup (ss2 (.bin .fdiv vv0 vv2) (.bin .fdiv vv1 vv2)))) .skip))
noncomputable def Fc:PS:=(.seq (.setidx 3 vv4 (.bin .add (.idx vv3 vv4) (.bin .mul (.idx vv0 vv4) vv1)))
 (.seq (.setidx 3 (.bin .add vv4 kk1) (.bin .add (.idx vv3 (.bin .add vv4 kk1)) (.bin .mul (.idx vv0 vv4) vv2)))
 .skip))
noncomputable def CI:PS:=(.seq (.assign 3 (.bin .mul (.lst (ss1 kk0)) (.bin .add (.bi .len (ss1 vv0)) kk1)))
 (.seq (.forr 4 (.rng (ss1 (.bi .len (ss1 vv0)))) Fc)
 (.seq (.ret vv3) .skip)))
noncomputable def B3:PE:=(.bin .add (.idx vv1 vv0) (.bin .mul vv2 (.idx vv3 vv0)))
noncomputable def w9:PE:=(.comp B3 1 [6,8,7] (.rng (ss1 (.bi .len (ss1 vv6)))) .no)
noncomputable def BK(mu:Nat):PS:=(.seq (.assign 7 (.call mu (ss3 vv7 vv5 vv5)))
 (.seq (.assign 6 (.call mu (ss3 vv6 vv3 vv4)))
 (.seq (.assign 6 w9)
 .skip)))
noncomputable def wZ(mu:Nat):PS:=(.seq (.assign 3 (.bin .mul (.idx vv1 kk0) (.idx vv2 kk1)))
 (.seq (.assign 4 (.bin .mul (.idx vv2 kk0) (.idx vv1 kk1)))
 (.seq (.assign 5 (.bin .mul (.idx vv1 kk1) (.idx vv2 kk1)))
 (.seq (.assign 6 (.lst (ss1 (.idx vv0 (.neg kk1)))))
 (.seq (.assign 7 (.lst (ss1 kk1)))
 (.seq (.forr 8 (.rev (.slc vv0 .no (.some (.neg kk1)))) (BK mu))
 (.seq (.ret vv6) .skip)))))))
noncomputable def xd:PS:=(.seq (.ite (.cmp .ne vv5 kk0) (.seq (.ite (.cmp .lt (.bin .mul vv4 vv5) kk0) (.seq (.assign 3 (.bin .add vv3 kk1))
 .skip) .skip)
 (.seq (.assign 4 vv5) .skip)) .skip)
 .skip)
noncomputable def qJ(se:Nat):PS:=(.seq (.assign 3 kk0)
 (.seq (.assign 4 kk0)
 (.seq (.forr 5 (.seq (.call se (ss3 vv0 vv1 vv2))) xd)
 (.seq (.ret vv3) .skip))))
noncomputable def FG:PS:=(.seq (.setidx 2 (.bin .add vv3 vv4) (.bin .add (.idx vv2 (.bin .add vv3 vv4)) (.bin .mul (.idx vv0 vv3) (.idx vv1 vv4))))
 .skip)
noncomputable def Fp:PS:=(.seq (.forr 4 (.rng (ss1 (.bi .len (ss1 vv1)))) FG)
 .skip)
noncomputable def zBy:PE:=(.comp kk0 1 [] (.rng (ss1 (.bin .sub (.bin .add (.bi .len (ss1 vv0)) (.bi .len (ss1 vv1))) kk1))) .no)
noncomputable def bBy:PS:=(.seq (.assign 2 zBy)
 (.seq (.forr 3 (.rng (ss1 (.bi .len (ss1 vv0)))) Fp)
 (.seq (.ret vv2) .skip)))
noncomputable def tV(by_:Nat):PS:=(.seq (.ite (.cmp .lt vv6 vv4) (.seq (.assign 5 (.call by_ (ss2 vv5 (.lst (ss2 (.bin .mul (.idx vv1 kk0) (.idx vv2 kk1)) (.bin .mul (.idx vv2 kk0) (.idx vv1 kk1)))))))
 .skip) (.seq (.assign 5 (.call by_ (ss2 vv5 (.lst (ss2 (.bin .mul (.idx vv1 kk1) (.idx vv2 kk1)) (.bin .mul (.idx vv1 kk1) (.idx vv2 kk1)))))))
 .skip))
 .skip)
noncomputable def rQ:PE:=(.comp (.bin .add (.idx vv1 vv0) (.idx vv2 vv0)) 1 [3,5] (.rng (ss1 (.bi .len (ss1 vv0)))) .no)
noncomputable def uf(by_:Nat):PS:=(.seq (.assign 5 (.lst (ss1 (.idx vv0 vv4))))
 (.seq (.forr 6 (.rng (ss1 (.bin .sub (.bi .len (ss1 vv0)) kk1))) (tV by_))
 (.seq (.assign 3 rQ) .skip)))
noncomputable def wB:PE:=(.comp kk0 1 [] (.seq vv0) .no)
noncomputable def qC(by_:Nat):PS:=(.seq (.assign 3 wB)
 (.seq (.forr 4 (.rng (ss1 (.bi .len (ss1 vv0)))) (uf by_))
 (.seq (.ret vv3) .skip)))
noncomputable def sT:PS:=(.seq (.ite (.cmp .lt (.bin .mul vv5 vv4) kk0) (.seq (.assign 3 (.bin .add vv3 kk1))
 .skip) .skip)
 (.seq (.ite (.cmp .ne vv5 kk0) (.seq (.assign 4 vv5) .skip) .skip) .skip))
noncomputable def mX(se:Nat):PS:=(.seq (.assign 3 kk0)
 (.seq (.assign 4 kk0)
 (.seq (.forr 5 (.seq (.call se (ss3 vv0 vv1 vv2))) sT)
 (.seq (.ret vv3) .skip))))
noncomputable def lq:PS:=(.seq (.assign 0 (.bi .abs (ss1 vv0)))
 (.seq (.assign 1 (.bi .abs (ss1 vv1)))
 (.seq (.whl (.cmp .gt vv1 kk0) (.seq (.assign 2 (.bin .mod vv0 vv1)) (.seq (.assign 0 vv1) (.seq (.assign 1 vv2) .skip))))
 (.seq (.ret vv0) .skip))))
noncomputable def gW(dv:Nat):PS:=(.seq (.ite (.cmp .eq vv1 kk0) (.seq (.raise 1) .skip) .skip)
 (.seq (.assign 2 (.call dv (ss2 vv0 vv1)))
 (.seq (.ite (.cmp .lt vv1 kk0) (.seq (.assign 2 (.neg vv2)) .skip) .skip)
 (.seq (.ret (.tup (ss2 (.bin .fdiv vv0 vv2) (.bin .fdiv vv1 vv2)))) .skip))))
noncomputable def eT:PS:=(.seq (.ret (.cmp .lt (.bin .mul (.idx vv0 kk0) (.idx vv1 kk1)) (.bin .mul (.idx vv1 kk0) (.idx vv0 kk1)))) .skip)
noncomputable def jO(pa:Nat):PS:=(.seq (.ret (.call pa (ss2 (.bin .add (.bin .mul (.idx vv0 kk0) (.idx vv1 kk1)) (.bin .mul (.idx vv1 kk0) (.idx vv0 kk1))) (.bin .mul (.idx vv0 kk1) (.idx vv1 kk1))))) .skip)
noncomputable def BR:PS:=(.seq (.assign 2 (.bin .add (.bin .mul vv2 (.idx vv1 kk0)) (.bin .mul vv4 vv3)))
 (.seq (.assign 3 (.bin .mul vv3 (.idx vv1 kk1))) .skip))
noncomputable def v8:PS:=(.seq (.assign 2 kk0)
 (.seq (.assign 3 kk1)
 (.seq (.forr 4 (.rev vv0) BR)
 (.seq (.ite (.cmp .lt vv2 kk0) (.seq (.ret (.neg kk1)) .skip) .skip)
 (.seq (.ret (.bi .int (ss1 (.cmp .gt vv2 kk0)))) .skip)))))
noncomputable def DV:PE:=(.comp (.bin .fdiv vv0 vv1) 1 [1] (.seq vv0) .no)
noncomputable def FK(dv:Nat):PS:=(.seq (.assign 1 (.call dv (ss2 vv1 vv2))) .skip)
noncomputable def vo(dv:Nat)(ng:PE):PS:=(.seq (.assign 1 kk0)
 (.seq (.forr 2 (.seq vv0) (FK dv))
 (.seq (.ite (.cmp .lt (.idx vv0 (.neg kk1)) kk0) (.seq (.assign 1 ng) .skip) .skip)
 (.seq (.ret DV) .skip))))
noncomputable def Fe:PS:=(.seq (.assign 2 (.bin .add (.bin .mul vv2 (.idx vv1 kk0)) (.bin .mul (.idx vv0 vv4) vv3)))
 (.seq (.assign 3 (.bin .mul vv3 (.idx vv1 kk1))) .skip))
noncomputable def CY:PS:=(.seq (.assign 2 kk0)
 (.seq (.assign 3 kk1)
 (.seq (.forr 4 (.rng (ss3 (.bin .sub (.bi .len (ss1 vv0)) kk1) (.neg kk1) (.neg kk1))) Fe)
 (.seq (.ret vv2) .skip))))
noncomputable def nP(wh pa:Nat):PS:=(.seq (.ite (.or (.cons (.nt (.isi vv0 [.tuple])) (ss3 (.cmp .ne (.bi .len (ss1 vv0)) kk2) (.nt (.call wh (ss1 (.idx vv0 kk0)))) (.nt (.call wh (ss1 (.idx vv0 kk1))))))) (.seq (.ret (.cbool false)) .skip) .skip)
 (.seq (.ret (.and (ss2 (.cmp .gt (.idx vv0 kk1) kk0) (.cmp .eq (.call pa (ss2 (.idx vv0 kk0) (.idx vv0 kk1))) vv0)))) .skip))
noncomputable def zWh(wh:Nat):PE:=(.comp vv0 1 [] (.seq vv1) (.some (.nt (.call wh (ss1 vv0)))))
noncomputable def FS(va tu:Nat):PS:=(.seq (.assign 2 (.call va (ss2 vv1 (.idx vv0 kk1))))
 (.seq (.assign 3 (.call va (ss2 vv1 (.idx vv0 kk2))))
 (.seq (.ite (.or (ss3 (.cmp .ge (.bin .mul (.idx (.idx vv0 kk1) kk0) (.idx (.idx vv0 kk2) kk1)) (.bin .mul (.idx (.idx vv0 kk2) kk0) (.idx (.idx vv0 kk1) kk1))) (.cmp .eq vv2 kk0) (.cmp .eq vv3 kk0))) (.seq (.ret (.cbool false)) .skip) .skip)
 (.seq (.ret (.cmp .eq (.call tu (ss3 vv1 (.idx vv0 kk1) (.idx vv0 kk2))) kk1)) .skip))))
noncomputable def Fj(sm ip va tu:Nat):PS:=(.seq (.ite (.or (ss3 (.cmp .ne (.call sm (ss1 vv1)) vv1) (.nt (.call ip (ss1 (.idx vv0 kk1)))) (.nt (.call ip (ss1 (.idx vv0 kk2)))))) (.seq (.ret (.cbool false)) .skip) .skip)
 (FS va tu))
noncomputable def rA(wh sm ip va tu:Nat):PS:=(.seq (.ite (.or (ss3 (.nt (.isi vv0 [.tuple])) (.cmp .ne (.bi .len (ss1 vv0)) kk3) (.nt (.isi (.idx vv0 kk0) [.tuple])))) (.seq (.ret (.cbool false)) .skip) .skip)
 (.seq (.assign 1 (.bi .list (ss1 (.idx vv0 kk0))))
 (.seq (.ite (.or (ss3 (.cmp .lt (.bi .len (ss1 vv1)) kk2) (.cmp .gt (.bi .len (ss1 (zWh wh))) kk0) (.cmp .lt (.idx vv1 (.neg kk1)) kk1))) (.seq (.ret (.cbool false)) .skip) .skip)
 (Fj sm ip va tu))))
noncomputable def ngL:PE:=.bin .sub kk0 vv1
noncomputable def BC:PE:=(.and (ss2 vv1 (.cmp .eq (.idx vv1 (.neg kk1)) kk0)))
noncomputable def wy:PS:=(.seq (.assign 1 (.bi .list (ss1 vv0)))
 (.seq (.whl BC (.seq (.pop 1) .skip))
 (.seq (.ret vv1) .skip)))
noncomputable def lWl:PS:=(.seq (.setidx 4 (.bin .add vv5 vv6) (.bin .sub (.idx vv4 (.bin .add vv5 vv6)) (.bin .mul vv2 (.idx vv1 vv6))))
 .skip)
noncomputable def bWl:PS:=(.seq (.assign 4 (.comp (.bin .mul vv0 vv1) 1 [3] (.seq vv0) .no))
 (.seq (.assign 5 (.bin .sub (.bi .len (ss1 vv0)) (.bi .len (ss1 vv1))))
 (.seq (.forr 6 (.rng (ss1 (.bi .len (ss1 vv1)))) lWl)
 (.seq (.ret vv4) .skip))))
noncomputable def ngQ:PE:=.neg vv1
noncomputable def uy:PE:=(.cmp .ge (.bi .len (ss1 vv2)) (.bi .len (ss1 vv1)))
noncomputable def tw(tr wl re:Nat):PS:=(.seq (.assign 2 (.call tr (ss1 (.call wl (.cons vv2 (ss3 vv1 (.idx vv2 (.neg kk1)) (.idx vv1 (.neg kk1))))))))
 (.seq (.ite vv2 (.seq (.assign 2 (.call re (ss1 vv2)))
 .skip) .skip)
 .skip))
noncomputable def xO(tr wl re:Nat):PS:=(.seq (.assign 2 (.bi .list (ss1 vv0)))
 (.seq (.whl uy (tw tr wl re))
 (.seq (.ret vv2) .skip)))
noncomputable def nQ(ro:Nat):PS:=(.seq (.assign 2 (.call ro (ss2 vv0 vv1)))
 (.seq (.assign 0 vv1)
 (.seq (.assign 1 vv2)
 .skip)))
noncomputable def j4(ro re:Nat):PS:=(.seq (.whl vv1 (nQ ro))
 (.seq (.ret (.call re (ss1 vv0)))
 .skip))
noncomputable def qY:PS:=(.seq (.ret (.comp (.bin .mul vv0 (.idx vv1 vv0)) 1 [0] (.rng (ss2 kk1 (.bi .len (ss1 vv0)))) .no))
 .skip)
noncomputable def B5(wl:Nat):PS:=(.seq (.assign 4 (.bin .fdiv (.idx vv2 (.neg kk1)) (.idx vv1 (.neg kk1))))
 (.seq (.app 3 vv4)
 (.seq (.assign 2 (.call wl (.cons vv2 (ss3 vv1 vv4 kk1))))
 (.seq (.pop 2)
 .skip))))
noncomputable def x7(wl:Nat):PS:=(.seq (.assign 2 (.bi .list (ss1 vv0)))
 (.seq (.assign 3 (.lst .nil))
 (.seq (.whl uy (B5 wl))
 (.seq (.rev 3) (.seq (.ret vv3) .skip)))))
noncomputable def rL(pa:Nat):PS:=(.seq (.ret (.call pa (ss2 (.bin .mul (.idx vv0 kk0) (.idx vv1 kk0)) (.bin .mul (.idx vv0 kk1) (.idx vv1 kk1)))))
 .skip)
noncomputable def ul:PS:=(.seq (.ret (.tup (ss2 (.neg (.idx vv0 kk0)) (.idx vv0 kk1))))
 .skip)
noncomputable def qe(be ps ta:Nat):PE:=(.call be (ss2 vv1 (.call ps (ss2 vv4 (.call ta (ss1 vv3))))))
noncomputable def qs(sg:Nat):PS:=(.seq (.ite (.cmp .eq vv6 (.call sg (ss2 vv2 vv3))) (.seq (.assign 3 vv5)
 .skip) (.seq (.assign 4 vv5)
 .skip))
 .skip)
noncomputable def mO(ps pr ta sg:Nat):PS:=(.seq (.assign 5 (.call pr (ss2 (.call ps (ss2 vv3 vv4)) (.glob (Str.ofString "HALF") 1 2))))
 (.seq (.assign 6 (.call sg (ss2 vv2 vv5)))
 (.seq (.ite (.cmp .eq vv6 kk0) (.seq (.assign 7 (.call pr (ss2 vv1 (.glob (Str.ofString "QUARTER") 1 4))))
 (.seq (.ret (.tup (ss3 vv2 (.call ps (ss2 vv5 (.call ta (ss1 vv7)))) (.call ps (ss2 vv5 vv7)))))
 .skip)) .skip)
 (qs sg))))
noncomputable def oe(kc be ps pr ta sg:Nat):PS:=(.seq (.ite (.cmp .le (.idx vv1 kk0) kk0) (.seq (.raise kc)
 .skip) .skip)
 (.seq (.unpack [2,3,4] vv0)
 (.seq (.whl (qe be ps ta) (mO ps pr ta sg))
 (.seq (.ret (.tup (ss3 vv2 vv3 vv4)))
 .skip))))
noncomputable def CX(ps ta:Nat):PS:=(.seq (.ret (.call ps (ss2 (.idx vv0 kk2) (.call ta (ss1 (.idx vv0 kk1))))))
 .skip)
noncomputable def yy(na pr wo:Nat):PS:=(.seq (.ret (.call na (ss2 vv0 (.call pr (ss2 (.call wo (ss1 vv0)) (.glob (Str.ofString "HALF") 1 2))))))
 .skip)
noncomputable def w7(co sg:Nat):PS:=(.seq (.assign 4 (.call co (ss2 (.idx vv0 kk0) (.idx vv1 kk0))))
 (.seq (.ret (.cmp .lt (.bin .mul (.call sg (ss2 vv4 vv2)) (.call sg (ss2 vv4 vv3))) kk0))
 .skip))
noncomputable def v9(be co sg:Nat):PS:=(.seq (.ite (.nt (.call be (ss2 vv2 vv3))) (.seq (.ret (.cbool false))
 .skip) .skip)
 (w7 co sg))
noncomputable def yr(be co sg:Nat):PS:=(.seq (.assign 3 (.idx vv0 kk2))
 (.seq (.ite (.call be (ss2 (.idx vv1 kk2) vv3)) (.seq (.assign 3 (.idx vv1 kk2))
 .skip) .skip)
 (v9 be co sg)))
noncomputable def wG(be co sg:Nat):PS:=(.seq (.assign 2 (.idx vv0 kk1))
 (.seq (.ite (.call be (ss2 vv2 (.idx vv1 kk1))) (.seq (.assign 2 (.idx vv1 kk1))
 .skip) .skip)
 (yr be co sg)))
noncomputable def Ca(ha:Nat):PS:=(.seq (.assign 0 (.call ha (ss1 vv0)))
 (.seq (.assign 1 (.call ha (ss1 vv1)))
 .skip))
noncomputable def Eb(be ha:Nat):PS:=(.seq (.ite (.nt (.call be (ss2 (.idx vv0 kk1) (.idx vv1 kk2)))) (.seq (.ret kk1)
 .skip) .skip)
 (Ca ha))
noncomputable def BX(be ha:Nat):PS:=(.seq (.ite (.nt (.call be (ss2 (.idx vv1 kk1) (.idx vv0 kk2)))) (.seq (.ret (.neg kk1))
 .skip) .skip)
 (Eb be ha))
noncomputable def wM(sa be ha:Nat):PS:=(.seq (.ite (.call sa (ss2 vv0 vv1)) (.seq (.ret kk0)
 .skip) .skip)
 (.seq (.whl (.cbool true) (BX be ha))
 .skip))
noncomputable def qt(re qu co sp:Nat):PS:=(.seq (.assign 1 (.call re (ss1 vv1)))
 (.seq (.ret (.call re (ss1 (.call qu (ss2 vv1 (.call co (ss2 vv1 (.call sp (ss1 vv1)))))))))
 .skip))
noncomputable def qG(tr re qu co sp:Nat):PS:=(.seq (.assign 1 (.call tr (ss1 vv0)))
 (.seq (.ite (.cmp .lt (.bi .len (ss1 vv1)) kk2) (.seq (.raise 2)
 .skip) .skip)
 (qt re qu co sp)))
noncomputable def wA(pa pr:Nat):PS:=(.seq (.app 3 (.call pr (ss2 vv5 (.call pa (ss2 (.neg kk1) (.idx vv0 vv2))))))
 .skip)
noncomputable def oy(ps pr:Nat):PS:=(.seq (.ite (.cmp .eq vv6 vv4) (.seq (.assign 5 (.call ps (ss2 vv5 (.tup (ss2 (.bin .mul vv4 (.idx vv0 (.bin .sub vv2 vv6))) kk1)))))
 .skip) (.seq (.assign 5 (.call ps (ss2 vv5 (.call pr (ss2 (.tup (ss2 (.idx vv0 (.bin .sub vv2 vv6)) kk1)) (.idx vv3 (.bin .sub vv4 vv6)))))))
 .skip))
 .skip)
noncomputable def oV(pa ps pr:Nat):PS:=(.seq (.assign 5 (.glob (Str.ofString "NOUGHT") 0 1))
 (.seq (.forr 6 (.rng (ss2 kk1 (.bin .add (.bi .min (ss2 vv4 vv2)) kk1))) (oy ps pr))
 (wA pa pr)))
noncomputable def Da(pa ps pr:Nat):PS:=(.seq (.assign 2 (.bin .sub (.bi .len (ss1 vv0)) kk1))
 (.seq (.assign 3 (.lst (ss1 (.call pa (ss2 vv2 kk1)))))
 (.seq (.forr 4 (.rng (ss2 kk1 (.bin .add vv1 kk1))) (oV pa ps pr))
 (.seq (.ret vv3) .skip))))
noncomputable def DE(ta:Nat):PS:=(.seq (.ite (.cmp .eq (.bin .mod vv1 kk2) kk1) (.seq (.ret (.call ta (ss1 vv0)))
 .skip) .skip)
 (.seq (.ret vv0) .skip))
noncomputable def yR(ps pr sg:Nat):PS:=(.seq (.assign 4 (.call ps (ss2 vv4 (.call sg (ss2 (.call pr (ss2 (.idx vv2 (.bin .sub vv3 vv5)) (.idx vv0 vv5))) (.bin .sub vv5 kk1))))))
 .skip)
noncomputable def Ee(pr:Nat):PS:=(.seq (.app 2 (.call pr (ss2 vv4 (.tup (ss2 kk1 vv3)))))
 .skip)
noncomputable def yb(ps pr sg:Nat):PS:=(.seq (.assign 4 (.glob (Str.ofString "NOUGHT") 0 1))
 (.seq (.forr 5 (.rng (ss2 kk1 (.bin .add vv3 kk1))) (yR ps pr sg))
 (Ee pr)))
noncomputable def yI(sg:Nat):PS:=(.seq (.assign 9 (.call sg (ss2 (.idx vv2 vv5) vv5)))
 (.seq (.app 8 (.bin .mul (.idx vv9 kk0) (.bin .fdiv vv6 (.idx vv9 kk1))))
 .skip))
noncomputable def Dh(sg pl:Nat):PS:=(.seq (.assign 8 (.lst .nil))
 (.seq (.forr 5 (.rng (ss3 vv1 (.neg kk1) (.neg kk1))) (yI sg))
 (.seq (.ret (.call pl (ss1 vv8))) .skip)))
noncomputable def vU(dv:Nat):PS:=(.seq (.assign 6 (.bin .fdiv (.bin .mul vv6 (.idx vv7 kk1)) (.call dv (ss2 vv6 (.idx vv7 kk1)))))
 .skip)
noncomputable def D7(dv sg pl:Nat):PS:=(.seq (.assign 6 kk1)
 (.seq (.forr 7 (.seq vv2) (vU dv))
 (Dh sg pl)))
noncomputable def bRo(dv ps pr sg pl:Nat):PS:=(.seq (.assign 1 (.bin .sub (.bi .len (ss1 vv0)) kk1))
 (.seq (.assign 2 (.lst (ss1 (.glob (Str.ofString "ONE") 1 1))))
 (.seq (.forr 3 (.rng (ss2 kk1 (.bin .add vv1 kk1))) (yb ps pr sg))
 (D7 dv sg pl))))
noncomputable def Fz:PE:=(.bin .add (.idx vv1 vv0) (.idx vv1 (.bin .add vv0 kk1)))
noncomputable def yN:PS:=(.seq (.app 5 vv8)
 (.seq (.assign 6 (.bin .add (.bin .add (.lst (ss1 kk1)) (.comp Fz 1 [6] (.rng (ss1 vv7)) .no)) (.lst (ss1 kk1))))
 .skip))
noncomputable def qf(ps pr:Nat):PS:=(.seq (.assign 10 (.call pr (ss2 (.idx vv3 vv9) (.idx vv4 (.bin .sub vv7 vv9)))))
 (.seq (.assign 8 (.call ps (ss2 vv8 (.call pr (ss2 (.tup (ss2 (.idx vv6 vv9) kk1)) C5)))))
 .skip))
noncomputable def pj(ps pr:Nat):PS:=(.seq (.assign 8 (.glob (Str.ofString "NOUGHT") 0 1))
 (.seq (.forr 9 (.rng (ss1 (.bin .add vv7 kk1))) (qf ps pr))
 yN))
noncomputable def yz(pr:Nat):PE:=(.call pr (ss2 (.idx vv1 vv0) (.idx vv2 vv0)))
noncomputable def rR(sg tu:Nat):PS:=(.seq (.ret (.and (ss3 (.cmp .ne (.call sg (ss2 vv0 vv1)) kk0) (.cmp .ne (.call sg (ss2 vv0 vv2)) kk0) (.cmp .eq (.call tu (ss3 vv0 vv1 vv2)) kk1))))
 .skip)
noncomputable def Ch(ia:Nat):PE:=(.nt (.call ia (ss3 vv0 vv4 vv5)))
noncomputable def Dq(ha bd:Nat):PS:=(.seq (.assign 2 (.call ha (ss1 vv2)))
 (.seq (.assign 3 (.call ha (ss1 vv3)))
 (.seq (.unpack [4,5] (.callv 1 bd (ss2 vv2 vv3)))
 .skip)))
noncomputable def En:PS:=(.seq (.ret (.tup (ss3 (.bi .tuple (ss1 vv0)) vv4 vv5)))
 .skip)
noncomputable def Dk(ia ha bd:Nat):PS:=(.seq (.unpack [4,5] (.callv 1 bd (ss2 vv2 vv3)))
 (.seq (.whl (Ch ia) (Dq ha bd))
 En))
noncomputable def xQ(ps:Nat):PS:=(.seq (.ret (.tup (ss2 (.call ps (ss2 (.idx vv0 kk1) (.idx vv1 kk1))) (.call ps (ss2 (.idx vv0 kk2) (.idx vv1 kk2))))))
 .skip)
noncomputable def FL:PS:=(.seq (.ret (.tup (ss2 vv5 vv6)))
 .skip)
noncomputable def AT(be:Nat):PS:=(.seq (.ite (.call be (ss2 vv6 vv7)) (.seq (.assign 6 vv7)
 .skip) .skip)
 .skip)
noncomputable def xZ(be:Nat):PS:=(.seq (.ite (.call be (ss2 vv7 vv5)) (.seq (.assign 5 vv7)
 .skip) .skip)
 (AT be))
noncomputable def EH(be:Nat):PS:=(.seq (.assign 5 (.idx vv2 kk0))
 (.seq (.assign 6 (.idx vv2 kk0))
 (.seq (.forr 7 (.seq vv2) (xZ be))
 FL)))
noncomputable def FO(pr:Nat):PS:=(.seq (.app 2 (.call pr (ss2 vv3 vv4)))
 .skip)
noncomputable def FA(pr:Nat):PS:=(.seq (.forr 4 (.seq (.tup (ss2 (.idx vv1 kk1) (.idx vv1 kk2)))) (FO pr))
 .skip)
noncomputable def bPB(be pr:Nat):PS:=(.seq (.assign 2 (.lst .nil))
 (.seq (.forr 3 (.seq (.tup (ss2 (.idx vv0 kk1) (.idx vv0 kk2)))) (FA pr))
 (EH be)))
noncomputable def D5(pw ps pr st ro bd:Nat):PS:=(.seq (.assign 2 (.bin .mul (.bin .sub (.bi .len (ss1 (.idx vv0 kk0))) kk1) (.bin .sub (.bi .len (ss1 (.idx vv1 kk0))) kk1)))
 (.seq (.assign 3 (.call pw (ss2 (.idx vv0 kk0) vv2)))
 (.seq (.assign 4 (.call pw (ss2 (.idx vv1 kk0) vv2)))
 (.seq (.assign 5 (.lst .nil))
 (.seq (.assign 6 (.lst (ss1 kk1)))
 (.seq (.forr 7 (.rng (ss1 (.bin .add vv2 kk1))) (pj ps pr))
 (.seq (.ret (.call st (.cons (.call ro (ss1 vv5)) (ss3 (.fnv bd) vv0 vv1))))
 .skip)))))))
noncomputable def CS(st ro bd:Nat):PS:=(.seq (.ret (.call st (.cons (.call ro (ss1 vv5)) (ss3 (.fnv bd) vv0 vv1))))
 .skip)
noncomputable def Er(pw pr st ro bd:Nat):PS:=(.seq (.assign 2 (.bin .mul (.bin .sub (.bi .len (ss1 (.idx vv0 kk0))) kk1) (.bin .sub (.bi .len (ss1 (.idx vv1 kk0))) kk1)))
 (.seq (.assign 3 (.call pw (ss2 (.idx vv0 kk0) vv2)))
 (.seq (.assign 4 (.call pw (ss2 (.idx vv1 kk0) vv2)))
 (.seq (.assign 5 (.comp (yz pr) 1 [3,4] (.rng (ss1 (.bin .add vv2 kk1))) .no))
 (CS st ro bd)))))
noncomputable def vK:PS:=(.seq (.setidx 1 vv2 (.neg (.idx vv1 vv2)))
 .skip)
noncomputable def Ck(re ta:Nat):PS:=(.seq (.ret (.tup (ss3 (.bi .tuple (ss1 (.call re (ss1 vv1)))) (.call ta (ss1 (.idx vv0 kk2))) (.call ta (ss1 (.idx vv0 kk1))))))
 .skip)
noncomputable def DO(re ta:Nat):PS:=(.seq (.assign 1 (.comp vv0 1 [] (.seq (.idx vv0 kk0)) .no))
 (.seq (.forr 2 (.rng (ss3 kk1 (.bi .len (ss1 vv1)) kk2)) vK)
 (Ck re ta)))
noncomputable def Fg:PS:=(.seq (.ret (.neg kk1))
 .skip)
noncomputable def zC(sg:Nat):PS:=(.seq (.ite (.cmp .eq (.call sg (ss2 vv1 vv2)) (.call sg (ss2 vv1 (.tup (ss2 kk0 kk1))))) (.seq (.ret kk1)
 .skip) .skip)
 Fg)
noncomputable def Dn(sg:Nat):PS:=(.seq (.ite (.cmp .eq (.idx vv1 kk0) kk0) (.seq (.ret kk0)
 .skip) .skip)
 (zC sg))
noncomputable def C3(sg:Nat):PS:=(.seq (.ite (.cmp .le (.idx vv3 kk0) kk0) (.seq (.ret (.neg kk1))
 .skip) .skip)
 (Dn sg))
noncomputable def bSp(sg:Nat):PS:=(.seq (.unpack [1,2,3] vv0)
 (.seq (.ite (.cmp .ge (.idx vv2 kk0) kk0) (.seq (.ret kk1)
 .skip) .skip)
 (C3 sg)))
noncomputable def s9(re tr pa ti:Nat):PS:=(.seq (.assign 2 (.bi .tuple (.cons (.call re (ss1 (.call tr (ss1 (.bi .listrev (ss1 (.idx vv1 kk0))))))) .nil)))
 (.seq (.assign 3 (.call pa (ss2 (.idx (.idx vv1 kk2) kk1) (.idx (.idx vv1 kk2) kk0))))
 (.seq (.assign 4 (.call pa (ss2 (.idx (.idx vv1 kk1) kk1) (.idx (.idx vv1 kk1) kk0))))
 (.seq (.ret (.call ti (ss2 vv0 (.tup (ss3 vv2 vv3 vv4)))))
 .skip))))
noncomputable def Fs:PE:=(.and (ss2 (.cmp .le (.idx (.idx vv1 kk1) kk0) kk0) (.cmp .ge (.idx (.idx vv1 kk2) kk0) kk0)))
noncomputable def EQ(ha:Nat):PS:=(.seq (.assign 1 (.call ha (ss1 vv1)))
 .skip)
noncomputable def xS(ha re tr pa ti:Nat):PS:=(.seq (.whl Fs (EQ ha))
 (s9 re tr pa ti))
noncomputable def wX(kc sp ha re tr pa ti:Nat):PS:=(.seq (.ite (.cmp .eq (.call sp (ss1 vv1)) kk0) (.seq (.raise kc)
 .skip) .skip)
 (xS ha re tr pa ti))
noncomputable def Es:PS:=(.seq (.ret (.lst (.cons (.tup (ss2 (.idx vv0 kk1) (.idx vv1 kk1))) (ss3 (.tup (ss2 (.idx vv0 kk1) (.idx vv1 kk2))) (.tup (ss2 (.idx vv0 kk2) (.idx vv1 kk1))) (.tup (ss2 (.idx vv0 kk2) (.idx vv1 kk2)))))))
 .skip)
noncomputable def Bk(be:Nat):PS:=(.seq (.ite (.call be (ss2 vv3 vv1)) (.seq (.assign 1 vv3)
 .skip) .skip)
 (.seq (.ite (.call be (ss2 vv2 vv3)) (.seq (.assign 2 vv3)
 .skip) .skip)
 .skip))
noncomputable def yT(be:Nat):PS:=(.seq (.assign 1 (.idx vv0 kk0))
 (.seq (.assign 2 (.idx vv0 kk0))
 (.seq (.forr 3 (.seq vv0) (Bk be))
 (.seq (.ret (.tup (ss2 vv1 vv2)))
 .skip))))
noncomputable def FY(pa:Nat):PE:=(.call pa (ss2 (.bin .mul (.idx vv0 kk0) (.idx vv1 kk0)) (.bin .mul (.idx vv0 kk1) (.idx vv1 kk1))))
noncomputable def Bb(sp co pa:Nat):PS:=(.seq (.ret (.call sp (ss1 (.comp (FY pa) 2 [] (.seq (.call co (ss2 vv1 vv2))) .no))))
 .skip)
noncomputable def yp(pl sp co pa:Nat):PS:=(.seq (.ite (.cmp .eq vv0 kk1) (.seq (.ret (.tup (.cons (.call pl (ss2 (.idx vv1 kk1) (.tup (ss2 (.bin .sub kk0 (.idx (.idx vv2 kk2) kk0)) (.idx (.idx vv2 kk2) kk1))))) (.cons (.call pl (ss2 (.idx vv1 kk2) (.tup (ss2 (.bin .sub kk0 (.idx (.idx vv2 kk1) kk0)) (.idx (.idx vv2 kk1) kk1))))) .nil))))
 .skip) .skip)
 (Bb sp co pa))
noncomputable def vP(pl sp co pa:Nat):PS:=(.seq (.ite (.cmp .eq vv0 kk0) (.seq (.ret (.tup (ss2 (.call pl (ss2 (.idx vv1 kk1) (.idx vv2 kk1))) (.call pl (ss2 (.idx vv1 kk2) (.idx vv2 kk2))))))
 .skip) .skip)
 (yp pl sp co pa))
noncomputable def Fd(va:Nat):PS:=(.seq (.ite (.cmp .ge (.bin .mul (.call va (ss2 (.idx vv0 kk0) (.idx vv2 kk1))) (.call va (ss2 (.idx vv0 kk0) (.idx vv2 kk2)))) kk0) (.seq (.ret .cnone)
 .skip) .skip)
 (.seq (.ret vv2)
 .skip))
noncomputable def EJ(be va:Nat):PS:=(.seq (.ite (.or (ss2 (.call be (ss2 (.idx vv2 kk1) (.idx vv0 kk1))) (.call be (ss2 (.idx vv0 kk2) (.idx vv2 kk2))))) (.seq (.ret .cnone)
 .skip) .skip)
 (Fd va))
noncomputable def Ds(ip be va:Nat):PS:=(.seq (.ite (.or (ss2 (.nt (.call ip (ss1 (.idx vv2 kk1)))) (.nt (.call ip (ss1 (.idx vv2 kk2)))))) (.seq (.ret .cnone)
 .skip) .skip)
 (EJ be va))
noncomputable def bNw(na ip be va:Nat):PS:=(.seq (.assign 2 (.call na (ss2 vv0 vv1)))
 (.seq (.ite (.or (ss3 (.nt (.isi vv2 [.tuple])) (.cmp .ne (.bi .len (ss1 vv2)) kk3) (.cmp .ne (.idx vv2 kk0) (.idx vv0 kk0)))) (.seq (.ret .cnone)
 .skip) .skip)
 (Ds ip be va)))
noncomputable def tMt(be:Nat):PS:=(.seq (.assign 4 (.lst (ss2 (.tup (ss2 (.bin .sub kk0 (.idx (.idx vv3 kk2) kk0)) (.idx (.idx vv3 kk2) kk1))) (.tup (ss2 (.bin .sub kk0 (.idx (.idx vv3 kk1) kk0)) (.idx (.idx vv3 kk1) kk1))))))
 (.seq (.ret (.and (ss2 (.call be (ss2 (.idx vv4 kk0) (.idx vv2 kk2))) (.call be (ss2 (.idx vv2 kk1) (.idx vv4 kk1))))))
 .skip))
noncomputable def bMt(nw be:Nat):PS:=(.seq (.assign 2 (.call nw (ss2 vv1 (.tup (ss2 kk1 qD)))))
 (.seq (.assign 3 (.call nw (ss2 vv0 (.tup (ss2 kk1 qD)))))
 (.seq (.ite (.or (ss2 (.cmp .is vv2 .cnone) (.cmp .is vv3 .cnone))) (.seq (.ret (.cbool false))
 .skip) .skip)
 (tMt be))))
noncomputable def xU(sm:Nat):PS:=(.seq (.ite (.cmp .eq (.idx vv1 (.neg kk1)) kk0) (.seq (.setidx 1 (.neg kk1) kk1)
 .skip) .skip)
 (.seq (.ret (.call sm (ss1 vv1)))
 .skip))
noncomputable def qB(sm:Nat):PS:=(.seq (.assign 1 (.comp (.bin .sub (.bin .mod vv0 Gf) kk6) 1 [] (.seq vv0) .no))
 (.seq (.ite (.cmp .lt (.bi .len (ss1 vv1)) kk2) (.seq (.ret (.lst (ss3 (.neg kk2) kk0 kk1)))
 .skip) .skip)
 (xU sm)))
noncomputable def vZ(tu:Nat):PS:=(.seq (.ite (.and (ss2 (.cmp .lt (.bin .mul (.idx vv3 vv5) (.idx vv3 (.bin .add vv5 kk1))) kk0) (.cmp .eq (.call tu (ss3 vv2 (.tup (ss2 (.bin .sub vv5 kk9) kk1)) (.tup (ss2 (.bin .sub vv5 kk8) kk1)))) kk1))) (.seq (.app 4 (.tup (ss3 (.bi .tuple (ss1 vv2)) (.tup (ss2 (.bin .sub vv5 kk9) kk1)) (.tup (ss2 (.bin .sub vv5 kk8) kk1)))))
 .skip) .skip)
 .skip)
noncomputable def wI:PS:=(.seq (.ite (.cmp .eq vv4 (.lst .nil)) (.seq (.ret (.tup (ss3 (.tup (ss3 (.neg kk2) kk0 kk1)) (.tup (ss2 kk1 kk1)) (.tup (ss2 kk2 kk1)))))
 .skip) .skip)
 (.seq (.ret (.idx vv4 (.bin .mod vv1 (.bi .len (ss1 vv4)))))
 .skip))
noncomputable def rG(rb va tu:Nat):PS:=(.seq (.assign 2 (.call rb (ss1 vv0)))
 (.seq (.assign 3 (.comp (.call va (ss2 vv1 (.tup (ss2 vv0 kk1)))) 1 [2] (.rng (ss2 (.neg kk9) DZ)) .no))
 (.seq (.assign 4 (.lst .nil))
 (.seq (.forr 5 (.rng (ss1 GG)) (vZ tu))
 wI))))
structure TT (P:List Fn):Prop where
 a0:P[0]?=some ⟨2,3,lq⟩
 a1:P[1]?=some ⟨2,3,gW 0⟩
 a2:P[2]?=some ⟨2,2,eT⟩
 a3:P[3]?=some ⟨2,2,jO 1⟩
 a4:P[4]?=some ⟨2,2,rL 1⟩
 a5:P[5]?=some ⟨1,1,ul⟩
 a6:P[6]?=some ⟨2,5,v8⟩
 a7:P[7]?=some ⟨1,2,wy⟩
 a8:P[8]?=some ⟨1,3,vo 0 ngQ⟩
 a9:P[9]?=some ⟨1,1,qY⟩
 a10:P[10]?=some ⟨4,7,bWl⟩
 a11:P[11]?=some ⟨2,3,xO 7 10 8⟩
 a12:P[12]?=some ⟨2,3,j4 11 8⟩
 a13:P[13]?=some ⟨2,5,x7 10⟩
 a14:P[14]?=some ⟨1,2,qG 7 8 13 12 9⟩
 a15:P[15]?=some ⟨3,5,CI⟩
 a16:P[16]?=some ⟨3,9,wZ 15⟩
 a17:P[17]?=some ⟨3,6,qJ 16⟩
 a18:P[18]?=some ⟨3,3,rR 6 17⟩
 a19:P[19]?=some ⟨1,1,CX 3 5⟩
 a20:P[20]?=some ⟨2,8,oe 3 2 3 4 5 6⟩
 a21:P[21]?=some ⟨1,1,yy 20 4 19⟩
 a22:P[22]?=some ⟨2,5,wG 2 12 6⟩
 a23:P[23]?=some ⟨2,2,wM 22 2 21⟩
 a24:P[24]?=some ⟨1,4,bSp 6⟩
 a25:P[25]?=some ⟨2,7,Da 1 3 4⟩
 a26:P[26]?=some ⟨2,2,DE 5⟩
 a27:P[27]?=some ⟨1,10,bRo 0 3 4 26 14⟩
 a28:P[28]?=some ⟨4,6,Dk 18 21 29⟩
 a29:P[29]?=some ⟨2,2,xQ 3⟩
 a30:P[30]?=some ⟨2,8,bPB 2 4⟩
 a31:P[31]?=some ⟨2,11,D5 25 3 4 28 27 29⟩
 a32:P[32]?=some ⟨2,6,Er 25 4 28 27 30⟩
 a33:P[33]?=some ⟨1,3,DO 8 5⟩
 a35:P[35]?=some ⟨2,5,wX 4 24 21 8 7 1 32⟩
 a36:P[36]?=some ⟨1,1,xf⟩
 a37:P[37]?=some ⟨2,2,ym⟩
 a38:P[38]?=some ⟨2,3,Cu⟩
 a39:P[39]?=some ⟨2,3,vE 38⟩
 a40:P[40]?=some ⟨1,3,vo 38 ngL⟩
 a41:P[41]?=some ⟨2,5,CY⟩
 a42:P[42]?=some ⟨2,5,bBy⟩
 a43:P[43]?=some ⟨3,7,qC 42⟩
 a44:P[44]?=some ⟨3,6,mX 43⟩
 a45:P[45]?=some ⟨1,1,nP 36 39⟩
 a46:P[46]?=some ⟨1,4,rA 36 40 45 41 44⟩
 a47:P[47]?=some ⟨1,2,qB 40⟩
 a48:P[48]?=some ⟨2,6,rG 47 41 44⟩
 a49:P[49]?=some ⟨2,2,eT⟩
 a50:P[50]?=some ⟨2,3,bNw 20 45 49 41⟩
 a51:P[51]?=some ⟨1,4,yT 49⟩
 a52:P[52]?=some ⟨3,3,vP 53 51 54 39⟩
 a53:P[53]?=some ⟨2,2,jO 39⟩
 a54:P[54]?=some ⟨2,2,Es⟩
 a56:P[56]?=some ⟨2,5,bMt 50 49⟩
noncomputable def jD(ns:List Int)(k:Nat):Int:=ns.getD k 0
section
variable {sub:Nat->Nat->Bool}{P:List Fn}{f n:Nat}{H:Hp}{Q:V->Hp->Prop}{X:Nat->Hp->Prop}
theorem ao{d:Fn}{vs:List V}(e:P[f]?=some d)(hl:vs.length=d.np)(h:wpS sub (ag sub P n) (fun m=>H.length<=m) d.body (eG d.np d.nv vs) H (fun _ H'=>Q .none H') Q X):ag sub P (n+1) f vs H Q X:=⟨d,e,hl,h⟩
theorem hX(zT:TT P){m:Nat}{ns:List Int}{k:Int}(hk:0<=k)(hH:H[m]?=some (ns.map .int))(hQ:Q (.int (jD ns k.toNat)) H):ag sub P (n+1) 37 [.lst m,.int k] H Q X:=by
 refine ao zT.a37 rfl ?_
 dsimp only[ym,qS1,qS2,qS9,bw,qE1,qE5,bx,b6,aU,aA,az,fh,cJ,cu,aN,aD,aB,ay,ax,aC,aq,aa,af,Nat.reduceSub]
 refine ifSome.mk hH ?_
 rw[GO]
 by_cases h:k<ns.length
 ·rw[if_pos (decide_eq_true h)]
  have hl:k.toNat<ns.length:=(Int.toNat_lt hk).mpr h
  refine ifSome.mk hH (ifSome.mk (v:=k.toNat) ?_ (ifSome.mk (v:=.int ns[k.toNat]) ?_ ?_))
  ·rw[GO,cD,if_pos hk,if_pos h]
  ·rw[Hj,G2 hl];rfl
  ·rw[jD,G7,G2 hl] at hQ;exact hQ
 ·rw[if_neg (by rw[It];exact h)]
  rw[jD,G7,List.getElem?_eq_none ((Int.le_toNat hk).mpr (Iv.mp h))] at hQ
  exact hQ
noncomputable def BI(ρ:Loc)(i:Nat):Nat:=match af ρ i with|some (.int y)=>y.natAbs|_=>0
theorem vI(zT:TT P){a b:Int}(hQ:Q (.int (a.gcd b:Nat)) H):ag sub P (n+1) 38 [.int a,.int b] H Q X:=by
 refine ao zT.a38 rfl ?_
 dsimp only[Cu,qS1,qS2,qS9,jW,qE1,qE5,bx,b6,aA,az,aD,aB,ay,ax,aO,aC,aq,Nat.reduceSub]
 refine ⟨fun ρ H'=>∃x y o,ρ=[some (.int x),some (.int y),o]/\H'=H/\x.gcd y=a.gcd b,fun ρ _=>BI ρ 1,⟨a,b,_,rfl,rfl,rfl⟩,?_⟩
 intro ρ H' zr5;refine dL (zr5) fun x y o zq7 zq8 hg=>?_;subst zq7;subst zq8
 dsimp only[EO,qS1,qS2,qS3,qE5,qE8,ub,jR,Bj,aN,aa,af,aH]
 by_cases hy:y=0
 ·subst hy
  have:(if x<0 then -x else x)=((a.gcd b:Nat):Int):=by
   rw[<- hg,Int.gcd_zero_right]
   split <;> omega
  show Q (.int (if x<0 then -x else x)) _
  rw[this];exact hQ
 ·rw[decide_eq_false hy]
  exact ⟨hy,⟨y,x.fmod y,_,rfl,rfl,by rw[yB];exact hg⟩,f8 hy⟩
theorem oj(zT:TT P){x:Int}(hQ:Q (.bool true) H):ag sub P (n+1) 36 [.int x] H Q X:=
 ao zT.a36 rfl hQ
theorem yo(zT:TT P){a b:Int}(hb:0<b)
  (hQ:∀p q:Int,p*(a.gcd b:Nat)=a->q*(a.gcd b:Nat)=b->Q (.tup [.int p,.int q]) H):ag sub P (n+2) 39 [.int a,.int b] H Q X:=by
 refine ao zT.a39 rfl ?_
 dsimp only[vE,qS1,qS2,qS3,qS9,bw,qE1,qE5,qE8,bx,aM,dN,aA,az,fh,aN,aD,aB,ay,ax,aO,aC,aq,aa,af,aH,Nat.reduceSub]
 refine vI zT ?_
 have hnb:¬ b<0:=Iv.mpr (Hn hb)
 rw[decide_eq_false hnb]
 have h0:0<a.gcd b:=Jg a (GY hb)
 have hd1:((a.gcd b:Nat):Int) ∣ a:=Int.gcd_dvd_left a b
 have hd2:((a.gcd b:Nat):Int) ∣ b:=Int.gcd_dvd_right a b
 have hok:pY ((a.gcd b:Nat):Int):=Int.natCast_ne_zero.mpr (Nat.ne_of_gt h0)
 exact ⟨hok,hok,hQ _ _ (Ir hd1) (Ir hd2)⟩
end
end Mine
namespace Mine
open PySem
theorem gV{x:V}{k:Int}{H:Hp}{Q:V->Hp->Prop}:dX x (.int k) H Q=ifSome (items H x) fun xs=>ifSome (cD xs.length k) fun i=>ifSome xs[i]? fun v=>Q v H:=rfl
theorem rY{x:V}{H:Hp}{Q:V->Hp->Prop}:ld .len [x] H Q=ifSome (items H x) fun xs=>Q (.int xs.length) H:=rfl
theorem aG{n k:Nat}(h:k<n):cD n (k:Int)=some k:=by
 rw[cD,if_pos (HW k),if_pos (Int.ofNat_lt.mpr h)];rfl
theorem cq{n:Nat}(h:1<=n):cD n (-1)=some (n-1):=by
 rw[cD,if_neg (by decide),if_pos (by exact oqz [n] [] [(.le 1 Y0)] (.il 0 (.a (.g 1) (.c Y0))) [11] rfl h)];congr 1;exact oqz [(-1+(↑n:Int)).toNat,n,n-1] [] [(otn (.a (.g 1) (.c Y1)) Y0),(osb Y1 1 Y2)] (.eq Y0 Y2) [1001001,100001,1000011,100101,10101,101] rfl (aQ (-1+(↑n:Int))) (am (n) (1))
theorem gq{β:Type}(H:List β)(x y z:β)(K:List β):(H++x::y::K).set (H.length+1) z=H++x::z::K:=by
 rw[JO _ _ (by exact lin [H.length] [] Y0 (.a Y0 (.n 1)) rfl )];simp
theorem b7{H H':Hp}{v:V}{xs:List V}(h:H<+:H')(e:items H v=some xs):items H' v=some xs:=by
 cases v <;> first|exact e|exact av h e
theorem cn{k:Nat}{β:Type}{x:β}{r:List β}:List.range' k (x::r).length=k::List.range' (k+1) r.length:=JT ..
theorem ej{g:V->V}{step:V->Hp->(Option V->Hp->Prop)->Prop}{H:Hp}:∀ {xs:List V}{Q:List V->Hp->Prop},(∀x∈xs,∀k:Option V->Hp->Prop,k (some (g x)) H->step x H k)->Q (xs.map g) H->cZ step xs H Q
 | [],_,_,h=>h
 |x::xs,Q,hs,h=>hs x GW _ (ej (g:=g) (fun y hy=>hs y (G3 _ hy)) h)
theorem e7{β:Type}{h g:β->V}{step:V->Hp->(Option V->Hp->Prop)->Prop}{H:Hp}:∀ {xs:List β}{Q:List V->Hp->Prop},(∀x∈xs,∀k:Option V->Hp->Prop,k (some (g x)) H->step (h x) H k)->Q (xs.map g) H->cZ step (xs.map h) H Q
 | [],_,_,hq=>hq
 |x::xs,Q,hs,hq=>hs x GW _ (e7 (g:=g) (fun y hy=>hs y (G3 _ hy)) hq)
theorem eP{g:Nat->V}{step:V->Hp->(Option V->Hp->Prop)->Prop}{H:Hp}:∀ {n a:Nat}{Q:List V->Hp->Prop},(∀i,i<a+n->∀k:Option V->Hp->Prop,k (some (g i)) H->step (.int (i:Int)) H k)->Q ((List.range' a n).map g) H->cZ step ((List.range' a n).map fun (i:Nat)=>V.int (i:Int)) H Q
 |0,_,_,_,h=>h
 |n+1,a,Q,hs,h=>hs a (by exact lin [a,n] [] (.a Y0 (.n 1)) (.a Y0 (.a Y1 (.n 1))) rfl ) _ (eP (g:=g) (fun i hi=>hs i (by exact lin [i,a,n] [(1,(.a Y0 (.n 1)),(.a (.a Y1 (.n 1)) Y2))] (.a Y0 (.n 1)) (.a Y1 (.a Y2 (.n 1))) rfl hi)) h)
theorem mF{xs ys:List Int}{f:Int->Int->Int}(h:xs.length=ys.length):((List.range' 0 xs.length).map fun i=>V.int (f (xs.getD i 0) (ys.getD i 0)))=(List.zipWith f xs ys).map V.int:=by
 apply List.ext_getElem
 ·simp[h]
 ·intro i h1 h2
  simp at h1 h2
  have h3:i<ys.length:=by exact lin [xs.length,ys.length,i,(List.map (fun i=>V.int (f (xs.getD i 0) (ys.getD i 0))) (List.range' 0 xs.length)).length,(List.map V.int (List.zipWith f xs ys)).length] [(1,Y0,Y1),(1,(.a Y2 (.n 1)),Y0)] (.a Y2 (.n 1)) Y1 rfl (HZ h) h1
  simp[h1,h3]
noncomputable def AllSm(k:Nat)(xs:List Int):Prop:=∀x∈xs,Sm k x
theorem AllSm.mono{k l:Nat}{xs:List Int}(h:AllSm k xs)(hl:k<=l):AllSm l xs:=fun x hx=>(h x hx).mono hl
theorem AllSm.cons{k:Nat}{x:Int}{xs:List Int}(h:Sm k x)(h':AllSm k xs):AllSm k (x::xs):=fun y hy=>by
 cases hy with
 |head=>exact h
 |tail _ hy=>exact h' y hy
theorem AllSm.hd{k:Nat}{x:Int}{xs:List Int}(h:AllSm k (x::xs)):Sm k x:=h x GW
theorem AllSm.tl{k:Nat}{x:Int}{xs:List Int}(h:AllSm k (x::xs)):AllSm k xs:=fun y hy=>h y (G3 _ hy)
theorem AllSm.nil{k:Nat}:AllSm k []:=fun _ h=>nomatch h
theorem AllSm.mulG{k l:Nat}{a b:Int}(ha:Sm l a)(hb:Sm l b):∀ {xs:List Int}{c:Int},AllSm k xs->Sm (k+l) c->AllSm (k+l+1) (Mine.mulG a b c xs)
 | [],c,_,hc=>.cons (hc.mono (Ij _)) .nil
 |x::r,c,h,hc=>.cons (hc.add (h.hd.mul ha)) (AllSm.mulG ha hb h.tl (h.hd.mul hb))
theorem Sm.zero{k:Nat}:Sm k 0:=I9 k
theorem AllSm.mulG0{k l:Nat}{a b:Int}(ha:Sm l a)(hb:Sm l b){xs:List Int}(h:AllSm k xs):AllSm (k+l+1) (Mine.mulG a b 0 xs):=h.mulG ha hb .zero
theorem AllSm.mulN{k l:Nat}{a b:Int}(ha:Sm l a)(hb:Sm l b){xs:List Int}(h:AllSm k xs):∀ {n:Nat},AllSm (k+n*(l+1)) (Mine.mulN a b n xs)
 |0=>h.mono (Io _ _)
 |n+1=>((AllSm.mulN ha hb h (n:=n)).mulG0 ha hb).mono (by rw[IX];exact lin [k,n*(l+1),l] [] (.a (.a (.a Y0 Y1) Y2) (.n 1)) (.a Y0 (.a Y1 (.a Y2 (.n 1)))) rfl )
theorem AllSm.addL{k:Nat}:∀ {xs ys:List Int},AllSm k xs->AllSm k ys->AllSm (k+1) (Mine.addL xs ys)
 | [],_,_,_=>fun _ h=>nomatch h
 |_::_,[],_,_=>fun _ h=>nomatch h
 |_::_,_::_,h1,h2=>.cons (h1.hd.add h2.hd) (AllSm.addL h1.tl h2.tl)
theorem AllSm.smul{k l:Nat}{c:Int}{xs:List Int}(hc:Sm l c)(h:AllSm k xs):AllSm (l+k) (Mine.smul c xs):=fun x hx=>by
 refine ae (Hq.mp hx) fun y hy zq107=>?_;subst zq107
 exact hc.mul (h y hy)
theorem Sm.one{k:Nat}:Sm (k+1) 1:=JF (show (1:Int).natAbs<2^1 by decide) (HL (by decide) (Jn 1 k))
theorem AllSm.pow1{l:Nat}{s:Int}(hs:Sm l s){n:Nat}:AllSm (1+n*(l+1)) (Mine.mulN s s n [1]):=AllSm.mulN hs hs (.cons Sm.one .nil)
theorem AllSm.hs{k l:Nat}{b e s:Int}(hb:Sm l b)(he:Sm l e)(hs:Sm l s):∀ {r:List Int},AllSm k r->AllSm (k+2+r.length*(l+2)) (Mine.hs b e s r)
 | [],_=>.nil
 |c::r,h=>by
  have h1:=(AllSm.hs hb he hs h.tl).mulG0 hb he
  have h2:=AllSm.smul h.hd (AllSm.pow1 hs (n:=r.length))
  have hm:r.length*(l+1)<=r.length*(l+2):=Hu _ (Ij _)
  refine AllSm.mono (AllSm.addL h1 (h2.mono ?_)) ?_
  ·exact lin [r.length*(l+1),r.length*(l+2),k,l] [(1,Y0,Y1)] (.a Y2 (.a (.n 1) Y0)) (.a (.a (.a (.a Y2 (.n 2)) Y1) Y3) (.n 1)) rfl hm
  ·rw[List.length_cons,IX];(exact lin [k,r.length*(l+2),l] [] (.a (.a (.a (.a (.a Y0 (.n 2)) Y1) Y2) (.n 1)) (.n 1)) (.a (.a Y0 (.n 2)) (.a Y1 (.a Y2 (.n 2)))) rfl )
section
variable {sub:Nat->Nat->Bool}{P:List Fn}{n:Nat}{H:Hp}{Q:V->Hp->Prop}{X:Nat->Hp->Prop}
inductive MuI (H:Hp) (v:V) (row:List Int) (a b:Int) (rest:List V) (ρ:Loc) (H':Hp):Prop
 |mk (dn:List Int) (td:List Int) (pre:List Int) (c:Int) (o:Option V) (c0:row=dn++td) (c1:rest=(List.range' dn.length td.length).map (fun (i:Nat)=>V.int (i:Int))) (c2:ρ=[some v,some (.int a),some (.int b),some (.lst (H.length+1)),o]) (c3:H'=H++[V.int 0]::((pre:List Int).map V.int++V.int c::List.replicate td.length (V.int 0))::[]) (c4:pre.length=dn.length) (c5:pre++mulG a b c td=mulG a b 0 row)
theorem Bc(zT:TT P){v:V}{row:List Int}{a b:Int}(hv:items H v=some (row.map .int))(hl:row.length<=1000)(hb:∀x∈row,IntMulOk x a/\IntMulOk x b)
  (hQ:∀H' k,H<+:H'->H'[k]?=some ((mulG a b 0 row).map .int)->Q (.lst k) H'):ag sub P (n+1) 15 [v,.int a,.int b] H Q X:=by
 refine ao zT.a15 rfl ?_
 dsimp only[CI,qS1,qS2,qS3,qS9,dp,qE1,qE5,qE8,b6,fY,aA,az,qI3,aD,aB,ay,ax,aO,aC,aq,aa,af,aH,Nat.reduceSub]
 refine ifSome.mk (b7 (aj _ _) hv) ?_
 rw[GO]
 refine ⟨.int 0,ai _ _ _,by exact oqz [row.length] [] [] (.il 0 (.a (.c Y0) 1)) [1] rfl,by unfold lim;exact oqz [row.length] [] [(.le Y0 1000)] (.il (.a (.c Y0) 1) (.c 1000000)) [11] rfl hl,?_⟩
 refine ifSome.mk (b7 (ah (aj _ _) (aj _ _)) hv) ?_
 refine iC (aK (by rw[GO];exact oqz [row.length] [] [] (.il (.g 1000000) (.c Y0)) [1] rfl) (by rw[GO];exact oqz [row.length] [] [(.le Y0 1000)] (.il (.c Y0) 1000000) [11] rfl hl)) ?_
 have eH:H++[[V.int 0]]++[List.replicate ((row.length:Int)+1).toNat (V.int 0)]=H++[V.int 0]::(List.replicate (row.length+1) (V.int 0))::[]:=by
  rw[G0,show ((row.length:Int)+1).toNat=row.length+1 by exact oqz [((↑row.length:Int)+1).toNat,row.length] [] [(otn (.a (.c Y1) 1) Y0)] (.eq Y0 (Y1+1)) [1001,10,101] rfl (aQ ((↑row.length:Int)+1))];rfl
 have eL:(H++[[V.int 0]]).length=H.length+1:=by simp
 rw[eH,eL,GO,Iz]
 refine bo (MuI H v row a b) ?_ ?_ _ _ _ ⟨[],row,[],0,_,rfl,rfl,rfl,rfl,rfl,rfl⟩
 ·rintro x xs ρ H' k zI hk;obtain ⟨dn,td,pre,c,o,hr,hx,rfl,rfl,hp,hm⟩:=zI
  cases td with
  |nil=>cases hx
  |cons y td =>
   rw[cn] at hx
   cases hx
   have hv':∀l:List V,items (H++[V.int 0]::l::[]) v=some (row.map .int):=fun l=>b7 (aj _ _) hv
   have hy:(row.map V.int)[dn.length]?=some (.int y):=by rw[hr,G9,G1];have:=ai (dn.map V.int) (V.int y) (td.map V.int);rwa [GO] at this
   have hdl:dn.length<(row.map V.int).length:=by rw[hr];simp
   have hmy:=hb y (by rw[hr];simp)
   have hpl:(pre.map V.int).length=dn.length:=by rw[GO,hp]
   dsimp only[Fc,qS1,qS2,qS5,qE1,qE5,qE8,aU,cO,dc,aa,bO,fu,af,aH,gV,List.length_cons,List.replicate_succ]
   refine ix3 (v:=.int c) (dj _ _ _ _) (aG (k:=dn.length) (by simp;exact lin [pre.length,dn.length,td.length] [(1,Y1,Y0)] (.a Y1 (.n 1)) (.a Y0 (.a (.a Y2 (.n 1)) (.n 1))) rfl (HZ (hp).symm))) (by rw[<- hpl];exact ai _ _ _) ?_
   refine ix3 (hv' _) (aG (k:=dn.length) hdl) hy ⟨hmy.1,?_⟩
   refine ⟨⟨Ij _,Ii _⟩,?_⟩
   refine ix2 (dj _ _ _ _) (aG (k:=dn.length) (by simp;exact lin [pre.length,dn.length,td.length] [(1,Y1,Y0)] (.a Y1 (.n 1)) (.a Y0 (.a (.a Y2 (.n 1)) (.n 1))) rfl (HZ (hp).symm))) ?_
   rw[gq,<- hpl,cy]
   refine ix3 (v:=.int 0) (dj _ _ _ _) (aG (k:=(pre.map V.int).length+1) (by simp)) (dj _ _ _ _) ?_
   refine ix3 (v:=.int y) (hv' _) (aG (k:=(pre.map V.int).length) (by rw[hpl];exact hdl)) (by rw[hpl];exact hy) ⟨hmy.2,?_⟩
   refine ⟨⟨Ij _,Ii _⟩,?_⟩
   refine ix2 (dj _ _ _ _) (aG (k:=(pre.map V.int).length+1) (by simp)) ?_
   rw[gq,gq]
   refine hk _ _ ⟨dn++[y],td,pre++[c+y*a],0+y*b,_,by rw[hr];simp,by rw[GR];rfl,rfl,by rw[G9,G0];rfl,by rw[GR,GR,hp];rfl,?_⟩
   rw[HG,G0];exact hm
 ·rintro ρ H' ⟨dn,td,pre,c,o,hr,hx,rfl,rfl,hp,hm⟩
  cases td with
  |cons y td=>rw[cn] at hx;cases hx
  |nil =>
   refine hQ _ _ (aj _ _) ?_
   rw[dj,<- hm]
   show some (pre.map V.int++[V.int c])=some ((pre++[c]).map V.int);rw[G9];rfl
end
end Mine
namespace Mine
open PySem
theorem rh{n:Nat}(h:1<=n):dH n (-1)=n-1:=by
 obtain ⟨m,rfl⟩:=Ik h
 unfold dH
 rw[if_pos (by decide),show (-1:Int)+((1+m:Nat):Int)=(m:Int) by exact oqz [m] [] [] (.ie (.a (.g 1) (.c (1+Y0))) (.c Y0)) [1] rfl,Int.min_eq_left (by exact oqz [m] [] [] (.il (.c Y0) (.c (1+Y0))) [1] rfl),Int.max_eq_right (HW m),Iz,Ib]
theorem EB{m:Nat}{H:Hp}{Q:V->Hp->Prop}{b:Int}{xs:List V}(h:H[m]?=some xs)(hq:Q (.lst H.length) (H++[cut xs 0 (dH xs.length b)])):mL (.lst m) none (some (.int b)) H Q:=ifSome.mk h hq
theorem vg{m:Nat}{xs:List V}{H:Hp}{Q:V->Hp->Prop}(h:items H (.lst m)=some xs)(h1:xs≠[])(hq:∀v' H',H<+:H'->items H' v'=some xs.dropLast->Q v' H'):mL (.lst m) none (some (.int (-1))) H Q:=by
 refine EB h (hq _ _ (aj _ _) ?_)
 rw[show ∀ (H:Hp) (n:Nat),items H (.lst n)=H[n]? from fun _ _=>rfl,ai,cut,List.drop_zero,List.dropLast_eq_take,rh (HA.mpr h1)]
section
variable {sub:Nat->Nat->Bool}{P:List Fn}{f n:Nat}{H:Hp}{Q:V->Hp->Prop}{X:Nat->Hp->Prop}
theorem FH{ρ:Loc}{c:Int}{i j:Nat}{Φ:Call}{xs ys:List Int}(h6:af ρ 6=some (.lst i))(h8:af ρ 8=some (.int c))(h7:af ρ 7=some (.lst j))(hi:H[i]?=some (xs.map .int))(hj:H[j]?=some (ys.map .int))
  (hl:xs.length=ys.length) (hn:xs.length<=1000) (hm:∀y∈ys,IntMulOk c y) (hQ:Q (.lst H.length) (H++[(addL xs (smul c ys)).map .int])) :
  wpE sub Φ w9 ρ H Q:=by
 dsimp only[w9,qE5,b6,f9,qI3,aA,az]
 refine ifSome.mk h6 ?_
 dsimp only[cJ]
 refine ifSome.mk hi ?_
 rw[GO]
 refine iC (aK (by exact oqz [xs.length] [] [] (.il (.g 1000000) (.c Y0)) [1] rfl) (by exact oqz [xs.length] [] [(.le Y0 1000)] (.il (.c Y0) 1000000) [11] rfl hn)) ⟨by rw[GO,H9];unfold lim;exact lin [xs.length,ys.length] [(1,Y0,(.n 1000))] Y0 (.n 1000000) rfl hn,?_⟩
 rw[Iz]
 refine eP (g:=fun i=>V.int (xs.getD i 0+c*ys.getD i 0)) ?_ ?_
 ·intro t ht k hk
  rw[Ie] at ht
  have ht':t<ys.length:=hl ▸ ht
  dsimp only[B3,cg,qO1,aa,List.cons_append,List.nil_append]
  have em:List.map (af ρ) [6,8,7]=[some (.lst i),some (.int c),some (.lst j)]:=by
   show [af ρ 6,af ρ 8,af ρ 7]=_
   rw[h6,h8,h7]
  rw[em,if_pos rfl]
  dsimp only[qE5,qE8,aU,af,aa,cu]
  refine ix3 (v:=.int (xs.getD t 0)) hi (aG (k:=t) (by rw[GO];exact ht)) ?_ ?_
  ·rw[Hj,G2 ht,G7,G2 ht];rfl
  refine ix3 (v:=.int (ys.getD t 0)) hj (aG (k:=t) (by rw[GO];exact ht')) ?_ ⟨?_,hk⟩
  ·rw[Hj,G2 ht',G7,G2 ht'];rfl
  ·rw[G7,G2 ht'];exact hm _ (List.getElem_mem _)
 ·rw[mF (f:=fun x y=>x+c*y) hl]
  have:List.zipWith (fun x y=>x+c*y) xs ys=addL xs (smul c ys):=by
   rw[addL,smul,List.zipWith_map_right]
  rw[this];exact hQ
inductive SeI (H:Hp) (m0:Nat) (p1 q1 p2 q2 b e' s:Int) (row:List Int) (rest:List V) (ρ:Loc) (H':Hp):Prop
 |mk (pre:List Int) (suf:List Int) (kf:Nat) (kp:Nat) (o:Option V) (c0:row=pre++suf) (c1:suf≠[]) (c2:rest=((pre:List Int).map V.int).reverse) (c3:ρ=[some (.lst m0),some (.tup [.int p1,.int q1]),some (.tup [.int p2,.int q2]),some (.int b),some (.int e'),some (.int s),some (.lst kf),some (.lst kp),o]) (c4:H<+:H') (c5:H'[kf]?=some ((Mine.hs b e' s suf).map .int)) (c6:H'[kp]?=some ((mulN s s (suf.length-1) [1]).map .int))
theorem Cw(zT:TT P){m0:Nat}{row:List Int}{p1 q1 p2 q2:Int}{K L:Nat}(hv:items H (.lst m0)=some (row.map .int))(h0:row≠[])(hl:row.length<=900)
  (hr:AllSm K row) (hb:Sm L (p1*q2)) (he:Sm L (p2*q1)) (hs:Sm L (q1*q2)) (m1:IntMulOk p1 q2) (m2:IntMulOk p2 q1) (m3:IntMulOk q1 q2) (hB:K+L+2+row.length*(L+2)<=60000000)
  (hQ:∀H' k,H<+:H'->H'[k]?=some ((Mine.hs (p1*q2) (p2*q1) (q1*q2) row).map .int)->Q (.lst k) H'):ag sub P (n+2) 16 [.lst m0,.tup [.int p1,.int q1],.tup [.int p2,.int q2]] H Q X:=by
 refine ao zT.a16 rfl ?_
 generalize eb:p1*q2=b at *
 generalize ee:p2*q1=e' at *
 generalize es:q1*q2=s at *
 obtain ⟨r0,c,hrow⟩:∃r0 c,row=r0++[c]:=⟨row.dropLast,row.getLast h0,(List.dropLast_concat_getLast h0).symm⟩
 dsimp only[wZ,qS1,qS2,qS3,qS9,dp,qE1,qE5,qE8,qE9,aU,xW,fY,aA,az,qO1,qO2,qI2,my,aD,aB,ay,ax,aO,aC,aq,fq,aa,af,aH,Nat.reduceSub,Nat.reduceAdd,List.length_nil,gV]
 refine ⟨m1,m2,m3,?_⟩
 rw[eb,ee,es]
 refine ix3 (v:=.int c) hv (cq (by rw[GO];exact HA.mpr h0)) ?_ ?_
 ·rw[hrow,G9,GR,GO];simp
 refine vg (b7 (ah (aj _ _) (aj _ _)) hv) (by rw[hrow];simp) fun v' H1 hp hv1=>?_
 refine ifSome.mk hv1 ?_
 have hp0:H<+:H1:=ah (ah (aj _ _) (aj _ _)) hp
 refine bo (SeI H m0 p1 q1 p2 q2 b e' s row) ?_ ?_ _ _ _ ⟨r0,[c],H.length,H.length+1,none,hrow,Iw _ _,?_,?_,hp0,?_,?_⟩
 ·rintro x xs ρ H' k zI hk;obtain ⟨pre,suf,kf,kp,o,hr1,hr2,hx,rfl,hpre,hf,hpw⟩:=zI
  rcases Jp pre with rfl | ⟨pre',d,rfl⟩
  ·cases hx
  rw[Jq] at hr1 hx
  rw[G9,JY] at hx
  cases hx
  have hsl:suf.length<=row.length:=by rw[hr1,GR];exact Jn _ _
  have hdm:Sm K d:=hr d (by rw[hr1];simp)
  have hsf:AllSm K suf:=fun y hy=>hr y (by rw[hr1];simp[hy])
  have hs1:1<=suf.length:=HA.mpr hr2
  have bp:=AllSm.pow1 hs (n:=suf.length-1)
  have bf:=AllSm.hs hb he hs hsf
  have mm:suf.length*(L+2)<=row.length*(L+2):=HM _ hsl
  have mm1:(suf.length-1)*(L+1)+(L+1)<=suf.length*(L+2):=by
   have e1:(suf.length-1)*(L+1)+(L+1)=suf.length*(L+1):=by rw[<- IX];congr 1;exact oqz [suf.length-1,suf.length] [] [(.le 1 Y1),(osb Y1 1 Y0)] (.eq (Y0+1) Y1) [1001,101,10001,1011] rfl hs1 (am (suf.length) (1))
   rw[e1];exact Hu _ (Ij _)
  dsimp only[BK,qS1,qS2,qS3,qE5,aM,aA,az,aa,af,aH]
  refine Bc zT (row:=mulN s s (suf.length-1) [1]) hpw ?_ ?_ fun H2 kp' hp2 hpw2=>?_
  ·rw[bV,G8];exact oqz [suf.length-1,suf.length,row.length] [] [(.le Y2 900),(.le Y1 Y2),(.an (.le Y1 (Y0+1)) (.le Y0 Y1))] (.le (1+Y0) 1000) [10111] rfl hl hsl (aV (suf.length) (1))
  ·intro y hy;have:=IntMulOk.sm (bp y hy) hs (by exact lin [K,L,row.length*(L+2),suf.length*(L+2),(suf.length-1)*(L+1)] [(1,(.a (.a (.a Y0 Y1) (.n 2)) Y2),(.n 60000000)),(1,Y3,Y2),(1,(.a Y4 (.a Y1 (.n 1))),Y3)] (.a (.n 1) Y4) (.n 67108864) rfl hB mm mm1) (by exact lin [K,L,row.length*(L+2)] [(1,(.a (.a (.a Y0 Y1) (.n 2)) Y2),(.n 60000000))] Y1 (.n 67108864) rfl hB);exact ⟨this,this⟩
  refine Bc zT (row:=Mine.hs b e' s suf) (av hp2 hf) ?_ ?_ fun H3 kf' hp3 hf3=>?_
  ·rw[dT];exact lin [row.length,suf.length] [(1,Y0,(.n 900)),(1,Y1,Y0)] Y1 (.n 1000) rfl hl hsl
  ·intro y hy;exact ⟨IntMulOk.sm (bf y hy) hb (by exact lin [K,L,row.length*(L+2),suf.length*(L+2)] [(1,(.a (.a (.a Y0 Y1) (.n 2)) Y2),(.n 60000000)),(1,Y3,Y2)] (.a (.a Y0 (.n 2)) Y3) (.n 67108864) rfl hB mm) (by exact lin [K,L,row.length*(L+2)] [(1,(.a (.a (.a Y0 Y1) (.n 2)) Y2),(.n 60000000))] Y1 (.n 67108864) rfl hB),IntMulOk.sm (bf y hy) he (by exact lin [K,L,row.length*(L+2),suf.length*(L+2)] [(1,(.a (.a (.a Y0 Y1) (.n 2)) Y2),(.n 60000000)),(1,Y3,Y2)] (.a (.a Y0 (.n 2)) Y3) (.n 67108864) rfl hB mm) (by exact lin [K,L,row.length*(L+2)] [(1,(.a (.a (.a Y0 Y1) (.n 2)) Y2),(.n 60000000))] Y1 (.n 67108864) rfl hB)⟩
  have ep:mulG s s 0 (mulN s s (suf.length-1) [1])=mulN s s suf.length [1]:=by
   show mulN s s (suf.length-1+1) [1]=_
   rw[JE hs1]
  rw[ep] at hpw2
  refine FH rfl rfl rfl hf3 (av hp3 hpw2) ?_ ?_ ?_ ?_
  ·rw[cf,dT,bV,G8];exact oqz [suf.length] [] [] (.eq (Y0+1) (1+Y0)) [1] rfl
  ·rw[cf,dT];exact lin [row.length,suf.length] [(1,Y0,(.n 900)),(1,Y1,Y0)] (.a Y1 (.n 1)) (.n 1000) rfl hl hsl
  ·intro y hy;refine IntMulOk.sm hdm (AllSm.pow1 hs y hy) (by exact lin [K,L,row.length*(L+2)] [(1,(.a (.a (.a Y0 Y1) (.n 2)) Y2),(.n 60000000))] Y0 (.n 67108864) rfl hB) ?_
   have:suf.length*(L+1)<=suf.length*(L+2):=Hu suf.length (Ij (L+1));exact oqz [suf.length*(L+1),K,L,row.length*(L+2),suf.length*(L+2)] [] [(.le (Y1+Y2+2+Y3) 60000000),(.le Y4 Y3),(.le Y0 Y4)] (.le (1+Y0) 67108864) [1111] rfl hB mm this
  refine hk _ _ ⟨pre',d::suf,_,_,_,by rw[hr1,G0];rfl,Iw _ _,rfl,rfl,ah hpre (ah hp2 (ah hp3 (aj _ _))),?_,?_⟩
  ·rw[ai];rfl
  ·exact av (ah hp3 (aj _ _)) hpw2
 ·rintro ρ H' ⟨pre,suf,kf,kp,o,hr1,hr2,hx,rfl,hpre,hf,hpw⟩
  have hnil:pre=[]:=by
   have:=congrArg List.length hx
   simp at this;exact HI this.symm
  subst hnil
  rw[List.nil_append] at hr1
  subst hr1
  exact hQ _ _ hpre hf
 ·rw[hrow,G9,G1,List.map_nil,List.dropLast_concat]
 ·rw[GR];rfl
 ·refine av hp ?_
  rw[G0]
  show (H++[V.int c]::_)[H.length]?=_
  rw[ai];show _=some [V.int (0+c*1)];rw[H7,HG]
 ·refine av hp ?_
  rw[G0]
  exact dj _ _ _ _
inductive TuI (H1:Hp) (m0:Nat) (p1 q1 p2 q2:Int) (xs:List Int) (rest:List V) (ρ:Loc) (H':Hp):Prop
 |mk (td:List Int) (many:Int) (ahead:Int) (o:Option V) (c0:rest=(td:List Int).map V.int) (c1:ρ=[some (.lst m0),some (.tup [.int p1,.int q1]),some (.tup [.int p2,.int q2]),some (.int many),some (.int ahead),o]) (c2:H'=H1) (c3:many+tv ahead td=tv 0 xs) (c4:AllSm 60000000 td) (c5:Sm 60000000 ahead)
theorem zg(zT:TT P){m0:Nat}{row:List Int}{p1 q1 p2 q2:Int}{K L:Nat}(hv:items H (.lst m0)=some (row.map .int))(h0:row≠[])(hl:row.length<=900)
  (hr:AllSm K row) (hb:Sm L (p1*q2)) (he:Sm L (p2*q1)) (hs:Sm L (q1*q2)) (m1:IntMulOk p1 q2) (m2:IntMulOk p2 q1) (m3:IntMulOk q1 q2) (hB:K+L+2+row.length*(L+2)<=60000000)
  (hQ:∀H',H<+:H'->Q (.int (tv 0 (Mine.hs (p1*q2) (p2*q1) (q1*q2) row))) H'):ag sub P (n+3) 17 [.lst m0,.tup [.int p1,.int q1],.tup [.int p2,.int q2]] H Q X:=by
 refine ao zT.a17 rfl ?_
 dsimp only[qJ,qS1,qS2,qS3,qS9,dp,qE1,qE5,aM,aA,az,qI1,aD,aB,ay,ax,aO,aC,aq,aa,af,aH,Nat.reduceSub]
 refine Cw zT hv h0 hl hr hb he hs m1 m2 m3 hB fun H1 k hp hk=>?_
 have hA:=AllSm.hs hb he hs hr
 revert hA hQ hk
 generalize Mine.hs (p1*q2) (p2*q1) (q1*q2) row=xs
 intro hQ hk hA
 refine ifSome.mk hk ?_
 refine bo (TuI H1 m0 p1 q1 p2 q2 xs) ?_ ?_ _ _ _ ⟨xs,0,0,_,rfl,rfl,rfl,HG _,hA.mono (by exact lin [K,L,row.length*(L+2)] [(1,(.a (.a (.a Y0 Y1) (.n 2)) Y2),(.n 60000000))] (.a (.a Y0 (.n 2)) Y2) (.n 60000000) rfl hB),Sm.zero⟩
 ·rintro x rest ρ H' k' zI hk';obtain ⟨td,many,ahead,o,hx,rfl,rfl,hm,ha,hah⟩:=zI
  cases td with
  |nil=>cases hx
  |cons y td =>
   cases hx
   dsimp only[xd,qS1,qS2,qS3,bw,qE1,qE5,qE8,bx,cO,dm,fh,jR,aN,jx,aa,af,aH]
   by_cases hy:y=0
   ·rw[decide_eq_true hy]
    refine hk' _ _ ⟨td,many,ahead,_,rfl,rfl,rfl,?_,ha.tl,hah⟩
    rw[<- hm,fW,if_pos hy,hy,Hh,if_neg (by decide),HG]
   ·rw[decide_eq_false hy]
    refine ⟨IntMulOk.sm hah ha.hd (by decide) (by decide),?_⟩
    by_cases hc:ahead*y<0
    ·rw[decide_eq_true hc]
     refine hk' _ _ ⟨td,many+1,y,_,rfl,rfl,rfl,?_,ha.tl,ha.hd⟩
     rw[<- hm,fW,if_neg hy,if_pos hc,Jr]
    ·rw[decide_eq_false hc]
     refine hk' _ _ ⟨td,many,y,_,rfl,rfl,rfl,?_,ha.tl,ha.hd⟩
     rw[<- hm,fW,if_neg hy,if_neg hc,HG]
 ·rintro ρ H' ⟨td,many,ahead,o,hx,rfl,rfl,hm,ha,hah⟩
  cases td with
  |cons y td=>cases hx
  |nil =>
   rw[A9,Hv] at hm
   subst hm
   exact hQ _ hp
end
end Mine
namespace Mine
open PySem
theorem w5{n:Nat}:((n+1:Nat):Int)-1=(n:Int):=oqz [n] [] [] (.ie (.s (.c (Y0+1)) 1) (.c Y0)) [1] rfl
theorem jz{n:Nat}(h:n<=900):cI (n:Int):=aK (by exact oqz [n] [] [] (.il (.g 1000000) (.c Y0)) [1] rfl) (by exact oqz [n] [] [(.le Y0 900)] (.il (.c Y0) 1000000) [11] rfl h)
theorem ET{K L j r:Nat}(h:j*(L+1)<=r*(L+2))(hB:K+L+2+r*(L+2)<=60000000):K+j*(L+1)<=67108864:=by exact lin [j*(L+1),r*(L+2),K,L] [(1,Y0,Y1),(1,(.a (.a (.a Y2 Y3) (.n 2)) Y1),(.n 60000000))] (.a Y2 Y0) (.n 67108864) rfl h hB
theorem FB{K L r:Nat}(hB:K+L+2+r*(L+2)<=60000000):L<=67108864:=by exact lin [K,L,r*(L+2)] [(1,(.a (.a (.a Y0 Y1) (.n 2)) Y2),(.n 60000000))] Y1 (.n 67108864) rfl hB
theorem zD{j r d:Nat}(h:j<=r)(hl:r<=900):1+min j d+(j-d)<=1000:=oqz [min j d,j,d,j-d,r] [] [(.le Y1 Y4),(.le Y4 900),(.an (.le Y0 Y1) (.le Y0 Y2)),(osb Y1 Y2 Y3)] (.le (1+Y0+Y3) 1000) [10010111,1001111] rfl h hl (Mine.kD (j) (d)) (am (j) (d))
theorem AM{j d:Nat}:min j d+(j-d)=j:=oqz [min j d,j,d,j-d] [] [(.or (.an (.le Y1 Y2) (.eq Y0 Y1)) (.an (.le Y2 Y1) (.eq Y0 Y2))),(osb Y1 Y2 Y3)] (.eq (Y0+Y3) Y1) [1001,101001,11001,1000111,100101,1000101,100111] rfl (Mine.lP (j) (d)) (am (j) (d))
section
variable {sub:Nat->Nat->Bool}{P:List Fn}{f n:Nat}{H:Hp}{Q:V->Hp->Prop}{X:Nat->Hp->Prop}
inductive ByI (H:Hp) (m w:Nat) (row:List Int) (a b:Int) (rest:List V) (ρ:Loc) (H':Hp):Prop
 |mk (dn:List Int) (td:List Int) (pre:List Int) (c:Int) (o:Option V) (o':Option V) (c0:row=dn++td) (c1:rest=(List.range' dn.length td.length).map (fun (i:Nat)=>V.int (i:Int))) (c2:ρ=[some (.lst m),some (.lst w),some (.lst H.length),o,o']) (c3:H'=H++((pre:List Int).map V.int++V.int c::List.replicate td.length (V.int 0))::[]) (c4:pre.length=dn.length) (c5:pre++mulG a b c td=mulG a b 0 row)
theorem E6(zT:TT P){m w:Nat}{row:List Int}{a b:Int}(hm:H[m]?=some (row.map .int))(hw:H[w]?=some [.int a,.int b])(hl:row.length<=1000)(hb:∀x∈row,IntMulOk x a/\IntMulOk x b)
  (hQ:∀H' k,H<+:H'->H.length<=k->H'[k]?=some ((mulG a b 0 row).map .int)->Q (.lst k) H'):ag sub P (n+1) 42 [.lst m,.lst w] H Q X:=by
 refine ao zT.a42 rfl ?_
 dsimp only[bBy,zBy,qS1,qS2,qS3,qS9,dp,qE1,qE5,qE8,b6,f9,aA,az,qO1,qI3,cO,e6,cJ,cg,aD,aB,ay,ax,aO,aC,aq,aX,aa,af,aH,Nat.reduceSub]
 refine ifSome.mk hm (ifSome.mk hw ?_)
 rw[GO]
 refine iC (aK (by exact oqz [row.length] [] [] (.il (.g 1000000) (.s (.a (.c Y0) (.c (0+1+1))) 1)) [1] rfl) (by simp;exact oqz [row.length] [] [(.le Y0 1000)] (.il (.s (.a (.c Y0) 2) 1) 1000000) [11] rfl hl)) ⟨by rw[GO,H9];unfold lim;simp;exact oqz [row.length] [] [(.le Y0 1000)] (.il (.a (.c Y0) 2) 1000001) [11] rfl hl,?_⟩
 refine eP (g:=fun _=>V.int 0) (fun i hi k hk=>hk) ?_
 rw[show ((row.length:Int)+(([V.int a,V.int b].length:Nat):Int)-1).toNat=row.length+1 by simp;exact oqz [((↑row.length:Int)+2).toNat,row.length] [] [(otn (.a (.c Y1) 2) Y0)] (.eq Y0 (Y1+2)) [1001,10,101] rfl (aQ ((↑row.length:Int)+2))]
 refine ifSome.mk (av (aj _ _) hm) ?_
 refine iC (aK (by rw[GO];exact oqz [row.length] [] [] (.il (.g 1000000) (.c Y0)) [1] rfl) (by rw[GO];exact oqz [row.length] [] [(.le Y0 1000)] (.il (.c Y0) 1000000) [11] rfl hl)) ?_
 rw[GO,Iz,show (List.range' 0 (row.length+1)).map (fun _=>V.int 0)=List.replicate (row.length+1) (V.int 0) from by rw[List.map_const',H9]]
 refine bo (ByI H m w row a b) ?_ ?_ _ _ _ ⟨[],row,[],0,_,_,rfl,rfl,rfl,rfl,rfl,rfl⟩
 ·rintro x xs ρ H' k zI hk;obtain ⟨dn,td,pre,c,o,o',hr,hx,rfl,rfl,hp,hmm⟩:=zI
  cases td with
  |nil=>cases hx
  |cons y td =>
   rw[cn] at hx
   cases hx
   have hm':∀l:List V,(H++l::[])[m]?=some (row.map .int):=fun l=>av (aj _ _) hm
   have hw':∀l:List V,(H++l::[])[w]?=some [.int a,.int b]:=fun l=>av (aj _ _) hw
   have hy:(row.map V.int)[dn.length]?=some (.int y):=by rw[hr,G9,G1];have:=ai (dn.map V.int) (V.int y) (td.map V.int);rwa [GO] at this
   have hdl:dn.length<(row.map V.int).length:=by rw[hr];simp
   have hmy:=hb y (by rw[hr];simp)
   have hpl:(pre.map V.int).length=dn.length:=by rw[GO,hp]
   dsimp only[Fp,qS1,qS2,dp,qE5,b6,aA,az,qI3,cJ,aa,af,aH]
   refine ifSome.mk (hw' _) (iC (aK (show (-1000000:Int)<=2 by decide) (show (2:Int)<=1000000 by decide)) ?_)
   show cU _ 4 [.int 0,.int 1] _ _ _
   dsimp only[cU,FG,qS1,qS2,qS5,qE5,qE8,aU,cO,cu,aa,bO,fu,af,aH,List.replicate_succ,List.length_cons]
   refine ifSome.mk (ai _ _ _) (ifSome.mk (v:=dn.length) ?_ (ifSome.mk (v:=.int c) (by rw[<- hpl];exact ai _ _ _) ?_))
   ·rw[Hv];exact aG (by simp;exact lin [pre.length,dn.length,td.length] [(1,Y1,Y0)] (.a Y1 (.n 1)) (.a Y0 (.a (.a Y2 (.n 1)) (.n 1))) rfl (HZ (hp).symm))
   refine ix3 (hm' _) (aG (k:=dn.length) hdl) hy ?_
   refine ifSome.mk (hw' _) (ifSome.mk (v:=0) rfl (ifSome.mk (v:=.int a) rfl ⟨hmy.1,?_⟩))
   refine ⟨⟨⟨GU _,Ii _⟩,Ii _⟩,?_⟩
   refine ifSome.mk (ai _ _ _) (ifSome.mk (v:=dn.length) ?_ ?_)
   ·rw[Hv];exact aG (by simp;exact lin [pre.length,dn.length,td.length] [(1,Y1,Y0)] (.a Y1 (.n 1)) (.a Y0 (.a (.a Y2 (.n 1)) (.n 1))) rfl (HZ (hp).symm))
   rw[cy,<- hpl,cy]
   refine ix3 (i:=(pre.map V.int).length+1) (v:=.int 0) (ai _ _ _) (aG (by simp)) (dj _ _ _ _) ?_
   refine ix3 (v:=.int y) (hm' _) (aG (k:=(pre.map V.int).length) (by rw[hpl];exact hdl)) (by rw[hpl];exact hy) ?_
   refine ifSome.mk (hw' _) (ifSome.mk (v:=1) rfl (ifSome.mk (v:=.int b) rfl ⟨hmy.2,?_⟩))
   refine ⟨⟨⟨GU _,Ii _⟩,Ii _⟩,?_⟩
   refine ix2 (i:=(pre.map V.int).length+1) (ai _ _ _) (aG (by simp)) ?_
   rw[cy,gq]
   refine hk _ _ ⟨dn++[y],td,pre++[c+y*a],0+y*b,_,_,by rw[hr];simp,by rw[GR];rfl,rfl,by rw[G9,G0];rfl,by rw[GR,GR,hp];rfl,?_⟩
   rw[HG,G0];exact hmm
 ·rintro ρ H' ⟨dn,td,pre,c,o,o',hr,hx,rfl,rfl,hp,hmm⟩
  cases td with
  |cons y td=>rw[cn] at hx;cases hx
  |nil =>
   refine hQ _ _ (aj _ _) (GU _) ?_
   rw[ai,<- hmm]
   show _=some ((pre++[c]).map V.int);rw[G9];simp
theorem Cy{ρ:Loc}{i j r:Nat}{Φ:Call}{xs ys:List Int}{zs:List V}(h0:af ρ 0=some (.lst r))(h3:af ρ 3=some (.lst i))(h5:af ρ 5=some (.lst j))(hr:H[r]?=some zs)(hi:H[i]?=some (xs.map .int))(hj:H[j]?=some (ys.map .int))
  (hz:zs.length=xs.length) (hl:xs.length=ys.length) (hn:xs.length<=1000) (hQ:Q (.lst H.length) (H++[(addL xs ys).map .int])) :
  wpE sub Φ rQ ρ H Q:=by
 dsimp only[rQ,qE5,qE8,b6,aU,f9,qI3,aA,az]
 refine ifSome.mk h0 ?_
 dsimp only[cJ]
 refine ifSome.mk hr ?_
 rw[hz]
 refine iC (aK (by exact oqz [xs.length] [] [] (.il (.g 1000000) (.c Y0)) [1] rfl) (by exact oqz [xs.length] [] [(.le Y0 1000)] (.il (.c Y0) 1000000) [11] rfl hn)) ⟨by rw[GO,H9];unfold lim;exact lin [zs.length,xs.length,ys.length] [(1,Y1,(.n 1000))] Y1 (.n 1000000) rfl hn,?_⟩
 rw[Iz]
 refine eP (g:=fun i=>V.int (xs.getD i 0+ys.getD i 0)) ?_ ?_
 ·intro t ht k hk
  rw[Ie] at ht
  have ht':t<ys.length:=hl ▸ ht
  dsimp only[cg,qO1,aa,List.cons_append,List.nil_append]
  have em:List.map (af ρ) [3,5]=[some (.lst i),some (.lst j)]:=by
   show [af ρ 3,af ρ 5]=_
   rw[h3,h5]
  rw[em,if_pos rfl]
  dsimp only[af,aa,cu]
  refine ix3 (v:=.int (xs.getD t 0)) hi (aG (k:=t) (by rw[GO];exact ht)) ?_ ?_
  ·rw[Hj,G2 ht,G7,G2 ht];rfl
  refine ix3 (v:=.int (ys.getD t 0)) hj (aG (k:=t) (by rw[GO];exact ht')) ?_ hk
  ·rw[Hj,G2 ht',G7,G2 ht'];rfl
 ·rw[mF (f:=fun x y=>x+y) hl];exact hQ
inductive LsI (H:Hp) (m:Nat) (p1 q1 p2 q2 b e' s:Int) (row:List Int) (rest:List V) (ρ:Loc) (H':Hp):Prop
 |mk (dn:List Int) (td:List Int) (kf:Nat) (acc:List Int) (o:Option V) (o1:Option V) (o2:Option V) (c0:row=dn++td) (c1:rest=(List.range' dn.length td.length).map (fun (i:Nat)=>V.int (i:Int))) (c2:ρ=[some (.lst m),some (.tup [.int p1,.int q1]),some (.tup [.int p2,.int q2]),some (.lst kf),o,o1,o2]) (c3:H<+:H') (c4:H'[kf]?=some ((acc:List Int).map .int)) (c5:acc.length=row.length) (c6:addL acc (ls b e' s dn.length td)=ls b e' s 0 row)
inductive LdI (H':Hp) (m kf:Nat) (p1 q1 p2 q2 b e' s c:Int) (dn td:List Int) (rest:List V) (ρ:Loc) (H2:Hp):Prop
 |mk (j:Nat) (t:Nat) (kd:Nat) (o3:Option V) (c0:j+t=dn.length+td.length) (c1:rest=(List.range' j t).map (fun (i:Nat)=>V.int (i:Int))) (c2:ρ=[some (.lst m),some (.tup [.int p1,.int q1]),some (.tup [.int p2,.int q2]),some (.lst kf),some (.int (dn.length:Int)),some (.lst kd),o3]) (c3:H'<+:H2) (c4:H2[kd]?=some ((mulN s s (j-dn.length) (mulN b e' (min j dn.length) [c])).map .int))
theorem A5(zT:TT P){m:Nat}{row:List Int}{p1 q1 p2 q2:Int}{K L:Nat}(hm:H[m]?=some (row.map .int))(hl:row.length<=900)
  (hr:AllSm K row) (hb:Sm L (p1*q2)) (he:Sm L (p2*q1)) (hs:Sm L (q1*q2)) (m1:IntMulOk p1 q2) (m2:IntMulOk p2 q1) (m3:IntMulOk q1 q2) (hB:K+L+2+row.length*(L+2)<=60000000)
  (hQ:∀H' k,H<+:H'->H'[k]?=some ((Mine.hs (p1*q2) (p2*q1) (q1*q2) row).map .int)->Q (.lst k) H'):ag sub P (n+2) 43 [.lst m,.tup [.int p1,.int q1],.tup [.int p2,.int q2]] H Q X:=by
 refine ao zT.a43 rfl ?_
 generalize eb':p1*q2=b at *
 generalize ee:p2*q1=e' at *
 generalize es:q1*q2=s at *
 dsimp only[qC,wB,qS1,qS2,qS3,qS9,dp,qE1,qE5,b6,f9,aA,az,qO1,qI1,qI3,cJ,dc,cg,aD,aB,ay,ax,aO,aC,aq,aX,aa,af,aH,Nat.reduceSub]
 refine ifSome.mk hm ⟨by rw[GO];unfold lim;exact lin [row.length] [(1,Y0,(.n 900))] Y0 (.n 1000000) rfl hl,?_⟩
 refine ej (g:=fun _=>V.int 0) (fun x hx k hk=>hk) ?_
 refine ifSome.mk (av (aj _ _) hm) ?_
 rw[GO]
 refine iC (jz hl) ?_
 rw[Iz]
 refine bo (LsI H m p1 q1 p2 q2 b e' s row) ?_ ?_ _ _ _ ⟨[],row,H.length,bW row.length,_,_,_,rfl,rfl,rfl,aj _ _,?_,?_,?_⟩
 ·rintro x xs ρ H' k zI hk;obtain ⟨dn,td,kf,acc,o,o1,o2,hr1,hx,rfl,hpre,hf,hacc,hsum⟩:=zI
  cases td with
  |nil=>cases hx
  |cons c td =>
   rw[cn] at hx
   cases hx
   have hy:(row.map V.int)[dn.length]?=some (.int c):=by rw[hr1,G9,G1];have:=ai (dn.map V.int) (V.int c) (td.map V.int);rwa [GO] at this
   have hdl:dn.length<(row.map V.int).length:=by rw[hr1];simp
   have hrl:row.length=dn.length+td.length+1:=by rw[hr1,GR,List.length_cons];rfl
   have hc:Sm K c:=hr c (by rw[hr1];simp)
   have hL:L<=67108864:=FB hB
   dsimp only[uf,qS1,qS2,qS3,dp,qE1,qE5,qE8,b6,aU,fY,aA,az,qI3,e6,cJ,cu,aa,af,aH]
   refine ix3 (av hpre hm) (aG (k:=dn.length) hdl) hy ?_
   have hp1:H<+:H'++[[V.int c]]:=ah hpre (aj _ _)
   refine ifSome.mk (av hp1 hm) ?_
   rw[GO,hrl,show (((dn.length+td.length+1:Nat):Int)-1)=((dn.length+td.length:Nat):Int) from w5]
   refine iC (jz (GP (Ij _) (GP (HZ hrl.symm) hl))) ?_
   rw[Iz]
   refine bo (LdI H' m kf p1 q1 p2 q2 b e' s c dn td) ?_ ?_ _ _ _ ⟨0,dn.length+td.length,H'.length,_,Ie _,rfl,rfl,aj _ _,?_⟩
   ·rintro x2 xs2 ρ2 H2 k2 zI hk2;obtain ⟨j,t,kd,o3,hjt,hx2,rfl,hpre2,hd⟩:=zI
    cases t with
    |zero=>cases hx2
    |succ t =>
     rw[JT] at hx2
     cases hx2
     have hAll:AllSm (K+j*(L+1)) (mulN s s (j-dn.length) (mulN b e' (min j dn.length) [c])):=by
      refine (AllSm.mulN hs hs (AllSm.mulN hb he (.cons hc .nil))).mono ?_
      rw[Ig,<- Hc,AM]
      exact GU _
     have hjr:j<=row.length:=by clear hB hAll;exact lin [acc.length,row.length,dn.length,td.length,j,t] [(1,(.a (.a Y2 Y3) (.n 1)),Y1),(1,(.a Y4 (.a Y5 (.n 1))),(.a Y2 Y3))] Y4 Y1 rfl (HZ (hrl).symm) (HZ hjt)
     have hjb:j*(L+1)<=row.length*(L+2):=HP hjr (Ij _)
     have hK:K+j*(L+1)<=67108864:=ET hjb hB
     have hlen:(mulN s s (j-dn.length) (mulN b e' (min j dn.length) [c])).length<=1000:=by
      rw[bV,bV,G8];exact zD hjr hl
     dsimp only[tV,qS1,qS2,qS3,bw,qE1,qE5,qE8,bx,aM,aU,fY,aA,az,dm,fh,bu,bS,aN,aa,af,aH]
     by_cases hj:j<dn.length
     ·rw[decide_eq_true (Int.ofNat_lt.mpr hj)]
      refine ⟨m1,m2,?_⟩
      rw[eb',ee]
      refine E6 zT (av (aj _ _) hd) (ai _ _ _) hlen ?_ fun H3 kd' hp3 _ hd3=>?_
      ·intro y hy'
       exact ⟨IntMulOk.sm (hAll y hy') hb hK hL,IntMulOk.sm (hAll y hy') he hK hL⟩
      refine hk2 _ _ ⟨j+1,t,kd',_,(Nat.succ_add_eq_add_succ j t).trans hjt,rfl,rfl,ah hpre2 (ah (aj _ _) hp3),?_⟩
      rw[hd3,Nat.sub_eq_zero_of_le (Ji hj),Nat.sub_eq_zero_of_le hj,Jl (Ji hj),Jl hj]
      rfl
     ·rw[decide_eq_false (fun h=>hj (Int.ofNat_lt.mp h))]
      refine ⟨m3,m3,?_⟩
      rw[es]
      refine E6 zT (av (aj _ _) hd) (ai _ _ _) hlen ?_ fun H3 kd' hp3 _ hd3=>?_
      ·intro y hy'
       have:=IntMulOk.sm (hAll y hy') hs hK hL;exact ⟨this,this⟩
      refine hk2 _ _ ⟨j+1,t,kd',_,(Nat.succ_add_eq_add_succ j t).trans hjt,rfl,rfl,ah hpre2 (ah (aj _ _) hp3),?_⟩
      have hj':=Nat.not_lt.mp hj
      rw[hd3,Nat.succ_sub hj',Je hj',Je (Nat.le_succ_of_le hj')]
      rfl
   ·rintro ρ2 H2 ⟨j,t,kd,o3,hjt,hx2,rfl,hpre2,hd⟩
    cases t with
    |succ t=>rw[JT] at hx2;cases hx2
    |zero =>
     have hj:j=dn.length+td.length:=hjt
     subst hj
     rw[Ib,Je (Io _ _)] at hd
     have hlx:acc.length=(mulN s s td.length (mulN b e' dn.length [c])).length:=by rw[bV,bV,G8,hacc,hrl,Ig,Id,Ig,Id td.length,Id]
     refine Cy rfl rfl rfl (av (ah hpre hpre2) hm) (av hpre2 hf) hd ?_ ?_ ?_ ?_
     ·rw[GO,hacc]
     ·exact hlx
     ·exact GP (HZ hacc) (GP hl (by decide))
     refine hk _ _ ⟨dn++[c],td,_,_,_,_,_,by rw[hr1,G0];rfl,by rw[GR];rfl,rfl,ah hpre (ah hpre2 (aj _ _)),ai _ _ _,?_,?_⟩
     ·rw[gn hlx,hacc]
     ·rw[<- hsum,lT,GR];rfl
   ·rw[ai,Nat.zero_sub,Nat.zero_min];rfl
 ·rintro ρ H' ⟨dn,td,kf,acc,o,o1,o2,hr1,hx,rfl,hpre,hf,hacc,hsum⟩
  cases td with
  |cons y td=>rw[cn] at hx;cases hx
  |nil =>
   rw[List.append_nil] at hr1
   subst hr1
   refine hQ _ _ hpre ?_
   rw[<- wV,<- hsum,hf]
   show _=some ((addL acc (bW row.length)).map V.int)
   rw[<- hacc,mn,jo]
 ·rw[ai,bW,List.map_replicate,Hw];congr 1;exact List.map_const' ..
 ·rw[bW,List.length_replicate]
 ·have:=@jo (ls b e' s 0 row)
  rw[wV,dT] at this
  show addL (bW row.length) (ls b e' s 0 row)=_
  rw[wV];exact this
theorem qm(zT:TT P){m:Nat}{row:List Int}{p1 q1 p2 q2:Int}{K L:Nat}(hm:H[m]?=some (row.map .int))(hl:row.length<=900)
  (hr:AllSm K row) (hb:Sm L (p1*q2)) (he:Sm L (p2*q1)) (hs:Sm L (q1*q2)) (m1:IntMulOk p1 q2) (m2:IntMulOk p2 q1) (m3:IntMulOk q1 q2) (hB:K+L+2+row.length*(L+2)<=60000000)
  (hQ:∀H',H<+:H'->Q (.int (tv 0 (Mine.hs (p1*q2) (p2*q1) (q1*q2) row))) H'):ag sub P (n+3) 44 [.lst m,.tup [.int p1,.int q1],.tup [.int p2,.int q2]] H Q X:=by
 refine ao zT.a44 rfl ?_
 dsimp only[mX,qS1,qS2,qS3,qS9,dp,qE1,qE5,aM,aA,az,qI1,aD,aB,ay,ax,aO,aC,aq,aa,af,aH,Nat.reduceSub]
 refine A5 zT hm hl hr hb he hs m1 m2 m3 hB fun H1 k hp hk=>?_
 have hA:=AllSm.hs hb he hs hr
 revert hA hQ hk
 generalize Mine.hs (p1*q2) (p2*q1) (q1*q2) row=xs
 intro hQ hk hA
 refine ifSome.mk hk ?_
 refine bo (TuI H1 m p1 q1 p2 q2 xs) ?_ ?_ _ _ _ ⟨xs,0,0,_,rfl,rfl,rfl,HG _,hA.mono (by exact lin [K,L,row.length*(L+2)] [(1,(.a (.a (.a Y0 Y1) (.n 2)) Y2),(.n 60000000))] (.a (.a Y0 (.n 2)) Y2) (.n 60000000) rfl hB),Sm.zero⟩
 ·rintro x rest ρ H' k' zI hk';obtain ⟨td,many,ahead,o,hx,rfl,rfl,hmm,ha,hah⟩:=zI
  cases td with
  |nil=>cases hx
  |cons y td =>
   cases hx
   dsimp only[sT,qS1,qS2,qS3,bw,qE1,qE5,qE8,bx,cO,dm,fh,jR,aN,jx,aa,af,aH]
   refine ⟨IntMulOk.sm ha.hd hah (by decide) (by decide),?_⟩
   rw[HS]
   have key:∀many':Int,many'=many+(if ahead*y<0 then 1 else 0)->k' [some (.lst m),some (.tup [.int p1,.int q1]),some (.tup [.int p2,.int q2]),some (.int many'),some (.int (if y=0 then ahead else y)),some (.int y)] H':=fun many' h=>by
    refine hk' _ _ ⟨td,many',_,_,rfl,rfl,rfl,?_,ha.tl,?_⟩
    ·rw[h,<- hmm,fW,Jr]
    ·split
     ·exact hah
     ·exact ha.hd
   by_cases hc:ahead*y<0
   ·rw[decide_eq_true hc]
    rw[if_pos hc] at key
    by_cases hy:y=0
    ·rw[decide_eq_true hy];rw[if_pos hy] at key;exact key _ rfl
    ·rw[decide_eq_false hy];rw[if_neg hy] at key;exact key _ rfl
   ·rw[decide_eq_false hc]
    rw[if_neg hc] at key
    by_cases hy:y=0
    ·rw[decide_eq_true hy];rw[if_pos hy] at key;exact key _ (Hv _).symm
    ·rw[decide_eq_false hy];rw[if_neg hy] at key;exact key _ (Hv _).symm
 ·rintro ρ H' ⟨td,many,ahead,o,hx,rfl,rfl,hmm,ha,hah⟩
  cases td with
  |cons y td=>cases hx
  |nil =>
   rw[A9,Hv] at hmm
   subst hmm
   exact hQ _ hp
end
end Mine
namespace Mine
open PySem
section
structure Low (k:Nat)(p q:Int):Prop where
 top:Sm k p
 bot:Sm k q
 pos:0<q
 one:p.gcd q=1
theorem rz{k:Nat}{a b p q:Int}(ha:Sm k a)(hb:Sm k b)(h0:0<b)(e1:p*(a.gcd b:Nat)=a)(e2:q*(a.gcd b:Nat)=b):Low k p q:=by
 have hg:0<a.gcd b:=Jg a (GY h0)
 have hg':(0:Int)<(a.gcd b:Nat):=IR.mpr hg
 refine ⟨?_,?_,?_,?_⟩
 ·refine Hx ?_ ha
  rw[show a.natAbs=(p*(a.gcd b:Nat)).natAbs by rw[e1],HU,IK];exact HN _ hg
 ·refine Hx ?_ hb
  rw[show b.natAbs=(q*(a.gcd b:Nat)).natAbs by rw[e2],HU,IK];exact HN _ hg
 ·exact Int.pos_of_mul_pos_left (by rw[e2];exact h0) hg'
 ·have h:p.gcd q*a.gcd b=1*a.gcd b:=by
   have:=Int.gcd_mul_right p (a.gcd b:Nat) q
   rw[e1,e2,IK] at this
   rw[<- this,Nat.one_mul]
  exact Nat.eq_of_mul_eq_mul_right hg h
end
end Mine
namespace Mine
open PySem
theorem uL{H:Hp}{a b c d:Int}{Q:Bool->Prop}(h:Q (decide (a=c/\b=d))):l6 (.tup [.int a,.int b]) (.tup [.int c,.int d]) H Q:=by
 refine ⟨_,_,.inl ⟨[a,b],rfl,rfl⟩,.inl ⟨[c,d],rfl,rfl⟩,?_⟩
 have e:PyData.eqv (.tuple [.int a,.int b]) (.tuple [.int c,.int d])=decide (a=c/\b=d):=by
  rw[PyData.eqv]
  have:=eW [a,b] [c,d]
  rw[G1,G1,List.map_nil] at this
  rw[show PyData.eqvAll [.int a,.int b] [.int c,.int d]=decide ([a,b]=[c,d]) from this]
  simp
 show Q (PyData.eqv (.tuple [.int a,.int b]) (.tuple [.int c,.int d]))
 rw[e];exact h
noncomputable def br:List Int->Nat->Nat
 | [],g=>g
 |x::r,g=>br r (Nat.gcd g x.natAbs)
theorem iJ:∀ (r:List Int) (g:Nat),br r g ∣ g/\∀x∈r,br r g ∣ x.natAbs
 | [],g=>⟨Nat.dvd_refl _,fun x hx=>nomatch hx⟩
 |y::r,g=>by
  obtain ⟨h1,h2⟩:=iJ r (Nat.gcd g y.natAbs)
  refine ⟨Nat.dvd_trans h1 (Nat.gcd_dvd_left _ _),fun x hx=>?_⟩
  rcases Hf.mp hx with rfl|hx
  ·exact Nat.dvd_trans h1 (Nat.gcd_dvd_right _ _)
  ·exact h2 x hx
theorem lR(c:Nat):∀ (r:List Int) (s:Int) (g:Nat),s.natAbs=c->br (r.map fun x=>x*s) (g*c)=br r g*c
 | [],s,g,_=>rfl
 |x::r,s,g,h=>by
  show br (r.map fun x=>x*s) (Nat.gcd (g*c) (x*s).natAbs)=_
  rw[HU,h,Nat.gcd_mul_right,lR c r s _ h];rfl
noncomputable def gOf(r:List Int)(l:Int):Int:=if l<0 then -(br r 0:Int) else (br r 0:Int)
noncomputable def cv(r:List Int)(l:Int):List Int:=r.map fun x=>x.fdiv (gOf r l)
theorem kg{r:List Int}{l:Int}:(gOf r l).natAbs=br r 0:=by
 unfold gOf;split
 ·rw[Int.natAbs_neg];rfl
 ·rfl
theorem gm{r:List Int}{l:Int}(hl:l∈r)(h0:l≠0):0<br r 0:=Nat.pos_of_dvd_of_pos ((iJ r 0).2 l hl) (Jf.mpr h0)
theorem fU{r:List Int}{l:Int}(hl:l∈r)(h0:l≠0):gOf r l≠0:=by
 have:=gm hl h0
 have h:=@kg r l
 intro e;rw[e] at h;simp at h;exact oqz [br r 0] [] [(.le (0+1) Y0),(.eq 0 Y0)] .ff [101] rfl this h
theorem od{r:List Int}{l x:Int}(hx:x∈r):gOf r l ∣ x:=Iu.mp (by rw[kg];exact (iJ r 0).2 x hx)
theorem oX{r:List Int}{l:Int}:(cv r l).map (fun x=>x*gOf r l)=r:=by
 unfold cv
 rw[Hw]
 conv=>rhs;rw[<- List.map_id r]
 apply ID
 intro x hx
 exact Ir (od hx)
theorem cV{r:List Int}{l:Int}:(cv r l).length=r.length:=GO ..
theorem eI{r:List Int}{l:Int}(hl:l∈r)(h0:l≠0):br (cv r l) 0=1:=by
 have h:=lR (gOf r l).natAbs (cv r l) (gOf r l) 0 rfl
 rw[oX,Nat.zero_mul,kg] at h
 exact (Nat.eq_of_mul_eq_mul_right (gm hl h0) (by rw[Nat.one_mul];exact h)).symm
theorem cL{r:List Int}{l:Int}(hl:l∈r)(h0:l≠0):0<l.fdiv (gOf r l):=by
 have hg:=gm hl h0
 have e:=Ir (od (l:=l) hl)
 by_cases h:l<0
 ·have hg0:gOf r l<0:=by unfold gOf;rw[if_pos h];exact oqz [br r 0] [] [(.le (0+1) Y0)] (.il (.a (.g (.c Y0)) 1) 0) [11] rfl hg
  exact IM.mp fun hle=>by
   have:=IP hle (Hn hg0)
   rw[e] at this;exact oqz [] [l] [(.il (Y0+1) 0),(.il 0 Y0)] .ff [11] rfl h this
 ·have hg0:0<gOf r l:=by unfold gOf;rw[if_neg h];exact oqz [br r 0] [] [(.le (0+1) Y0)] (.il (0+1) (.c Y0)) [11] rfl hg
  exact Int.pos_of_mul_pos_left (by rw[e];exact oqz [] [l] [(.no (.il (Y0+1) 0)),(.no (.ie Y0 0))] (.il (0+1) Y0) [110,101] rfl h h0) hg0
theorem oI{r:List Int}{l:Int}(h:br r 0=1)(hl:0<l):cv r l=r:=by
 have hg:gOf r l=1:=by unfold gOf;rw[if_neg (by exact oqz [] [l] [(.il (0+1) Y0)] (.no (.il (Y0+1) 0)) [11] rfl hl),h];rfl
 unfold cv
 rw[hg]
 conv=>rhs;rw[<- List.map_id r]
 apply ID
 intro x _
 exact Int.fdiv_one x
theorem fV{r:List Int}{l:Int}{k:Nat}(hl:l∈r)(h0:l≠0)(h:AllSm k r):AllSm k (cv r l):=fun x hx=>by
 refine ae (Hq.mp hx) fun y hy zq109=>?_;subst zq109
 refine Hx ?_ (h y hy)
 have e:=Ir (od (l:=l) hy)
 have:=gm hl h0
 rw[show y.natAbs=(y.fdiv (gOf r l)*gOf r l).natAbs by rw[e],HU,kg]
 exact HN _ this
theorem nL{g:Int}{r:List Int}:(r.map fun x=>x*g)=smul g r:=ID fun x _=>HS x g
theorem mc{a b:Int}{r:List Int}:smul a (smul b r)=smul (a*b) r:=by
 unfold smul;rw[Hw];apply ID;intro x _;exact (HJ a b x).symm
theorem oG{a:Int}:∀ {xs ys:List Int},smul a (addL xs ys)=addL (smul a xs) (smul a ys)
 | [],_=>by simp[smul,addL]
 |_::_,[]=>by simp[smul,addL]
 |x::r,y::t=>by
  show a*(x+y)::smul a (addL r t)=(a*x+a*y)::addL (smul a r) (smul a t)
  rw[oG,Int.mul_add]
theorem nG{b e s g:Int}:∀ {r:List Int},hs b e s (smul g r)=smul g (hs b e s r)
 | []=>rfl
 |c::r=>by
  show addL (mulG b e 0 (hs b e s (smul g r))) (smul (g*c) (mulN s s (smul g r).length [1]))=smul g (addL (mulG b e 0 (hs b e s r)) (smul c (mulN s s r.length [1])))
  rw[nG,oG,mc,show (smul g r).length=r.length from GO ..,show (0:Int)=g*0 from (Hh g).symm,jv,Hh]
theorem jK{a b g:Int}(hg:g≠0):(g*a)*(g*b)<0 ↔ a*b<0:=by
 have e:(g*a)*(g*b)=(g*g)*(a*b):=by grind
 have hp:0<g*g:=by
  rcases Jj hg with h|h
  ·exact Int.mul_pos_of_neg_of_neg h h
  ·exact Hb h h
 rw[e]
 constructor
 ·intro h;exact IM.mp fun hle=>by have:=Int.mul_nonneg (Hn hp) hle;exact oqz [] [g*g*(a*b)] [(.il (Y0+1) 0),(.il 0 Y0)] .ff [11] rfl h this
 ·intro h;exact Int.mul_neg_of_pos_of_neg hp h
theorem gC{g:Int}(hg:g≠0):∀ (r:List Int) (l:Int),tv (g*l) (smul g r)=tv l r
 | [],_=>rfl
 |x::r,l=>by
  show (if (g*l)*(g*x)<0 then 1 else 0)+tv (if g*x=0 then g*l else g*x) (smul g r)=(if l*x<0 then 1 else 0)+tv (if x=0 then l else x) r
  have h0:(g*x=0) ↔ x=0:=⟨fun h=>(Int.mul_eq_zero.mp h).resolve_left hg,fun h=>by rw[h,Hh]⟩
  have e2:(if g*x=0 then g*l else g*x)=g*(if x=0 then l else x):=by
   by_cases hx:x=0
   ·rw[if_pos hx,if_pos (h0.mpr hx)]
   ·rw[if_neg hx,if_neg (fun h=>hx (h0.mp h))]
  rw[e2,gC hg r]
  by_cases hc:l*x<0
  ·rw[if_pos hc,if_pos ((jK hg).mpr hc)]
  ·rw[if_neg hc,if_neg (fun h=>hc ((jK hg).mp h))]
theorem sgn_zero{x:Int}:sgn x=0 ↔ x=0:=by
 unfold sgn
 constructor
 ·intro h
  by_cases h1:x<0
  ·rw[if_pos h1] at h;exact oqz [] [x] [(.ie (.g 1) 0)] (.ie Y0 0) [100] rfl h
  ·rw[if_neg h1] at h
   by_cases h2:0<x
   ·rw[if_pos h2] at h;exact oqz [] [x] [(.ie 1 0)] (.ie Y0 0) [10] rfl h
   ·exact oqz [] [x] [(.no (.il (Y0+1) 0)),(.no (.il (0+1) Y0))] (.ie Y0 0) [11,101] rfl h1 h2
 ·intro h;subst h;rfl
section
variable {sub:Nat->Nat->Bool}{P:List Fn}{f n dv:Nat}{H:Hp}{Q:V->Hp->Prop}{X:Nat->Hp->Prop}
theorem fo(e:P[f]?=some ⟨2,3,lq⟩){a b:Int}(hQ:Q (.int (a.gcd b:Nat)) H):ag sub P (n+1) f [.int a,.int b] H Q X:=by
 refine ao e rfl ?_
 dsimp only[lq,qS1,qS2,qS3,qS9,jW,qE1,qE5,qE8,bx,b6,aA,az,Bj,aD,aB,ay,ax,aO,aC,aq,aa,af,aH,Nat.reduceSub]
 have ha:∀x:Int,(if x<0 then -x else x)=(x.natAbs:Int):=fun x=>by split <;> (clear e hQ;omega)
 rw[ha,ha]
 refine ⟨fun ρ H'=>∃x y:Nat,∃o,ρ=[some (.int x),some (.int y),o]/\H'=H/\x.gcd y=a.gcd b,fun ρ _=>BI ρ 1,⟨a.natAbs,b.natAbs,_,rfl,rfl,rfl⟩,?_⟩
 intro ρ H' zr14;refine dL (zr14) fun x y o zq23 zq24 hg=>?_;subst zq23;subst zq24
 dsimp only[ub,vv,aN,aa,af,aH]
 by_cases hy:y=0
 ·subst hy
  rw[Nat.gcd_zero_right] at hg
  subst hg
  exact hQ
 ·have h0:(0:Int)<(y:Int):=IR.mpr (Nat.pos_of_ne_zero hy)
  rw[decide_eq_true h0]
  refine ⟨GY h0,⟨y,x % y,some (.int ((x:Int).fmod (y:Int))),?_,rfl,?_⟩,f8 (GY h0)⟩
  ·rw[show ((x % y:Nat):Int)=(x:Int).fmod (y:Int) by rw[Int.fmod_eq_emod_of_nonneg _ (Hn h0)];rfl]
  ·rw[<- hg,Nat.gcd_comm x y,Nat.gcd_rec y x,Nat.gcd_comm]
theorem oq(e:P[f]?=some ⟨2,2,eT⟩){p1 q1 p2 q2:Int}(m1:IntMulOk p1 q2)(m2:IntMulOk p2 q1)(hQ:Q (.bool (decide (p1*q2<p2*q1))) H):ag sub P (n+1) f [.tup [.int p1,.int q1],.tup [.int p2,.int q2]] H Q X:=by
 refine ao e rfl ?_
 dsimp only[eT,qS1,qS2,qS9,qE1,qE5,qE8,bx,aU,dm,fh,bu,bS,aD,aB,ay,ax,aC,aq,aa,af,Nat.reduceSub]
 exact ⟨m1,m2,hQ⟩
theorem fS{k l:Nat}{p q:Int}(hp:Sm l p)(hq:Sm l q):∀ {r:List Int},AllSm k r->Sm (k+1+r.length*(l+2)) (aw p q r)
 | [],_=>Sm.zero
 |c::r,h=>by
  have h1:=(fS hp hq h.tl).mul hp
  have h2:=h.hd.mul (hq.pow r.length)
  have hm:l*r.length<=r.length*(l+2):=by rw[IY];exact Hu _ (by exact lin [l] [] Y0 (.a Y0 (.n 2)) rfl )
  refine Sm.mono (Sm.add (h1.mono (Nat.le_max_left _ (k+(l*r.length+1)))) (h2.mono (Nat.le_max_right _ _))) ?_
  rw[List.length_cons,IX]
  exact oqz [max (k+1+r.length*(l+2)+l) (k+(l*r.length+1)),k,r.length*(l+2),l,l*r.length] [] [(.le Y4 Y2),(.or (.an (.le (Y1+(Y4+1)) (Y1+1+Y2+Y3)) (.eq Y0 (Y1+1+Y2+Y3))) (.an (.le (Y1+1+Y2+Y3) (Y1+(Y4+1))) (.eq Y0 (Y1+(Y4+1)))))] (.le (Y0+1) (Y1+1+(Y2+(Y3+2)))) [1001,1011] rfl hm (Mine.fJ (k+1+r.length*(l+2)+l) (k+(l*r.length+1)))
theorem gg(zT:TT P){v:V}{row:List Int}{p q:Int}{K L:Nat}(hv:items H v=some (row.map .int))(hr:AllSm K row)(hp:Sm L p)(hq:Sm L q)(hB:K+1+(row.length+1)*(L+2)<=60000000)
  (hQ:Q (.int (sgn (aw p q row))) H):ag sub P (n+1) 6 [v,.tup [.int p,.int q]] H Q X:=by
 refine ao zT.a6 rfl ?_
 dsimp only[v8,qS1,qS2,qS3,qS9,bw,dp,qE1,qE5,qE9,bx,b6,aA,az,qI2,aD,aB,ay,ax,aO,aC,aq,aa,af,aH,Nat.reduceSub]
 refine ifSome.mk hv ?_
 refine bo (fun rest ρ H'=>∃pre suf o,row=pre++suf/\rest=((pre:List Int).map V.int).reverse/\ρ=[some v,some (.tup [.int p,.int q]),some (.int (aw p q suf)),some (.int (q^suf.length)),o]/\H'=H) ?_ ?_ _ _ _ ⟨row,[],none,(List.append_nil _).symm,rfl,by rw[List.length_nil,HH];rfl,rfl⟩
 ·rintro x xs ρ H' k zI hk;obtain ⟨pre,suf,o,hr1,hx,rfl,rfl⟩:=zI
  rcases Jp pre with rfl | ⟨pre',d,rfl⟩
  ·cases hx
  rw[Jq] at hr1 hx
  rw[G9,JY] at hx
  cases hx
  have hsl:suf.length+1<=row.length:=by rw[hr1,GR,GR,G8];exact lin [suf.length,pre'.length] [] (.a Y0 (.n 1)) (.a (.a Y1 (.n 1)) Y0) rfl 
  have hsf:AllSm K suf:=fun y hy=>hr y (by rw[hr1];simp[hy])
  have hdm:Sm K d:=hr d (by rw[hr1];simp)
  have b1:=fS hp hq hsf
  have b2:=hq.pow suf.length
  have mm:(suf.length+1)*(L+2)<=row.length*(L+2):=HM _ hsl
  rw[IX] at mm hB
  have mm1:L*suf.length<=suf.length*(L+2):=by rw[IY];exact Hu _ (by exact lin [L] [] Y0 (.a Y0 (.n 2)) rfl )
  have hL:L<=67108864:=by exact lin [K,row.length*(L+2),L] [(1,(.a (.a Y0 (.n 1)) (.a Y1 (.a Y2 (.n 2)))),(.n 60000000))] Y2 (.n 67108864) rfl hB
  have h2:L*suf.length+1<=67108864:=by exact lin [K,row.length*(L+2),L,suf.length*(L+2),L*suf.length] [(1,(.a (.a Y0 (.n 1)) (.a Y1 (.a Y2 (.n 2)))),(.n 60000000)),(1,(.a Y3 (.a Y2 (.n 2))),Y1),(1,Y4,Y3)] (.a Y4 (.n 1)) (.n 67108864) rfl hB mm mm1
  dsimp only[BR,qS1,qS2,qS3,qE1,qE5,qE8,aU,cO,dm,bu,bS,aa,af,aH]
  refine ⟨IntMulOk.sm b1 hp (by exact lin [K,row.length*(L+2),L,suf.length*(L+2)] [(1,(.a (.a Y0 (.n 1)) (.a Y1 (.a Y2 (.n 2)))),(.n 60000000)),(1,(.a Y3 (.a Y2 (.n 2))),Y1)] (.a (.a Y0 (.n 1)) Y3) (.n 67108864) rfl hB mm) hL,IntMulOk.sm hdm b2 (by exact lin [K,row.length*(L+2),L] [(1,(.a (.a Y0 (.n 1)) (.a Y1 (.a Y2 (.n 2)))),(.n 60000000))] Y0 (.n 67108864) rfl hB) h2,IntMulOk.sm b2 hq h2 hL,?_⟩
  refine hk _ _ ⟨pre',d::suf,some (.int d),by rw[hr1,G0];rfl,rfl,?_,rfl⟩
  rw[tL,List.length_cons,Hr]
 ·intro ρ H' zr15;refine b8 (zr15) fun pre suf o hr1 hx zq21 zq22=>?_;subst zq21;subst zq22
  have hnil:pre=[]:=by
   have:=congrArg List.length hx
   simp at this;exact HI this.symm
  subst hnil
  rw[List.nil_append] at hr1
  subst hr1
  dsimp only[fh,vv,Ct,aN,aa,af]
  revert hQ
  generalize aw p q row=z
  intro hQ
  unfold sgn at hQ
  by_cases h1:z<0
  ·rw[if_pos h1] at hQ;rw[decide_eq_true h1];exact hQ
  ·rw[if_neg h1] at hQ;rw[decide_eq_false h1]
   by_cases h2:0<z
   ·rw[if_pos h2] at hQ;rw[decide_eq_true h2];exact hQ
   ·rw[if_neg h2] at hQ;rw[decide_eq_false h2];exact hQ
theorem iV{ng:PE}(hng:∀ (g:Int) (ρ:Loc) (H':Hp) (Z:V->Hp->Prop),af ρ 1=some (.int g)->Z (.int (-g)) H'->wpE sub (ag sub P n) ng ρ H' Z)(e:P[f]?=some ⟨1,3,vo dv ng⟩)
  (ed:∀ (a b:Int) (H':Hp) (Z:V->Hp->Prop) (X':Nat->Hp->Prop),Z (.int (a.gcd b:Nat)) H'->ag sub P n dv [.int a,.int b] H' Z X') {v:V}{row:List Int}{l:Int} (hv:items H v=some (row.map .int)) (hlast:row.getLast?=some l) (h0:l≠0) (hl:row.length<=1000)
  (hQ:Q (.lst H.length) (H++[(cv row l).map .int])):ag sub P (n+1) f [v] H Q X:=by
 have hmem:l∈row:=Hd hlast
 refine ao e rfl ?_
 dsimp only[vo,qS1,qS2,qS3,qS9,bw,dp,qE1,qE5,qE9,bx,aU,qI1,aD,aB,ay,ax,aO,aC,aq,aa,af,aH,Nat.reduceSub]
 refine ifSome.mk hv ?_
 refine bo (fun rest ρ H'=>∃td g o,rest=(td:List Int).map V.int/\ρ=[some v,some (.int ((g:Nat):Int)),o]/\H'=H/\br td g=br row 0) ?_ ?_ _ _ _ ⟨row,0,_,rfl,rfl,rfl,rfl⟩
 ·rintro x xs ρ H' k zI hk;obtain ⟨td,g,o,hx,rfl,rfl,hg⟩:=zI
  cases td with
  |nil=>cases hx
  |cons y td =>
   cases hx
   dsimp only[FK,qS1,qS2,qS3,qE5,aM,aA,az,aa,af,aH]
   refine ed _ _ _ _ _ ?_
   exact hk _ _ ⟨td,Nat.gcd g y.natAbs,_,rfl,rfl,rfl,hg⟩
 ·intro ρ H' zr16;refine b8 (zr16) fun td g o hx zq19 zq20 hg=>?_;subst zq19;subst zq20
  cases td with
  |cons y td=>cases hx
  |nil =>
   have hg':g=br row 0:=hg
   have hrl:1<=(row.map V.int).length:=by rw[GO];exact List.length_pos_of_mem hmem
   have hgp:=gm hmem h0
   have hok:pY (gOf row l):=fU hmem h0
   have key:∀o',wpE sub (ag sub P n) DV [some v,some (.int (gOf row l)),o'] H' Q:=fun o'=>by
    dsimp only[DV,qE5,qE8,f9,qI1,af,aa]
    refine ifSome.mk hv ⟨by rw[GO];unfold lim;exact lin [row.length] [(1,Y0,(.n 1000))] Y0 (.n 1000000) rfl hl,?_⟩
    refine ej (g:=fun x=>match x with | .int y=>V.int (y.fdiv (gOf row l)) |x=>x) (fun x hx k hk=>?_) ?_
    ·refine ae (Hq.mp hx) fun y _ zq108=>?_;subst zq108
     exact ⟨hok,hk⟩
    ·rw[Hw]
     unfold cv at hQ
     rw[Hw] at hQ
     exact hQ
   dsimp only[aa,af,aH,gV]
   refine ix3 (v:=.int l) hv (cq hrl) ?_ ?_
   ·rw[GO,Hj,<- Iq,hlast];rfl
   by_cases hn:l<0
   ·dsimp only[fh,aN,aa]
    rw[decide_eq_true hn]
    refine hng g _ _ _ rfl ?_
    have:gOf row l=-(g:Int):=by unfold gOf;rw[if_pos hn,hg']
    rw[this] at key
    exact key _
   ·dsimp only[fh,aN,aa]
    rw[decide_eq_false hn]
    have:gOf row l=(g:Int):=by unfold gOf;rw[if_neg hn,hg']
    rw[this] at key
    exact key _
end
end Mine
namespace Mine
noncomputable def ev(xs:List Int)(t:Int):Int:=aw t 1 xs
theorem bL(t:Int):ev [] t=0:=rfl
theorem aJ(c:Int)(r:List Int)(t:Int):ev (c::r) t=c+t*ev r t:=by
 unfold ev;rw[gR];grind
noncomputable def eU:List Int->List Int->List Int
 | [],ys=>ys
 |x::xs,[]=>x::xs
 |x::xs,y::ys=>(x+y)::eU xs ys
theorem kB(x y:Int)(xs ys:List Int):eU (x::xs) (y::ys)=(x+y)::eU xs ys:=rfl
theorem kj(ys:List Int):eU [] ys=ys:=rfl
theorem nI(x:Int)(xs:List Int):eU (x::xs) []=x::xs:=rfl
theorem fb(t:Int):∀xs ys:List Int,ev (eU xs ys) t=ev xs t+ev ys t
 | [],ys=>by rw[kj,bL];exact oqz [] [ev ys t] [] (.ie Y0 (0+Y0)) [1] rfl
 |x::xs,[]=>by rw[nI,bL];exact oqz [] [ev (x::xs) t] [] (.ie Y0 (Y0+0)) [1] rfl
 |x::xs,y::ys=>by rw[kB,aJ,aJ,aJ,fb t xs ys];grind
theorem bQ(c t:Int)(xs:List Int):ev (smul c xs) t=c*ev xs t:=bE t 1 c
noncomputable def cx:List Int->List Int->List Int
 | [],_=>[]
 |x::r,ys=>eU (smul x ys) (0::cx r ys)
theorem d5(x:Int)(r ys:List Int):cx (x::r) ys=eU (smul x ys) (0::cx r ys):=rfl
theorem km(ys:List Int):cx [] ys=[]:=rfl
theorem cM(t:Int):∀xs ys:List Int,ev (cx xs ys) t=ev xs t*ev ys t
 | [],ys=>by rw[km,bL];exact oqz [] [ev ys t] [] (.ie 0 (.m 0 Y0)) [1] rfl
 |x::r,ys=>by rw[d5,fb,bQ,aJ,aJ,cM t r ys];grind
theorem iY:∀xs ys:List Int,(eU xs ys).length=max xs.length ys.length
 | [],ys=>by rw[kj];simp
 |x::xs,[]=>by rw[nI];simp
 |x::xs,y::ys=>by rw[kB,List.length_cons,iY xs ys,List.length_cons,List.length_cons];exact oqz [max xs.length ys.length,xs.length,ys.length,max (xs.length+1) (ys.length+1)] [] [(.or (.an (.le Y2 Y1) (.eq Y0 Y1)) (.an (.le Y1 Y2) (.eq Y0 Y2))),(.or (.an (.le (Y2+1) (Y1+1)) (.eq Y3 (Y1+1))) (.an (.le (Y1+1) (Y2+1)) (.eq Y3 (Y2+1))))] (.eq (Y0+1) Y3) [101001,101011,1000101,1010101] rfl (Mine.fJ (xs.length) (ys.length)) (Mine.fJ (xs.length+1) (ys.length+1))
theorem dM:∀ {xs ys:List Int},xs≠[]->ys≠[]->(cx xs ys).length+1=xs.length+ys.length
 | [],_,h,_=>absurd rfl h
 | [x],ys,_,h=>by
  have:=HA.mpr h
  rw[d5,iY,aW,km];simp;exact oqz [max ys.length 1,ys.length] [] [(.le (0+1) Y1),(.or (.an (.le 1 Y1) (.eq Y0 Y1)) (.an (.le Y1 1) (.eq Y0 1)))] (.eq (Y0+1) (1+Y1)) [10001,10101,1001,1011] rfl this (Mine.fJ (ys.length) (1))
 |x::y::r,ys,_,h=>by
  have ih:=@dM (y::r) ys (Iw _ _) h
  rw[d5,iY,aW,List.length_cons,List.length_cons];exact oqz [max ys.length ((cx (y::r) ys).length+1),ys.length,(cx (y::r) ys).length,r.length] [] [(.eq (Y2+1) (Y3+1+Y1)),(.or (.an (.le (Y2+1) Y1) (.eq Y0 Y1)) (.an (.le Y1 (Y2+1)) (.eq Y0 (Y2+1))))] (.eq (Y0+1) (Y3+1+1+Y1)) [1100,100101,10011] rfl ih (Mine.fJ (ys.length) ((cx (y::r) ys).length+1))
noncomputable def Tr(xs:List Int):Prop:=∃l,xs.getLast?=some l/\l≠0
theorem Tr.ne{xs:List Int}(h:Tr xs):xs≠[]:=by
 refine ae (h) fun l e _=>?_
 intro h;rw[h] at e;cases e
theorem Tr.tl{x y:Int}{xs:List Int}(h:Tr (x::y::xs)):Tr (y::xs):=by
 refine ae (h) fun l e h=>?_
 rw[HX] at e;exact ⟨l,e,h⟩
theorem Tr.cons{x:Int}{xs:List Int}(h:Tr xs):Tr (x::xs):=by
 obtain ⟨l,e,h⟩:=h
 cases xs with
 |nil=>cases e
 |cons y r=>exact ⟨l,by rw[HX];exact e,h⟩
theorem Tr.one{x:Int}(h:x≠0):Tr [x]:=⟨x,rfl,h⟩
theorem Tr.of_one{x:Int}(h:Tr [x]):x≠0:=by refine ae (h) fun l e h=>?_;cases e;exact h
theorem Tr.mem{xs:List Int}(h:Tr xs):∃x∈xs,x≠0:=by
 refine ae (h) fun l e h=>?_
 exact ⟨l,Hd e,h⟩
theorem fK{c:Int}(hc:c≠0){xs:List Int}(h:Tr xs):Tr (smul c xs):=by
 refine ae (h) fun l e h=>?_
 refine ⟨c*l,?_,HF hc h⟩
 unfold smul;rw[IA,e];rfl
theorem mU{xs:List Int}(h:∀t,ev xs t=0):∀x∈xs,x=0:=dZ fun t _=>h t
theorem Tr.nz{xs:List Int}(h:Tr xs):∃t,ev xs t≠0:=HD fun hn=>by
 refine ae (h.mem) fun x hx h0=>?_
 exact h0 (mU (fun t=>HD fun ht=>hn ⟨t,ht⟩) x hx)
theorem gP:∀ {xs ys:List Int},(xs=[]\/Tr xs)->(ys=[]\/Tr ys)->(∀t,ev xs t=ev ys t)->xs=ys:=fun {xs ys} hx hy h=>by
 have hz:∀z∈eU xs (smul (-1) ys),z=0:=mU fun t=>by rw[fb,bQ,h];exact oqz [] [ev ys t,-1*ev ys t] [(.ie Y1 (.g (.m 1 Y0)))] (.ie (Y0+Y1) 0) [101,11] rfl (HC 1 (ev ys t))
 clear h
 induction xs generalizing ys with
 |nil =>
  rcases hy with rfl|hy
  ·rfl
  ·refine ae ((fK (c:=-1) (by decide) hy).mem) fun z h1 h2=>?_
   exact absurd (hz z h1) h2
 |cons x r ih =>
  cases ys with
  |nil =>
   rcases hx with h|hx
   ·cases h
   ·refine ae (hx.mem) fun z h1 h2=>?_
    exact absurd (hz z h1) h2
  |cons y s =>
   have h1:x+-1*y=0:=hz _ GW
   have h2:r=s:=ih (by
    cases r with
    |nil=>exact .inl rfl
    |cons a b=>exact .inr (hx.resolve_left (Iw _ _)).tl) (by
    cases s with
    |nil=>exact .inl rfl
    |cons a b=>exact .inr (hy.resolve_left (Iw _ _)).tl) fun z hz'=>hz z (G3 _ hz')
   rw[h2];congr 1;exact oqz [] [x,y,-1*y] [(.ie (Y0+Y2) 0),(.ie Y2 (.g (.m 1 Y1)))] (.ie Y0 Y1) [1101,10011] rfl h1 (HC 1 (y))
theorem mS:∀ {xs ys:List Int}{l:Int},xs.length<ys.length->ys.getLast?=some l->(eU xs ys).getLast?=some l
 | [],ys,l,_,h=>by rw[kj];exact h
 |x::xs,[],l,h,_=>absurd h (by simp)
 |x::xs,[y],l,h,_=>absurd h (by simp)
 |x::xs,y::z::ys,l,h,hl=>by
  rw[kB]
  have ih:=@mS xs (z::ys) l (by simp at h ⊢;exact oqz [xs.length,ys.length] [] [(.le (Y0+1) (Y1+1))] (.le (Y0+1) (Y1+1)) [11] rfl h) (by rw[HX] at hl;exact hl)
  cases e:eU xs (z::ys) with
  |nil=>rw[e] at ih;cases ih
  |cons a b=>rw[HX,<- e];exact ih
theorem ja:∀ {xs ys:List Int}{l m:Int},xs.getLast?=some l->ys.getLast?=some m->(cx xs ys).getLast?=some (l*m)
 | [],_,_,_,h,_=>by cases h
 | [x],ys,l,m,h,hm=>by
  obtain rfl:x=l:=G5 h
  have e:cx [x] ys=smul x ys:=by
   cases ys with
   |nil=>cases hm
   |cons y r =>
    rw[d5,km]
    show (x*y+0)::eU (smul x r) []=x*y::smul x r
    cases r with
    |nil=>show [x*y+0]=[x*y];rw[Hv]
    |cons a b=>show (x*y+0)::(x*a::smul x b)=_;rw[Hv];rfl
  rw[e];unfold smul;rw[IA,hm];rfl
 |x::y::r,ys,l,m,h,hm=>by
  rw[HX] at h
  have ih:=ja h hm
  have hne:ys≠[]:=by intro h;rw[h] at hm;cases hm
  have hl:=@dM (y::r) ys (Iw _ _) hne
  rw[d5]
  refine mS ?_ ?_
  ·rw[aW,List.length_cons];rw[List.length_cons] at hl;exact oqz [ys.length,(cx (y::r) ys).length,r.length] [] [(.eq (Y1+1) (Y2+1+Y0))] (.le (Y0+1) (Y1+1)) [101] rfl hl
  ·cases e:cx (y::r) ys with
   |nil=>rw[e] at ih;cases ih
   |cons a b=>rw[HX,<- e];exact ih
theorem j9{xs ys:List Int}(h1:Tr xs)(h2:Tr ys):Tr (cx xs ys):=by
 refine ae (h1) fun l e h=>?_
 refine ae (h2) fun m e' h'=>?_
 exact ⟨_,ja e e',HF h h'⟩
noncomputable def PF(f:Int->Int):Prop:=∃xs,∀t,f t=ev xs t
theorem PF.ev(xs:List Int):PF (ev xs):=⟨xs,fun _=>rfl⟩
theorem PF.const(c:Int):PF (fun _=>c):=⟨[c],fun t=>by rw[aJ,bL];dsimp only;exact oqz [] [c,t] [] (.ie Y0 (.a Y0 (.r Y1 0))) [1] rfl⟩
theorem PF.id:PF (fun t=>t):=⟨[0,1],fun t=>by rw[aJ,aJ,bL];dsimp only;omega⟩
theorem PF.add{f g:Int->Int}(h1:PF f)(h2:PF g):PF (fun t=>f t+g t):=by
 obtain ⟨xs,h1⟩:=h1
 obtain ⟨ys,h2⟩:=h2
 exact ⟨eU xs ys,fun t=>by dsimp only;rw[fb,h1,h2]⟩
theorem PF.mul{f g:Int->Int}(h1:PF f)(h2:PF g):PF (fun t=>f t*g t):=by
 obtain ⟨xs,h1⟩:=h1
 obtain ⟨ys,h2⟩:=h2
 exact ⟨cx xs ys,fun t=>by dsimp only;rw[cM,h1,h2]⟩
theorem PF.smul(c:Int){f:Int->Int}(h1:PF f):PF (fun t=>c*f t):=(PF.const c).mul h1
theorem PF.neg{f:Int->Int}(h1:PF f):PF (fun t=>- f t):=by
 obtain ⟨xs,h1⟩:=h1
 exact ⟨Mine.smul (-1) xs,fun t=>by dsimp only;rw[bQ,h1];exact oqz [] [Mine.ev xs t,-1*Mine.ev xs t] [(.ie Y1 (.g (.m 1 Y0)))] (.ie (.g Y0) Y1) [11,101] rfl (HC 1 (Mine.ev xs t))⟩
theorem PF.sub{f g:Int->Int}(h1:PF f)(h2:PF g):PF (fun t=>f t-g t):=by
 obtain ⟨xs,h⟩:=h1.add h2.neg
 exact ⟨xs,fun t=>by rw[<- h];dsimp only;exact oqz [] [f t,g t] [] (.ie (.s Y0 Y1) (.a Y0 (.g Y1))) [1] rfl⟩
theorem r5:∀n:Nat,PF (fun t=>t^n)
 |0=>⟨[1],fun t=>by dsimp only;rw[aJ,bL,HH];exact oqz [] [t] [] (.ie 1 (.a 1 (.r Y0 0))) [1] rfl⟩
 |n+1=>by
  obtain ⟨xs,h⟩:=(r5 n).mul PF.id
  exact ⟨xs,fun t=>by rw[<- h];exact Hr _ _⟩
theorem FD:∀xs:List Int,∃ys,(ys=[]\/Tr ys)/\∀t,ev xs t=ev ys t
 | []=>⟨[],.inl rfl,fun _=>rfl⟩
 |x::r=>by
  refine ae (FD r) fun ys h e=>?_
  rcases h with rfl|h
  ·by_cases hx:x=0
   ·exact ⟨[],.inl rfl,fun t=>by rw[aJ,e,hx,bL];exact oqz [] [t] [] (.ie (.a 0 (.r Y0 0)) 0) [1] rfl⟩
   ·exact ⟨[x],.inr (.one hx),fun t=>by rw[aJ,aJ,e]⟩
  ·exact ⟨x::ys,.inr h.cons,fun t=>by rw[aJ,aJ,e]⟩
theorem PF.tr{f:Int->Int}(h:PF f)(h0:∃t,f t≠0):∃xs,Tr xs/\∀t,f t=Mine.ev xs t:=by
 obtain ⟨xs,e⟩:=h
 refine ae (FD xs) fun ys h e'=>?_
 rcases h with rfl|h
 ·obtain ⟨t,ht⟩:=h0
  exact absurd (by rw[e,e',bL]) ht
 ·exact ⟨ys,h,fun t=>by rw[e,e']⟩
noncomputable def Dv(f g:Int->Int):Prop:=∃ (c:Int) (h:Int->Int),c≠0/\PF h/\∀t,c*g t=f t*h t
theorem Dv.zero(f:Int->Int):Dv f (fun _=>0):=⟨1,fun _=>0,by decide,.const 0,fun t=>by dsimp only;exact oqz [] [f t] [] (.ie (.m 1 0) (.r Y0 0)) [1] rfl⟩
theorem Dv.comb{f g h k u v:Int->Int}{c:Int}(h1:Dv f g)(h2:Dv f h)(pu:PF u)(pv:PF v)(hc:c≠0)(e:∀t,c*k t=u t*g t+v t*h t):Dv f k:=by
 refine aF (h1) fun a x ha px e1=>?_
 refine aF (h2) fun b y hb py e2=>?_
 refine ⟨a*b*c,fun t=>b*(u t*x t)+a*(v t*y t),HF (HF ha hb) hc,((pu.mul px).smul b).add ((pv.mul py).smul a),fun t=>?_⟩
 have:=e t;have:=e1 t;have:=e2 t;grind
end Mine
namespace Mine
open Re
noncomputable def evR:List Int->Re->Re
 | [],_=>0
 |c::r,t=>(c:Re)+t*evR r t
theorem aP(c:Int)(r:List Int)(t:Re):evR (c::r) t=(c:Re)+t*evR r t:=rfl
theorem dE(t:Re):evR [] t=0:=rfl
theorem gp(t:Re):∀xs ys:List Int,evR (eU xs ys) t=evR xs t+evR ys t
 | [],ys=>by rw[kj,dE];grind
 |x::xs,[]=>by rw[nI];show _=_+(0:Re);grind
 |x::xs,y::ys=>by rw[kB,aP,aP,aP,gp t xs ys,ba];grind
theorem bG(c:Int)(t:Re):∀xs:List Int,evR (smul c xs) t=c*evR xs t
 | []=>by show (0:Re)=c*0;grind
 |x::xs=>by
  have:smul c (x::xs)=(c*x)::smul c xs:=rfl
  rw[this,aP,aP,bG c t xs,au];grind
theorem d8(t:Re):∀xs ys:List Int,evR (cx xs ys) t=evR xs t*evR ys t
 | [],ys=>by rw[km,dE];grind
 |x::r,ys=>by rw[d5,gp,bG,aP,aP,d8 t r ys,aE];grind
theorem i9(q:Int):∀n:Nat,((q^n:Int):Re)=(q:Re)^n
 |0=>by rw[HH,GT];rfl
 |n+1=>by rw[Hr,au,i9 q n];grind
theorem fv{p q:Int}{t:Re}(h:(q:Re)*t=p):∀ (xs:List Int) (c:Int),((aw p q (c::xs):Int):Re)=(q:Re)^xs.length*evR (c::xs) t
 | [],c=>by
  show ((0*p+c*q^0:Int):Re)=(q:Re)^0*((c:Re)+t*0)
  simp only[ba,au,i9,aE];grind
 |d::ys,c=>by
  show ((aw p q (d::ys)*p+c*q^(ys.length+1):Int):Re)=(q:Re)^(ys.length+1)*((c:Re)+t*evR (d::ys) t)
  rw[ba,au,au,i9,fv h ys d,<- h];grind
noncomputable def rq(p q:Int):Re:=Re.mk (.ofRat ((p:Rat) / q))
theorem dw{p q:Int}(h:q≠0):(q:Re)*rq p q=p:=fO (x:=(Sq.ofRat (q:Rat)).mul (.ofRat ((p:Rat) / q))) (y:=.ofRat (p:Rat)) fun _=>by
 show (q:Rat)*((p:Rat) / q)=p
 have:(q:Rat)≠0:=fun e=>h (Rat.intCast_inj.mp e)
 rw[Rat.mul_comm,Rat.div_def,Rat.mul_assoc,Rat.inv_mul_cancel _ this,Rat.mul_one]
structure CA (row:List Int)(lo hi al:Re)(σ:Int):Prop where
 l:lo<al
 u:al<hi
 sg:σ=1\/σ=-1
 val:∀t,lo<=t->t<=hi->rsg (evR row t)=σ*rsg (t-al)
theorem jw{r a b:Re}(hr:0<r)(h:r*a<r*b):a<b:=by
 rcases aS (b-a) with g|g|g
 ·grind
 ·have:=mul_pos hr (show 0<a-b by grind);grind
 ·have:a=b:=by grind
  rw[this] at h;grind
end Mine
namespace Mine
open PySem
theorem qx(n:Nat):dx ((n:Int)-1) (-1) (-1)=(List.range n).reverse.map fun (i:Nat)=>(i:Int):=by
 have hsz:(Builtin.Range.rangeSize ((n:Int)-1) (-1) (-1)).toNat=n:=by
  unfold Builtin.Range.rangeSize
  simp
  first|done|exact oqz [(if -1 < ↑n-1 then ↑n else 0).toNat,n] [if -1 < ↑n-1 then ↑n else 0] [(.or (.an (.il (.a (.g 1) 1) (.s (.c Y1) 1)) (.ie Y0 (.c Y1))) (.an (.no (.il (.a (.g 1) 1) (.s (.c Y1) 1))) (.ie Y0 0))),(otn Y0 Y0)] (.eq Y0 Y1) [1001001,11001,11,100101,100011] rfl (Mine.qH (-1 < ↑n-1) (↑n) (0)) (aQ (if -1 < ↑n-1 then ↑n else 0)) | (split <;> omega)
 unfold dx
 rw[hsz]
 apply List.ext_getElem
 ·simp
 ·intro i h1 h2
  simp at h1 h2
  simp
  exact oqz [n,i,n-1-i,n-1] [] [(.le (Y1+1) Y0),(osb Y0 1 Y3),(osb Y3 Y1 Y2)] (.ie (.a (.s (.c Y0) 1) (.g (.c Y1))) (.c Y2)) [10010001,1000011,10001011,1001001,101001,101] rfl h1 (am (n) (1)) (am (n-1) (i))
theorem Fw{n:Nat}{H:Hp}{Q:List V->Option Nat->Hp->Prop}(hn:n<=900)(h:Q ((List.range n).reverse.map fun (i:Nat)=>V.int (i:Int)) none H):oZ [.int ((n:Int)-1),.int (-1),.int (-1)] H Q:=by
 refine ⟨(n:Int)-1,-1,-1,rfl,aK (by exact oqz [n] [] [] (.il (.g 1000000) (.s (.c Y0) 1)) [1] rfl) (by exact oqz [n] [] [(.le Y0 900)] (.il (.s (.c Y0) 1) 1000000) [11] rfl hn),aK (by decide) (by decide),.inr (.inl rfl),?_⟩
 rw[qx,Hw];exact h
section
variable {sub:Nat->Nat->Bool}{P:List Fn}{n:Nat}{H:Hp}{Q:V->Hp->Prop}{X:Nat->Hp->Prop}
theorem oB(zT:TT P){v:V}{row:List Int}{p q:Int}{K L:Nat}(hm:items H v=some (row.map .int))(hl:row.length<=900)(hr:AllSm K row)(hp:Sm L p)(hq:Sm L q)(hB:K+1+(row.length+1)*(L+2)<=60000000)
  (hQ:Q (.int (aw p q row)) H):ag sub P (n+1) 41 [v,.tup [.int p,.int q]] H Q X:=by
 refine ao zT.a41 rfl ?_
 dsimp only[CY,qS1,qS2,qS3,qS9,dp,qE1,qE5,qE8,qE9,b6,aA,az,qI3,e6,rY,aD,aB,ay,ax,aO,aC,aq,aa,af,aH,Nat.reduceSub]
 refine ifSome.mk hm ?_
 rw[GO]
 refine Fw hl ?_
 refine bo (fun rest ρ H'=>∃pre suf o,row=pre++suf/\rest=(List.range (pre:List Int).length).reverse.map (fun (i:Nat)=>V.int (i:Int))/\ρ=[some v,some (.tup [.int p,.int q]),some (.int (aw p q suf)),some (.int (q^suf.length)),o]/\H'=H) ?_ ?_ _ _ _ ⟨row,[],none,(List.append_nil _).symm,rfl,by rw[List.length_nil,HH];rfl,rfl⟩
 ·rintro x xs ρ H' k zI hk;obtain ⟨pre,suf,o,hr1,hx,rfl,rfl⟩:=zI
  rcases Jp pre with rfl | ⟨pre',d,rfl⟩
  ·cases hx
  rw[Jq] at hr1 hx
  rw[GR,G8,List.range_succ,JY] at hx
  cases hx
  have hy:(row.map V.int)[pre'.length]?=some (.int d):=by
   rw[hr1,G0,G9]
   have:=ai (pre'.map V.int) (V.int d) (suf.map V.int);rwa [GO] at this
  have hdl:pre'.length<(row.map V.int).length:=by rw[hr1];simp
  have hsl:suf.length+1<=row.length:=by rw[hr1,GR,GR,G8];exact oqz [suf.length,pre'.length] [] [] (.le (Y0+1) (Y1+1+Y0)) [1] rfl
  have hsf:AllSm K suf:=fun y hy=>hr y (by rw[hr1];simp[hy])
  have hdm:Sm K d:=hr d (by rw[hr1];simp)
  have b1:=fS hp hq hsf
  have b2:=hq.pow suf.length
  have mm:(suf.length+1)*(L+2)<=row.length*(L+2):=HM _ hsl
  rw[IX] at mm hB
  have mm1:L*suf.length<=suf.length*(L+2):=by rw[IY];exact Hu _ (by exact oqz [L] [] [] (.le Y0 (Y0+2)) [1] rfl)
  have hL:L<=67108864:=oqz [L,K,row.length*(L+2)] [] [(.le (Y1+1+(Y2+(Y0+2))) 60000000)] (.le Y0 67108864) [11] rfl hB
  have h2:L*suf.length+1<=67108864:=oqz [L*suf.length,K,row.length*(L+2),L,suf.length*(L+2)] [] [(.le (Y1+1+(Y2+(Y3+2))) 60000000),(.le (Y4+(Y3+2)) Y2),(.le Y0 Y4)] (.le (Y0+1) 67108864) [1111] rfl hB mm mm1
  dsimp only[Fe,qS1,qS2,qS3,qE1,qE5,qE8,aU,dm,bu,bS,gV,aa,af,aH]
  refine ⟨IntMulOk.sm b1 hp (by exact oqz [K,suf.length*(L+2),row.length*(L+2),L] [] [(.le (Y0+1+(Y2+(Y3+2))) 60000000),(.le (Y1+(Y3+2)) Y2)] (.le (Y0+1+Y1) 67108864) [111] rfl hB mm) hL,?_⟩
  refine ix3 hm (aG hdl) hy ⟨IntMulOk.sm hdm b2 (by exact oqz [K,row.length*(L+2),L] [] [(.le (Y0+1+(Y1+(Y2+2))) 60000000)] (.le Y0 67108864) [11] rfl hB) h2,IntMulOk.sm b2 hq h2 hL,?_⟩
  refine hk _ _ ⟨pre',d::suf,some (.int (pre'.length:Int)),by rw[hr1,G0];rfl,rfl,?_,rfl⟩
  rw[tL,List.length_cons,Hr]
 ·intro ρ H' zr17;refine b8 (zr17) fun pre suf o hr1 hx zq25 zq26=>?_;subst zq25;subst zq26
  have hnil:pre=[]:=by
   have:=congrArg List.length hx
   simp at this;exact HI this.symm
  subst hnil
  rw[List.nil_append] at hr1
  subst hr1
  exact hQ
theorem iD(zT:TT P){p q:Int}{k:Nat}(a:Low k p q)(hQ:Q (.bool true) H):ag sub P (n+3) 45 [.tup [.int p,.int q]] H Q X:=by
 refine ao zT.a45 rfl ?_
 dsimp only[nP,qS1,qS2,qS9,bw,qE1,qE2,qE5,jh,bx,lZ,iP,aM,b6,w8,aU,aA,az,bX,vv,jR,eF,bu,bS,aN,aD,aB,ay,ax,aC,aq,fq,aR,du,gf,E8,aa,af,Nat.reduceSub,Nat.reduceAdd,List.length_nil]
 refine ifSome.mk (v:=[true]) rfl ?_
 refine (if_pos (show (![true].any id)=false from rfl)).mpr ?_
 refine oj zT ?_
 dsimp only[aN,aR,du,gf,aa]
 refine oj zT ?_
 dsimp only[aN,aR,gf,aa]
 rw[decide_eq_true a.pos]
 dsimp only[aX]
 refine yo zT a.pos fun p' q' e1 e2=>?_
 rw[a.one] at e1 e2
 have h1:p'=p:=by rw[<- e1];exact (H7 _).symm
 have h2:q'=q:=by rw[<- e2];exact (H7 _).symm
 subst h1 h2
 dsimp only[EY]
 refine .inl (uL ?_)
 rw[decide_eq_true ⟨rfl,rfl⟩];exact hQ
theorem jL{step:V->Hp->(Option V->Hp->Prop)->Prop}{H:Hp}:∀ {xs:List V}{Q:List V->Hp->Prop},(∀x∈xs,∀k:Option V->Hp->Prop,k none H->step x H k)->Q [] H->cZ step xs H Q
 | [],_,_,h=>h
 |x::xs,Q,hs,h=>hs x GW _ (jL (fun y hy=>hs y (G3 _ hy)) h)
structure ud (k m:Nat)(row:List Int)(l p1 q1 p2 q2:Int):Prop where
 len:2<=row.length
 len':row.length<=100
 last:row.getLast?=some l
 pos:0<l
 one:br row 0=1
 sm:AllSm k row
 low:Low m p1 q1
 high:Low m p2 q2
 lt:p1*q2<p2*q1
 v1:aw p1 q1 row≠0
 v2:aw p2 q2 row≠0
 tv:Mine.tv 0 (hs (p1*q2) (p2*q1) (q1*q2) row)=1
theorem zu(zT:TT P){row:List Int}{l p1 q1 p2 q2:Int}{k m:Nat}(hk:k<=200000)(hm:m<=2000000)(h13:row.length<=13)(I:ud k m row l p1 q1 p2 q2)(hQ:∀H',H<+:H'->Q (.bool true) H') :
  ag sub P (n+4) 46 [.tup [.tup (row.map .int),.tup [.int p1,.int q1],.tup [.int p2,.int q2]]] H Q X:=by
 have hl1:1<=row.length:=GP (by decide) I.len
 have kk:m<=67108864:=GP hm (by decide)
 have hB:k+(m+m)+2+row.length*((m+m)+2)<=60000000:=by
  have:=HP h13 (show (m+m)+2<=4000002 by exact oqz [m] [] [(.le Y0 2000000)] (.le (Y0+Y0+2) 4000002) [21] rfl hm);clear hQ I;exact oqz [k,m,row.length*(m+m+2)] [] [(.le Y0 200000),(.le Y1 2000000),(.le Y2 52000026)] (.le (Y0+(Y1+Y1)+2+Y2) 60000000) [1211] rfl hk hm this
 have hBv:k+1+(row.length+1)*(m+2)<=60000000:=by
  have:=HP (show row.length+1<=14 by exact oqz [row.length] [] [(.le Y0 13)] (.le (Y0+1) 14) [11] rfl h13) (show m+2<=2000002 by exact oqz [m] [] [(.le Y0 2000000)] (.le (Y0+2) 2000002) [11] rfl hm);clear hQ I;exact oqz [k,(row.length+1)*(m+2)] [] [(.le Y0 200000),(.le Y1 28000028)] (.le (Y0+1+Y1) 60000000) [111] rfl hk this
 have hl9:row.length<=900:=GP I.len' (by decide)
 have m12:=IntMulOk.sm I.low.top I.high.bot kk kk
 have m21:=IntMulOk.sm I.high.top I.low.bot kk kk
 have mqq:=IntMulOk.sm I.low.bot I.high.bot kk kk
 refine ao zT.a46 rfl ?_
 dsimp only[rA,qS1,qS2,qS3,qS9,bw,qE1,qE2,qE5,qE8,qE9,jh,bx,iP,aM,b6,w8,aU,aA,az,bX,dm,fh,oK,jR,eF,cJ,i7,bu,bS,cE,bJ,bI,cu,aN,my,aD,aB,ay,ax,aO,aC,aq,fq,aa,af,aH,Nat.reduceSub,Nat.reduceAdd,List.length_nil]
 refine ifSome.mk (v:=[true]) rfl ?_
 refine (if_pos (show (![true].any id)=false from rfl)).mpr ?_
 refine (if_pos (show (!decide ((([V.tup (row.map .int),V.tup [.int p1,.int q1],V.tup [.int p2,.int q2]].length:Nat):Int)=3))=false from rfl)).mpr ?_
 refine ifSome.mk (v:=[true]) rfl ?_
 dsimp only[gf,CF]
 have hr:(H++[row.map V.int])[H.length]?=some (row.map V.int):=ai _ _ _
 refine ifSome.mk hr ?_
 rw[GO,decide_eq_false (show ¬ ((row.length:Nat):Int)<2 by have:=I.len;exact oqz [row.length] [] [(.le 2 Y0)] (.no (.il (.a (.c Y0) 1) 2)) [11] rfl this)]
 dsimp only[zWh,qE5,jh,aM,f9,aA,az,qO2,qI1,vv,cJ,aN,dc,cg,ay,ax,aR,du,aa,af]
 refine ifSome.mk hr ⟨by rw[GO];exact GP I.len' (by decide),?_⟩
 refine jL (fun x hx k' hk'=>?_) ?_
 ·refine ae (Hq.mp hx) fun y _ zq110=>?_;subst zq110
  exact oj zT hk'
 refine ifSome.mk (v:=[]) (ai _ _ _) ?_
 dsimp only[List.length_nil]
 have hp1:H++[row.map V.int]<+:H++[row.map V.int]++[[]]:=aj _ _
 refine (if_pos (show decide ((0:Int)<((0:Nat):Int))=false from rfl)).mpr ?_
 refine ix3 (v:=.int l) (av hp1 hr) (cq (by rw[GO];exact hl1)) ?_ ?_
 ·rw[GO,Hj,<- Iq,I.last];rfl
 dsimp only[fh,aN,aa]
 rw[decide_eq_false (show ¬ l<1 by have:=I.pos;exact oqz [] [l] [(.il (0+1) Y0)] (.no (.il (Y0+1) 1)) [11] rfl this)]
 dsimp only[aR,Fj,qS1,qS2,qS3,qS9,bw,qE1,qE2,qE5,qE8,qE9,jh,bx,iP,aM,b6,w8,aU,aA,az,bX,dm,fh,oK,jR,eF,cJ,i7,bu,bS,cE,bJ,bI,cu,aN,my,aD,aB,ay,ax,aO,aC,aq,fq,aa,af,aH,Nat.reduceSub,Nat.reduceAdd,List.length_nil]
 refine iV (n:=n+2) (fun g ρ H' Z hg hz=>?_) zT.a40 (fun a b H' Z X' hz=>vI zT hz) (v:=.lst H.length) (av hp1 hr) I.last (GY I.pos) (GP I.len' (by decide)) ?_
 ·dsimp only[ngL,qE1,qE5,qE8]
  refine ifSome.mk hg ?_
  show Z (.int (0-g)) H'
  rw[Int.zero_sub];exact hz
 rw[oI I.one I.pos]
 dsimp only[FJ,aN,aa]
 generalize hH2:H++[row.map V.int]++[[]]=H2 at hp1
 have hr2:H2[H.length]?=some (row.map V.int):=av hp1 hr
 have hp0:H<+:H2:=ah (aj _ _) hp1
 refine mI (ai _ _ _) (av (aj _ _) hr2) ?_
 rw[decide_eq_true rfl]
 dsimp only[aR,du,gf]
 refine iD zT I.low ?_
 dsimp only[aN,aR,du,gf,aa]
 refine iD zT I.high ?_
 dsimp only[aR,gf,FS,qS1,qS2,qS3,qS9,bw,qE1,qE2,qE5,qE8,qE9,jh,bx,iP,aM,b6,w8,aU,aA,az,bX,dm,fh,oK,jR,eF,cJ,i7,bu,bS,cE,bJ,bI,cu,aN,my,aD,aB,ay,ax,aO,aC,aq,fq,aa,af,aH,Nat.reduceSub,Nat.reduceAdd,List.length_nil]
 have hr3:(H2++[row.map V.int])[H.length]?=some (row.map V.int):=av (aj _ _) hr2
 refine oB zT (v:=.lst _) hr3 hl9 I.sm I.low.top I.low.bot hBv ?_
 refine oB zT (v:=.lst _) hr3 hl9 I.sm I.high.top I.high.bot hBv ?_
 dsimp only[dQ,aN,aa]
 refine ⟨m12,m21,?_⟩
 rw[decide_eq_false (IM.mpr I.lt),decide_eq_false I.v1,decide_eq_false I.v2]
 dsimp only[aR,du]
 refine qm zT hr3 hl9 I.sm (I.low.top.mul I.high.bot) (I.high.top.mul I.low.bot) (I.low.bot.mul I.high.bot) m12 m21 mqq hB fun H4 hp4=>?_
 rw[I.tv]
 exact hQ _ (ah (ah hp0 (aj _ _)) hp4)
end
end Mine
namespace Mine
theorem kT:∀ (r:List Int) (g d:Nat),d ∣ g->(∀x∈r,d ∣ x.natAbs)->d ∣ br r g
 | [],g,d,h,_=>h
 |x::r,g,d,h,hx=>kT r _ d (Nat.dvd_gcd h (hx x GW)) fun y hy=>hx y (G3 _ hy)
theorem zU{xs:List Int}(h:∀d:Nat,(∀x∈xs,(d:Int) ∣ x)->d=1):br xs 0=1:=
 h _ fun x hx=>Iu.mp (by rw[IK];exact (iJ xs 0).2 x hx)
theorem pM{xs:List Int}(h:br xs 0=1){d:Nat}(hd:∀x∈xs,(d:Int) ∣ x):d=1:=by
 have:=kT xs 0 d (Nat.dvd_zero d) fun x hx=>by
  have:=Iu.mpr (hd x hx)
  rwa [IK] at this
 rw[h] at this
 exact Nat.dvd_one.mp this
noncomputable def Pr(p:Nat):Prop:=1<p/\∀a,a ∣ p->a=1\/a=p
theorem jm:∀ (n d:Nat),d<=n->d≠1->∃p,Pr p/\p ∣ d
 |0,d,h,_=>by
  obtain rfl:d=0:=oqz [d] [] [(.le Y0 0)] (.eq Y0 0) [11] rfl h
  refine ⟨2,⟨by decide,fun a ha=>?_⟩,Nat.dvd_zero 2⟩
  have:=Nat.le_of_dvd (by decide) ha
  rcases Nat.lt_or_ge a 2 with h|h
  ·by_cases h0:a=0
   ·subst h0;rw[Nat.zero_dvd] at ha;exact oqz [] [] [(.eq 2 0)] (.or (.eq 0 1) (.eq 0 2)) [100] rfl ha
   ·left;exact oqz [a] [] [(.le (Y0+1) 2),(.no (.eq Y0 0))] (.eq Y0 1) [101,11] rfl h h0
  ·right;exact oqz [a] [] [(.le Y0 2),(.le 2 Y0)] (.eq Y0 2) [101,11] rfl this h
 |n+1,d,h,h1=>by
  by_cases h0:d=0
  ·exact jm n d (by exact oqz [d,n] [] [(.eq Y0 0)] (.le Y0 Y1) [11] rfl h0) h1
  by_cases hp:∀a,a ∣ d->a=1\/a=d
  ·exact ⟨d,⟨by exact oqz [d] [] [(.no (.eq Y0 1)),(.no (.eq Y0 0))] (.le (1+1) Y0) [110,11] rfl h1 h0,hp⟩,Nat.dvd_refl d⟩
  ·obtain ⟨a,ha⟩:=Classical.not_forall.mp hp
   obtain ⟨hd,ha⟩:=Classical.not_imp.mp ha
   have hle:=Nat.le_of_dvd (by exact oqz [d] [] [(.no (.eq Y0 0))] (.le (0+1) Y0) [11] rfl h0) hd
   refine ae (jm n a (by exact oqz [a,n,d] [] [(.le Y2 (Y1+1)),(.le Y0 Y2),(.no (.or (.eq Y0 1) (.eq Y0 Y2)))] (.le Y0 Y1) [10011,10100] rfl h hle ha) (by exact oqz [a,d] [] [(.no (.or (.eq Y0 1) (.eq Y0 Y1)))] (.no (.eq Y0 1)) [110,101] rfl ha)) fun p h2 h3=>?_
   exact ⟨p,h2,Nat.dvd_trans h3 hd⟩
theorem Pr.mul{p:Nat}(h:Pr p){x y:Int}(hd:(p:Int) ∣ x*y):(p:Int) ∣ x\/(p:Int) ∣ y:=by
 have hd':p ∣ x.natAbs*y.natAbs:=by
  have:=Iu.mpr hd
  rwa [IK,HU] at this
 have back:∀ {z:Int},p ∣ z.natAbs->(p:Int) ∣ z:=fun hz=>Iu.mp (by rw[IK];exact hz)
 rcases h.2 _ (Nat.gcd_dvd_left p x.natAbs) with h1|h1
 ·exact .inr (back (Nat.Coprime.dvd_of_dvd_mul_left h1 hd'))
 ·exact .inl (back (by rw[<- h1];exact Nat.gcd_dvd_right _ _))
noncomputable def AD(p:Int)(xs:List Int):Prop:=∀x∈xs,p ∣ x
theorem AD.cons{p x:Int}{xs:List Int}(h:p ∣ x)(h':AD p xs):AD p (x::xs):=fun y hy=>by
 rcases Hf.mp hy with rfl|hy
 ·exact h
 ·exact h' y hy
theorem AD.hd{p x:Int}{xs:List Int}(h:AD p (x::xs)):p ∣ x:=h x GW
theorem AD.tl{p x:Int}{xs:List Int}(h:AD p (x::xs)):AD p xs:=fun y hy=>h y (G3 _ hy)
theorem AD.smul{p c:Int}{xs:List Int}(h:p ∣ c):AD p (Mine.smul c xs):=fun x hx=>by
 refine ae (Hq.mp hx) fun y _ zq145=>?_;subst zq145
 exact Int.dvd_mul_of_dvd_left h
theorem AD.of_add{p:Int}:∀ {xs ys:List Int},AD p (eU xs ys)->AD p xs->AD p ys
 | [],ys,h,_=>h
 |x::xs,[],_,_=>fun _ h=>nomatch h
 |x::xs,y::ys,h,h1=>.cons (by
   have h2:p ∣ x+y:=AD.hd (show AD p ((x+y)::eU xs ys) from h)
   exact (Int.dvd_add_right h1.hd).mp h2) (AD.of_add (AD.tl (show AD p ((x+y)::eU xs ys) from h)) h1.tl)
theorem qQ{x y:Int}{r s:List Int}(hs:s≠[]):cx (x::r) (y::s)=eU (smul y (x::r)) (0::cx (x::r) s):=by
 refine lS ?_ fun t=>?_
 ·have h1:=@dM (x::r) (y::s) (Iw _ _) (Iw _ _)
  have h2:=@dM (x::r) s (Iw _ _) hs
  have h3:=HA.mpr hs
  rw[iY,aW]
  simp only[List.length_cons] at h1 h2 ⊢
  exact oqz [(cx (x::r) (y::s)).length,max (r.length+1) ((cx (x::r) s).length+1),r.length,(cx (x::r) s).length,s.length] [] [(.eq (Y0+1) (Y2+1+(Y4+1))),(.eq (Y3+1) (Y2+1+Y4)),(.or (.an (.le (Y3+1) (Y2+1)) (.eq Y1 (Y2+1))) (.an (.le (Y2+1) (Y3+1)) (.eq Y1 (Y3+1))))] (.eq Y0 Y1) [1000101,1001101,10110011,10010011] rfl h1 h2 (Mine.fJ (r.length+1) ((cx (x::r) s).length+1))
 ·show ev _ t=ev _ t
  rw[cM,fb,bQ,aJ,aJ,aJ,cM,aJ];grind
theorem xI{p:Nat}(hp:Pr p){x:Int}{r:List Int}(hx:¬ (p:Int) ∣ x):∀ {ys:List Int},AD p (cx (x::r) ys)->AD p ys
 | [],_=>fun _ h=>nomatch h
 | [y],h=>.cons (by
   have h1:(p:Int) ∣ x*y+0:=h _ (by rw[d5];exact GW)
   rw[Hv] at h1
   exact (hp.mul h1).resolve_left hx) (fun _ h=>nomatch h)
 |y::z::s,h=>by
  have h1:(p:Int) ∣ x*y+0:=h _ (by rw[d5];exact GW)
  rw[Hv] at h1
  have hy:=(hp.mul h1).resolve_left hx
  rw[qQ (Iw _ _)] at h
  exact .cons hy (xI hp hx (h.of_add (.smul hy)).tl)
theorem xR{p:Nat}(hp:Pr p):∀ {xs ys:List Int},AD p (cx xs ys)->AD p xs\/AD p ys
 | [],_,_=>.inl fun _ h=>nomatch h
 |x::r,ys,h=>by
  by_cases hx:(p:Int) ∣ x
  ·rcases xR hp (show AD p (cx r ys) from (AD.of_add (by rw[d5] at h;exact h) (.smul hx)).tl) with h1|h1
   ·exact .inl (.cons hx h1)
   ·exact .inr h1
  ·exact .inr (xI hp hx h)
theorem FN{xs ys:List Int}(h1:br xs 0=1)(h2:br ys 0=1):br (cx xs ys) 0=1:=zU fun d hd=>HD fun hn=>by
 refine ae (jm d d (GU d) hn) fun p hp hpd=>?_
 have hpd':(p:Int) ∣ (d:Int):=Int.natCast_dvd_natCast.mpr hpd
 have hA:AD p (cx xs ys):=fun x hx=>Int.dvd_trans hpd' (hd x hx)
 have hp1:=hp.1
 rcases xR hp hA with h|h
 ·have:=pM h1 h;exact oqz [p] [] [(.le (1+1) Y0),(.eq Y0 1)] .ff [11] rfl hp1 this
 ·have:=pM h2 h;exact oqz [p] [] [(.le (1+1) Y0),(.eq Y0 1)] .ff [11] rfl hp1 this
theorem fH{c:Int}{xs:List Int}:br (smul c xs) 0=br xs 0*c.natAbs:=by
 have:=lR c.natAbs xs c 0 rfl
 rw[Nat.zero_mul,nL] at this;exact this
theorem AA{xs ys:List Int}{l m a b:Int}(g1:br xs 0=1)(g2:br ys 0=1)(l1:xs.getLast?=some l)(l2:ys.getLast?=some m)(p1:0<l)(p2:0<m)(ha:a≠0)(hb:b≠0)(e:∀t,a*ev xs t=b*ev ys t):xs=ys:=by
 have t1:Tr xs:=⟨l,l1,by exact oqz [] [l] [(.il (0+1) Y0)] (.no (.ie Y0 0)) [101] rfl p1⟩
 have t2:Tr ys:=⟨m,l2,by exact oqz [] [m] [(.il (0+1) Y0)] (.no (.ie Y0 0)) [101] rfl p2⟩
 have h:smul a xs=smul b ys:=gP (.inr (fK ha t1)) (.inr (fK hb t2)) fun t=>by rw[bQ,bQ,e]
 have h1:a.natAbs=b.natAbs:=by
  have:=congrArg (fun x=>br x 0) h
  rw[fH,fH,g1,g2] at this
  exact oqz [a.natAbs,b.natAbs] [] [(.eq (.m 1 Y0) (.m 1 Y1))] (.eq Y0 Y1) [101,11] rfl this
 have h2:a*l=b*m:=by
  have:=congrArg List.getLast? h
  unfold smul at this
  rw[IA,IA,l1,l2] at this
  exact G5 this
 have h3:a=b:=by
  rcases (by (exact oqz [a.natAbs,b.natAbs] [a,b] [(.eq Y0 Y1),(ona Y0 Y0),(ona Y1 Y1)] (.or (.ie Y0 Y1) (.ie Y0 (.g Y1))) [101000110,101000101,1000101001,1000101010] rfl h1 (bn (a)) (bn (b))):a=b\/a=-b) with h|h
  ·exact h
  ·exfalso
   rw[h] at h2
   have h4:b*(l+m)=0:=by grind
   rcases Int.mul_eq_zero.mp h4 with h5|h5
   ·exact hb h5
   ·exact oqz [] [l,m] [(.il (0+1) Y0),(.il (0+1) Y1),(.ie (Y0+Y1) 0)] .ff [111] rfl p1 p2 h5
 subst h3
 refine gP (.inr t1) (.inr t2) fun t=>?_
 exact IE ha (e t)
theorem fG{r:List Int}{l:Int}:smul (gOf r l) (cv r l)=r:=by rw[<- nL,oX]
theorem kP{r:List Int}{l:Int}(t:Int):ev r t=gOf r l*ev (cv r l) t:=by
 have:=congrArg (fun x=>ev x t) (@fG r l)
 rw[bQ] at this;exact this.symm
theorem bT{r:List Int}{l:Int}(hl:r.getLast?=some l):(cv r l).getLast?=some (l.fdiv (gOf r l)):=by
 unfold cv;rw[IA,hl];rfl
theorem v7{r:List Int}{l:Int}(hl:r.getLast?=some l)(h0:l≠0):Tr (cv r l):=⟨_,bT hl,by have:=cL (Hd hl) h0;exact oqz [] [l.fdiv (gOf r l)] [(.il (0+1) Y0)] (.no (.ie Y0 0)) [101] rfl this⟩
theorem ir{c l:Int}{xs:List Int}(h:xs.getLast?=some l):(smul c xs).getLast?=some (c*l):=by
 unfold smul;rw[IA,h];rfl
theorem mP{g k:List Int}{l m:Int}(hg:br g 0=1)(hk:br k 0=1)(lg:g.getLast?=some l)(lk:k.getLast?=some m)(g0:l≠0)(k0:m≠0)(h:Dv (ev g) (ev k)):∃h,Tr h/\∀t,ev k t=ev g t*ev h t:=by
 refine aF (h) fun c u hc pu e=>?_
 have tk:Tr k:=⟨m,lk,k0⟩
 have tg:Tr g:=⟨l,lg,g0⟩
 have hu:∃t,u t≠0:=by
  obtain ⟨t,ht⟩:=tk.nz
  refine ⟨t,fun h=>?_⟩
  have:=e t
  rw[h,Hh] at this
  exact (HF hc ht) this
 refine ae (pu.tr hu) fun xs tx ex=>?_
 refine ae (tx) fun n ln n0=>?_
 have hx:∀t,u t=gOf xs n*ev (cv xs n) t:=fun t=>by rw[ex,<- kP]
 have hmem:=Hd ln
 have tr:=v7 ln n0
 have h1:smul c k=smul (gOf xs n) (cx g (cv xs n)):=gP (.inr (fK hc tk)) (.inr (fK (fU hmem n0) (j9 tg tr))) fun t=>by
  rw[bQ,bQ,cM,e,hx];grind
 have h2:c.natAbs=(gOf xs n).natAbs:=by
  have:=congrArg (fun x=>br x 0) h1
  rw[fH,fH,hk,FN hg (eI hmem n0)] at this
  exact oqz [c.natAbs,(gOf xs n).natAbs] [] [(.eq (.m 1 Y0) (.m 1 Y1))] (.eq Y0 Y1) [101,11] rfl this
 rcases (by (exact oqz [c.natAbs,(gOf xs n).natAbs] [gOf xs n,c] [(.eq Y0 Y1),(ona Y1 Y0),(ona Y0 Y1)] (.or (.ie Y0 Y1) (.ie Y0 (.g Y1))) [1000101010,1000101001,101000101,101000110] rfl h2 (bn (c)) (bn (gOf xs n))):gOf xs n=c\/gOf xs n=-c) with h3|h3
 ·refine ⟨cv xs n,tr,fun t=>?_⟩
  have:=e t
  rw[hx,h3] at this
  exact IE hc (by grind)
 ·refine ⟨smul (-1) (cv xs n),fK (by decide) tr,fun t=>?_⟩
  have:=e t
  rw[hx,h3] at this
  rw[bQ]
  exact IE hc (by grind)
noncomputable def sl:Int->List Int->List Int
 |_,[]=>[]
 |k,x::r=>k*x::sl (k+1) r
theorem F6(k x:Int)(r:List Int):sl k (x::r)=k*x::sl (k+1) r:=rfl
theorem rU:∀ (r:List Int) (k:Int),(sl k r).length=r.length
 | [],_=>rfl
 |x::r,k=>by show (sl (k+1) r).length+1=r.length+1;rw[rU]
theorem Ba:∀ {r:List Int}{k:Int},0<k->Tr r->Tr (sl k r)
 | [],_,_,h=>absurd rfl h.ne
 | [x],k,hk,h=>.one (HF (by exact oqz [] [k] [(.il (0+1) Y0)] (.no (.ie Y0 0)) [101] rfl hk) h.of_one)
 |x::y::r,k,hk,h=>Tr.cons (Ba (r:=y::r) (by exact oqz [] [k] [(.il (0+1) Y0)] (.il (0+1) (Y0+1)) [11] rfl hk) h.tl)
theorem ev1(c t:Int):ev [c] t=c:=by rw[aJ,bL];exact oqz [] [c,t] [] (.ie (.a Y0 (.r Y1 0)) Y0) [1] rfl
theorem oS:∀xs:List Int,∃ys,(ys=[]\/Tr ys)/\(∀t,ev xs t=ev ys t)/\ys.length<=xs.length
 | []=>⟨[],.inl rfl,fun _=>rfl,GU _⟩
 |x::r=>by
  obtain ⟨ys,h,e,hl⟩:=oS r
  rcases h with rfl|h
  ·by_cases hx:x=0
   ·exact ⟨[],.inl rfl,fun t=>by rw[aJ,e,hx,bL];exact oqz [] [t] [] (.ie (.a 0 (.r Y0 0)) 0) [1] rfl,Hl _⟩
   ·exact ⟨[x],.inr (.one hx),fun t=>by rw[aJ,aJ,e],by simp⟩
  ·exact ⟨x::ys,.inr h.cons,fun t=>by rw[aJ,aJ,e],by simp;exact hl⟩
theorem kR(t:Int):∀xs:List Int,ev (xs++[0]) t=ev xs t
 | []=>by rw[List.nil_append,ev1,bL]
 |x::r=>by rw[List.cons_append,aJ,aJ,kR t r]
end Mine
namespace Mine
open PySem
theorem fA(t:Int):∀xs ys:List Int,ev (xs++ys) t=ev xs t+t^xs.length*ev ys t
 | [],ys=>by rw[List.nil_append,bL,List.length_nil,HH];exact oqz [] [ev ys t] [] (.ie Y0 (.a 0 (.m 1 Y0))) [1] rfl
 |x::r,ys=>by rw[List.cons_append,aJ,aJ,fA t r ys,List.length_cons,Hr];grind
theorem oE(t:Int):∀n:Nat,ev (bW n) t=0
 |0=>rfl
 |n+1=>by show ev (0::bW n) t=0;rw[aJ,oE t n];exact oqz [] [t] [] (.ie (.a 0 (.r Y0 0)) 0) [1] rfl
theorem tY{xs ys:List Int}{n:Nat}(h:xs=ys++bW n)(t:Int):ev xs t=ev ys t:=by rw[h,fA,oE];exact oqz [] [ev ys t,t^ys.length] [] (.ie (.a Y0 (.r Y1 0)) Y0) [1] rfl
noncomputable def wlz(s m:Int)(xs ys:List Int):List Int:=List.zipWith (fun x y=>x*s-m*y) xs ys
theorem vS(s m t:Int):∀ {xs ys:List Int},xs.length=ys.length->ev (wlz s m xs ys) t=s*ev xs t-m*ev ys t
 | [],[],_=>by show (0:Int)=s*0-m*0;exact oqz [] [s,m] [] (.ie 0 (.s (.r Y0 0) (.r Y1 0))) [1] rfl
 |x::r,y::u,h=>by
  show ev ((x*s-m*y)::wlz s m r u) t=_
  rw[aJ,aJ,aJ,vS s m t (Ix h)];grind
noncomputable def wlo(s m:Int)(l0 l1 o:List Int):List Int:=(l0.map fun x=>x*s)++wlz s m l1 o
theorem ry{s m:Int}{l0 l1 o:List Int}(h:l1.length=o.length)(t:Int):ev (wlo s m l0 l1 o) t=s*ev (l0++l1) t-m*t^l0.length*ev o t:=by
 have e:(l0.map fun x=>x*s)=smul s l0:=nL
 rw[wlo,fA,fA,e,bQ,aW,vS s m t h];grind
theorem uk{s m:Int}{xs ys:List Int}(h:xs.length=ys.length):(wlz s m xs ys).length=ys.length:=by unfold wlz;rw[List.length_zipWith,h,Nat.min_self]
theorem kq{s m:Int}{l0 l1 o:List Int}(h:l1.length=o.length):(wlo s m l0 l1 o).length=l0.length+o.length:=by
 rw[wlo,GR,GO,uk h]
theorem vH{s m:Int}{K L:Nat}(hs:Sm L s)(hm:Sm K m):∀ {xs ys:List Int},AllSm K xs->AllSm L ys->AllSm (K+L+1) (wlz s m xs ys)
 | [],_,_,_=>.nil
 |_::_,[],_,_=>.nil
 |x::r,y::u,h1,h2=>.cons ((h1.hd.mul hs).sub (hm.mul h2.hd)) (vH hs hm h1.tl h2.tl)
theorem Dj{s m:Int}{K L:Nat}{l0 l1 o:List Int}(hs:Sm L s)(hm:Sm K m)(h0:AllSm K l0)(h1:AllSm K l1)(h2:AllSm L o):AllSm (K+L+1) (wlo s m l0 l1 o):=fun x hx=>by
 rcases Hy.mp hx with hx|hx
 ·refine ae (Hq.mp hx) fun y hy zq113=>?_;subst zq113
  exact ((h0 y hy).mul hs).mono (Ij _)
 ·exact vH hs hm h1 h2 x hx
theorem iE{s m a b:Int}:∀ {xs ys:List Int},xs.length=ys.length->xs.getLast?=some a->ys.getLast?=some b->(wlz s m xs ys).getLast?=some (a*s-m*b)
 | [],[],_,h,_=>by cases h
 | [x],[y],_,h1,h2=>by cases h1;cases h2;rfl
 |x::x'::r,y::y'::u,h,h1,h2=>by
  rw[HX] at h1 h2
  have ih:=iE (s:=s) (m:=m) (Ix h) h1 h2
  show ((x*s-m*y)::(x'*s-m*y')::wlz s m r u).getLast?=_
  rw[HX];exact ih
 | [_],_::_::_,h,_,_=>by simp at h
 |_::_::_,[_],h,_,_=>by simp at h
section
variable {sub:Nat->Nat->Bool}{P:List Fn}{n:Nat}{H:Hp}{Q:V->Hp->Prop}{X:Nat->Hp->Prop}
noncomputable def Bu(H:Hp)(k:Nat):Nat:=match H[k]? with|some xs=>xs.length|none=>0
theorem rC(zT:TT P){v:V}{row:List Int}(hv:items H v=some (row.map .int))
  (hQ:∀ (ys:List Int) (k:Nat),row=ys++bW k->(ys=[]\/Tr ys)->Q (.lst H.length) (H++[ys.map .int])):ag sub P (n+1) 7 [v] H Q X:=by
 refine ao zT.a7 rfl ?_
 dsimp only[wy,qS1,qS2,qS3,qS7,qS9,jW,qE5,b6,aA,az,i7,aD,aB,ay,ax,aO,aC,aq,aa,af,aH,Nat.reduceSub]
 refine ifSome.mk hv ?_
 refine ⟨fun ρ H'=>∃ (ys:List Int) (k:Nat),ρ=[some v,some (.lst H.length)]/\H'=H++[ys.map .int]/\row=ys++bW k,fun _ H'=>Bu H' H.length,⟨row,0,rfl,rfl,(List.append_nil _).symm⟩,?_⟩
 intro ρ H' zr18;refine aF (zr18) fun ys k zq29 zq30 hr=>?_;subst zq29;subst zq30
 have hy:(H++[ys.map V.int])[H.length]?=some (ys.map V.int):=ai _ _ _
 dsimp only[BC,qE1,qE5,qE9,bx,lZ,aU,bX,cu,GA,aa,af]
 refine ifSome.mk (v:=!(ys.map V.int).isEmpty) (by rw[hy];rfl) ?_
 rcases Jp ys with rfl | ⟨zs,c,rfl⟩
 ·refine (if_neg (by decide)).mpr ?_
  refine ifSome.mk (v:=false) (by rw[hy];rfl) ?_
  exact hQ [] k hr (.inl rfl)
 ·rw[Jq] at hr hy ⊢
  have hne:(!((zs++[c]).map V.int).isEmpty)=true:=by simp
  rw[hne]
  dsimp only[aX]
  have hl:((zs++[c]).map V.int).length=zs.length+1:=by simp
  refine ix3 (v:=.int c) hy (cq (by exact lin [(List.map V.int (zs++[c])).length,zs.length] [(1,(.a Y1 (.n 1)),Y0)] (.n 1) Y0 rfl (HZ (hl).symm))) ?_ ?_
  ·rw[hl,Nat.add_sub_cancel,G9]
   have:=ai (zs.map V.int) (V.int c) [];rwa [GO] at this
  dsimp only[dQ,aN,aa]
  by_cases hc:c=0
  ·rw[decide_eq_true hc]
   dsimp only[aX]
   refine ⟨GU _,ifSome.mk hy ⟨zs.map V.int,c,by rw[G9];rfl,?_⟩⟩
   rw[cy]
   refine ⟨⟨zs,k+1,rfl,rfl,?_⟩,?_⟩
   ·rw[hr,hc,G0];rfl
   ·unfold Bu
    rw[ai,hy]
    show (zs.map V.int).length<((zs++[c]).map V.int).length
    rw[hl,GO];exact Ia _
  ·rw[decide_eq_false hc]
   dsimp only[aR]
   exact hQ _ k hr (.inr ⟨c,by simp,hc⟩)
inductive WlI (H:Hp) (a:Nat) (w:V) (m s:Int) (l0 l1 o:List Int) (rest:List V) (ρ:Loc) (H':Hp):Prop
 |mk (d1:List Int) (t1:List Int) (d2:List Int) (t2:List Int) (x:Option V) (c0:l1=d1++t1) (c1:o=d2++t2) (c2:d1.length=d2.length) (c3:rest=(List.range' d2.length t2.length).map (fun (i:Nat)=>V.int (i:Int))) (c4:ρ=[some (.lst a),some w,some (.int m),some (.int s),some (.lst H.length),some (.int (l0.length:Int)),x]) (c5:H'=H++[((l0.map fun x=>x*s)++(wlz s m d1 d2++(t1.map fun x=>x*s))).map .int])
theorem Fu(zT:TT P){a:Nat}{w:V}{l0 l1 o:List Int}{m s:Int}(ha:H[a]?=some ((l0++l1).map .int))(hw:items H w=some (o.map .int))(hl:l1.length=o.length)(hn:(l0++l1).length<=900)
  (h1:∀x∈l0++l1,IntMulOk x s) (h2:∀y∈o,IntMulOk m y) (hQ:Q (.lst H.length) (H++[(wlo s m l0 l1 o).map .int])):ag sub P (n+1) 10 [.lst a,w,.int m,.int s] H Q X:=by
 have hn':l0.length+l1.length<=900:=by rw[GR] at hn;exact hn
 refine ao zT.a10 rfl ?_
 dsimp only[bWl,qS1,qS2,qS3,qS9,dp,qE5,qE8,b6,f9,aA,az,qO1,qI1,qI3,cJ,dc,cg,aD,aB,ay,ax,aO,aC,aq,aX,aa,af,aH,Nat.reduceSub]
 refine ifSome.mk ha ⟨by rw[GO];unfold lim;exact lin [(l0++l1).length] [(1,Y0,(.n 900))] Y0 (.n 1000000) rfl hn,?_⟩
 refine e7 (h:=V.int) (g:=fun x=>V.int (x*s)) (fun x hx k hk=>⟨h1 x hx,hk⟩) ?_
 have ha':∀l:List V,(H++[l])[a]?=some ((l0++l1).map .int):=fun l=>av (aj _ _) ha
 have hw':∀l:List V,items (H++[l]) w=some (o.map .int):=fun l=>b7 (aj _ _) hw
 refine ifSome.mk (ha' _) (ifSome.mk (hw' _) ?_)
 refine ifSome.mk (hw' _) ?_
 rw[GO,GO,GR]
 have ed:((l0.length+l1.length:Nat):Int)-((o.length:Nat):Int)=((l0.length:Nat):Int):=oqz [l0.length,l1.length,o.length] [] [(.eq Y1 Y2)] (.ie (.s (.c (Y0+Y1)) (.c Y2)) (.c Y0)) [101,11] rfl hl
 rw[ed]
 refine iC (jz (by exact lin [l1.length,o.length,l0.length] [(1,Y1,Y0),(1,(.a Y2 Y0),(.n 900))] Y1 (.n 900) rfl (HZ (hl).symm) hn')) ?_
 rw[Iz]
 refine bo (WlI H a w m s l0 l1 o) ?_ ?_ _ _ _ ⟨[],l1,[],o,_,rfl,rfl,rfl,rfl,rfl,?_⟩
 ·rintro x rest ρ H' k zI hk;obtain ⟨d1,t1,d2,t2,x0,e1,e2,hd,hx,rfl,rfl⟩:=zI
  cases t2 with
  |nil=>cases hx
  |cons y t2 =>
   cases t1 with
   |nil=>exfalso;rw[e1,e2] at hl;simp at hl;exact oqz [d1.length,d2.length,t2.length] [] [(.eq Y0 Y1),(.eq Y0 (Y1+(Y2+1)))] .ff [1001] rfl hd hl
   |cons z t1 =>
    rw[cn] at hx
    cases hx
    have hwl:(wlz s m d1 d2).length=d2.length:=uk hd
    have hy:(o.map V.int)[d2.length]?=some (.int y):=by rw[e2,G9,G1];have:=ai (d2.map V.int) (V.int y) (t2.map V.int);rwa [GO] at this
    have hdl:d2.length<(o.map V.int).length:=by rw[e2];simp
    have el:((l0.map fun x=>x*s)++(wlz s m d1 d2++((z::t1).map fun x=>x*s))).map V.int=(((l0.map fun x=>x*s)++wlz s m d1 d2).map V.int)++V.int (z*s)::(t1.map fun x=>x*s).map V.int:=by simp
    have ep:(((l0.map fun x=>x*s)++wlz s m d1 d2).map V.int).length=l0.length+d2.length:=by rw[GO,GR,GO,hwl]
    have ei:((l0.length:Nat):Int)+((d2.length:Nat):Int)=((l0.length+d2.length:Nat):Int):=oqz [l0.length,d2.length] [] [] (.ie (.a (.c Y0) (.c Y1)) (.c (Y0+Y1))) [1] rfl
    rw[el]
    dsimp only[lWl,qS1,qS2,qS5,qE5,qE8,aU,cO,dc,aa,bO,fu,af,aH,gV]
    rw[ei]
    refine ix3 (v:=.int (z*s)) (ai _ _ _) (aG (k:=l0.length+d2.length) (by rw[GR,ep];simp)) (by rw[<- ep];exact ai _ _ _) ?_
    refine ix3 (b7 (aj _ _) hw) (aG hdl) hy ⟨h2 y (by rw[e2];simp),?_⟩
    refine ⟨⟨GU _,Ii _⟩,?_⟩
    refine ix2 (ai _ _ _) (aG (k:=l0.length+d2.length) (by rw[GR,ep];simp)) ?_
    rw[cy,<- ep,cy]
    refine hk _ _ ⟨d1++[z],t1,d2++[y],t2,_,by rw[e1,G0];rfl,by rw[e2,G0];rfl,by simp[hd],by rw[GR];rfl,rfl,?_⟩
    have ez:wlz s m (d1++[z]) (d2++[y])=wlz s m d1 d2++[z*s-m*y]:=by unfold wlz;rw[List.zipWith_append hd];rfl
    rw[ez];simp
 ·rintro ρ H' ⟨d1,t1,d2,t2,x0,e1,e2,hd,hx,rfl,rfl⟩
  cases t2 with
  |cons y t2=>rw[cn] at hx;cases hx
  |nil =>
   have ht:t1=[]:=by
    rw[e1,e2] at hl
    exact HI (by simp at hl;exact oqz [t1.length,d1.length,d2.length] [] [(.eq Y1 Y2),(.eq (Y1+Y0) Y2)] (.eq Y0 0) [1101] rfl hd hl)
   subst ht
   rw[List.append_nil] at e1 e2
   subst e1 e2
   dsimp only[aa,af]
   rw[List.map_nil,List.append_nil]
   exact hQ
 ·show _=H++[((l0.map fun x=>x*s)++([]++(l1.map fun x=>x*s))).map V.int]
  rw[List.nil_append,<- G9,Hw];rfl
end
end Mine
namespace Mine
open PySem
theorem eY{H:Hp}{x:V}{xs:List V}(h:items H x=some xs):bm H x=some (!xs.isEmpty):=by
 cases x with
 |tup ys=>cases h;rfl
 |lst m=>show (H[m]?).map _=_;rw[show H[m]?=some xs from h];rfl
 |_=>cases h
theorem kW{xs:List Int}{n:Nat}(h:n<=xs.length):∃l0 l1,xs=l0++l1/\l1.length=n/\l0.length=xs.length-n:=
 ⟨xs.take (xs.length-n),xs.drop (xs.length-n),(List.take_append_drop _ _).symm,by rw[List.length_drop];exact oqz [xs.length-(xs.length-n),xs.length,xs.length-n,n] [] [(.le Y3 Y1),(osb Y1 Y3 Y2),(osb Y1 Y2 Y0)] (.eq Y0 Y3) [1010001,110001,1001011,101011,10001001,1000001,10000101] rfl h (am (xs.length) (n)) (am (xs.length) (xs.length-n)),by rw[JA];exact oqz [min (xs.length-n) xs.length,xs.length-n,xs.length,n] [] [(.an (.le Y2 (Y1+Y3)) (.le Y1 Y2)),(.or (.an (.le Y1 Y2) (.eq Y0 Y1)) (.an (.le Y2 Y1) (.eq Y0 Y2)))] (.eq Y0 Y1) [100001,100101,10001,11001] rfl (aV (xs.length) (n)) (Mine.lP (xs.length-n) (xs.length))⟩
theorem oN{l0 l1:List Int}{a:Int}(h1:l1≠[])(h:(l0++l1).getLast?=some a):l1.getLast?=some a:=by
 rw[Jv] at h
 cases e:l1.getLast? with
 |none=>exact absurd (List.getLast?_eq_none_iff.mp e) h1
 |some b=>rw[e] at h;exact h
theorem oO{D zs:List Int}{k:Nat}(h:D=zs++bW k)(hz:zs=[]\/Tr zs)(hl:D.getLast?=some 0):zs.length<D.length:=by
 cases k with
 |zero =>
  exfalso
  rw[show bW 0=[] from rfl,List.append_nil] at h
  subst h
  rcases hz with rfl | ⟨l,e,h0⟩
  ·cases hl
  ·rw[hl] at e;cases e;exact h0 rfl
 |succ k=>rw[h];simp[bW]
structure Rst (A B r:List Int):Prop where
 tr:r=[]\/Tr r
 len:r.length<B.length
 eq:∃ (c d:Int) (q:Int->Int),c≠0/\d≠0/\PF q/\∀t,c*ev A t=q t*ev B t+d*ev r t
theorem Al{K k:Nat}{D zs:List Int}(h:D=zs++bW k)(hD:AllSm K D):AllSm K zs:=fun x hx=>hD x (by rw[h];exact I7 _ hx)
section
variable {sub:Nat->Nat->Bool}{H:Hp}
theorem kK{Φ:Call}(g:Int)(ρ:Loc)(H':Hp)(Z:V->Hp->Prop)(hg:af ρ 1=some (.int g))(hz:Z (.int (-g)) H'):wpE sub Φ ngQ ρ H' Z:=by
 dsimp only[ngQ,wpE]
 exact ifSome.mk hg hz
noncomputable def jp(H:Hp)(o:Option V):Nat:=match o with|some x=>(match items H x with|some xs=>xs.length|none=>0) |none=>0
theorem e5{H:Hp}{x:V}{xs:List V}(h:items H x=some xs):jp H (some x)=xs.length:=by
 show (match items H x with|some xs=>xs.length|none=>0)=_
 rw[h]
end
end Mine
namespace Mine
open PySem
noncomputable def Comb(A B x:List Int):Prop:=∃ (c:Int) (u v:Int->Int),c≠0/\PF u/\PF v/\∀t,c*ev x t=u t*ev A t+v t*ev B t
structure Gcd (A B g:List Int)(l:Int):Prop where
 last:g.getLast?=some l
 pos:0<l
 one:br g 0=1
 d1:Dv (ev g) (ev A)
 d2:Dv (ev g) (ev B)
 cb:Comb A B g
theorem Comb.rest{A B A1 B1 r:List Int}(h1:Comb A B A1)(h2:Comb A B B1)(R:Rst A1 B1 r):Comb A B r:=by
 refine b8 (h1) fun c1 u1 v1 hc1 pu1 pv1 e1=>?_
 refine b8 (h2) fun c2 u2 v2 hc2 pu2 pv2 e2=>?_
 refine b8 (R.eq) fun c d q hc hd pq e=>?_
 refine ⟨c1*c2*d,fun t=>c2*c*u1 t+-(c1*(q t*u2 t)),fun t=>c2*c*v1 t+-(c1*(q t*v2 t)),HF (HF hc1 hc2) hd,
  (pu1.smul (c2*c)).add ((pq.mul pu2).smul c1).neg,(pv1.smul (c2*c)).add ((pq.mul pv2).smul c1).neg,fun t=>?_⟩
 have:=e1 t;have:=e2 t;have:=e t;grind
theorem Rst.back{A B r:List Int}(R:Rst A B r){h:Int->Int}(h1:Dv h (ev B))(h2:Dv h (ev r)):Dv h (ev A):=by
 refine b8 (R.eq) fun c d q hc hd pq e=>?_
 exact Dv.comb h1 h2 pq (.const d) hc fun t=>by rw[e t]
section
variable {sub:Nat->Nat->Bool}{P:List Fn}{n:Nat}{H:Hp}{Q:V->Hp->Prop}{X:Nat->Hp->Prop}
theorem fD{i:Int}(h:0<=i/\i<=1000000):Sm 64 i:=by
 have e:(2:Nat)^64=18446744073709551616:=by decide
 unfold Sm;exact oqz [i.natAbs] [i] [(.an (.il 0 Y0) (.il Y0 1000000)),(ona Y0 Y0)] (.le (Y0+1) 18446744073709551616) [10101,10011] rfl h (bn (i))
theorem ya{k:Nat}:∀ (r:List Int) (g:Nat->Int),(∀i,i<r.length->g (k+i)=r.getD i 0)->((List.range' k r.length).map fun (i:Nat)=>V.int ((i:Int)*g i))=(sl (k:Int) r).map V.int
 | [],_,_=>rfl
 |x::r,g,h=>by
  rw[cn]
  show V.int ((k:Int)*g k)::_=V.int ((k:Int)*x)::_
  have h0:=h 0 (by simp)
  rw[Nat.add_zero] at h0
  rw[h0]
  have:=@ya (k+1) r g (fun i hi=>by
   have:=h (i+1) (by simp;exact hi)
   rw[show k+(i+1)=k+1+i by exact oqz [k,i] [] [] (.eq (Y0+(Y1+1)) (Y0+1+Y1)) [1] rfl] at this
   rw[this];rfl)
  rw[this]
  rfl
theorem A3(zT:TT P){a:Nat}{c:Int}{r:List Int}(ha:H[a]?=some ((c::r).map .int))(hl:r.length<=900)(hQ:Q (.lst H.length) (H++[(sl 1 r).map .int])):ag sub P (n+1) 9 [.lst a] H Q X:=by
 refine ao zT.a9 rfl ?_
 dsimp only[qY,qS1,qS2,qS9,qE1,qE5,qE8,b6,aU,f9,aA,az,qO1,qI3,cJ,cg,aD,aB,ay,ax,aC,aq,aX,aa,af,Nat.reduceSub]
 refine ifSome.mk ha ?_
 rw[GO,List.length_cons]
 refine uE (aK (by decide) (by decide)) (aK (by exact oqz [r.length] [] [] (.il (.g 1000000) (.c (Y0+1))) [1] rfl) (by exact oqz [r.length] [] [(.le Y0 900)] (.il (.c (Y0+1)) 1000000) [11] rfl hl)) ⟨by rw[GO,H9];unfold lim;exact oqz [((↑(r.length+1):Int)-1).toNat,r.length] [] [(.le Y1 900),(otn (.s (.c (Y1+1)) 1) Y0)] (.le Y0 1000000) [1011] rfl hl (aQ ((↑(r.length+1):Int)-1)),?_⟩
 rw[show (((r.length+1:Nat):Int)-1).toNat=r.length by exact oqz [((↑(r.length+1):Int)-1).toNat,r.length] [] [(otn (.s (.c (Y1+1)) 1) Y0)] (.eq Y0 Y1) [1001,11,101] rfl (aQ ((↑(r.length+1):Int)-1))]
 refine e7 (g:=fun (i:Nat)=>V.int ((1+(i:Int))*r.getD i 0)) (fun i hi k' hk'=>?_) ?_
 ·have hi':i<r.length:=by have:=(List.mem_range'_1.mp hi).2;exact oqz [i,r.length] [] [(.le (Y0+1) (0+Y1))] (.le (Y0+1) Y1) [11] rfl this
  show ifSome (H[a]?) fun xs=>ifSome (cD xs.length (1+(i:Int))) fun j=>ifSome xs[j]? fun v=>_
  refine ifSome.mk ha (ifSome.mk (v:=i+1) ?_ (ifSome.mk (v:=.int (r.getD i 0)) ?_ ⟨IntMulOk.left (fD (by exact oqz [i,r.length] [] [(.le Y1 900),(.le (Y0+1) Y1)] (.an (.il 0 (.a 1 (.c Y0))) (.il (.a 1 (.c Y0)) 1000000)) [1,111] rfl hl hi')),hk'⟩))
  ·rw[GO,List.length_cons,show 1+(i:Int)=((i+1:Nat):Int) by exact oqz [i] [] [] (.ie (.a 1 (.c Y0)) (.c (Y0+1))) [1] rfl];exact aG (by exact lin [i,r.length] [(1,(.a Y0 (.n 1)),Y1)] (.a (.a Y0 (.n 1)) (.n 1)) (.a Y1 (.n 1)) rfl hi')
  ·rw[G1,List.getElem?_cons_succ,Hj,G2 hi',G7,G2 hi'];rfl
 ·have h1:=@ya 1 r (fun i=>r.getD (i-1) 0) (fun i _=>by show r.getD (1+i-1) 0=_;rw[Ib])
  have h2:((List.range' 0 r.length).map fun (i:Nat)=>V.int ((1+(i:Int))*r.getD i 0))=(sl 1 r).map V.int:=by
   rw[show (sl 1 r)=sl ((1:Nat):Int) r from rfl,<- h1]
   apply List.ext_getElem
   ·simp
   ·intro j h3 h4
    simp
  rw[h2];exact hQ
theorem AP{β:Type}{H K:List β}{x y:β}{a:Nat}{z:β}(h:a≠H.length+1)(e:(H++x::y::K)[a]?=some z)(y':β):(H++x::y'::K)[a]?=some z:=by
 rcases Nat.lt_trichotomy a (H.length+1) with h1|h1|h1
 ·rw[List.getElem?_append,show (x::y'::K)=[x]++y'::K from rfl] at *
  by_cases h2:a<H.length
  ·rw[if_pos h2] at e ⊢;exact e
  ·rw[if_neg h2] at e ⊢
   obtain rfl:a=H.length:=oqz [a,H.length] [] [(.le (Y0+1) (Y1+1)),(.no (.le (Y0+1) Y1))] (.eq Y0 Y1) [101,11] rfl h1 h2
   rw[Nat.sub_self] at e ⊢;exact e
 ·exact absurd h1 h
 ·rw[Hk (by exact lin [H.length,a] [(1,(.a (.a Y0 (.n 1)) (.n 1)),Y1)] Y0 Y1 rfl h1)] at e ⊢
  obtain ⟨j,hj⟩:∃j,a-H.length=j+2:=⟨a-H.length-2,by exact oqz [a-H.length,a,H.length,a-H.length-2] [] [(.le (Y2+1+1) Y1),(.an (.le Y1 (Y0+Y2)) (.le Y0 Y1)),(osb Y0 2 Y3)] (.eq Y0 (Y3+2)) [1000001,100111,100001,10001] rfl h1 (aV (a) (H.length)) (am (a-H.length) (2))⟩
  rw[hj] at e ⊢;exact e
theorem qq1(n:Nat):n≠n+1:=IV (Ia n)
theorem qq2{a b:Nat}(h:a+1=b+0):¬ ((b:Nat):Int)<=((a:Nat):Int):=oqz [b,a] [] [(.eq (Y1+1) (Y0+0))] (.no (.il (.c Y0) (.c Y1))) [11] rfl h
theorem qq3{a b c:Nat}(h:a+1=b+(c+1)):((b:Nat):Int)<=((a:Nat):Int):=oqz [b,a,c] [] [(.eq (Y1+1) (Y0+(Y2+1)))] (.il (.c Y0) (.c Y1)) [101] rfl h
theorem qq5{a b:Nat}(h:1<=b)(g:((b:Nat):Int)<=((a:Nat):Int)):1<=a:=oqz [a,b] [] [(.le 1 Y1),(.il (.c Y1) (.c Y0))] (.le 1 Y0) [111] rfl h g
theorem qq6{A y b G h:Nat}(h1:G<=h)(h2:y+1=b+G)(h3:A+1=b+h)(h4:A<=800):y<=900:=by exact lin [G,h,y,b,A] [(1,Y0,Y1),(1,(.a Y2 (.n 1)),(.a Y3 Y0)),(1,(.a Y3 Y1),(.a Y4 (.n 1))),(1,Y4,(.n 800))] Y2 (.n 900) rfl h1 (HZ h2) (HZ (h3).symm) h4
theorem qq9{a b:Nat}(h:a+2<=b):b≠a+1/\a<=b:=oqz [b,a] [] [(.le (Y1+2) Y0)] (.an (.no (.eq Y0 (Y1+1))) (.le Y1 Y0)) [101,11] rfl h
theorem Gb{d y b c:Nat}(h:d+1=y)(g:y+1=b+(c+1)):d+1=b+c:=oqz [d,b,c,y] [] [(.eq (Y0+1) Y3),(.eq (Y3+1) (Y1+(Y2+1)))] (.eq (Y0+1) (Y1+Y2)) [10101,1011] rfl h g
inductive QuI (H:Hp) (v w:V) (B h:List Int) (ρ:Loc) (H':Hp):Prop
 |mk (a:Nat) (ys h1 h2:List Int) (x:List V) (KK:Hp) (o:Option V) (c0:ρ=[some v,some w,some (.lst a),some (.lst (H.length+1)),o]) (c1:H'=H++x::(h2.reverse.map V.int)::KK) (c2:a≠H.length+1) (c3:H.length<=a) (c4:H'[a]?=some (ys.map .int)) (c5:h=h1++h2) (c6:(∀t,ev ys t=ev B t*ev h1 t)) (c7:ys.length+1=B.length+h1.length)
theorem Do(zT:TT P){v w:V}{A B h:List Int}{lb:Int}{K L:Nat}(hv:items H v=some (A.map .int))(hw:items H w=some (B.map .int))(hlb:B.getLast?=some lb)(h0:lb≠0)
  (eq:∀t,ev A t=ev B t*ev h t) (hlen:A.length+1=B.length+h.length) (hA:A.length<=800) (sB:AllSm K B) (sh:AllSm L h) (hKL:L+K<=134217728)
  (hQ:∀H' k,H<+:H'->H'[k]?=some (h.map .int)->Q (.lst k) H'):ag sub P (n+2) 13 [v,w] H Q X:=by
 have hB1:1<=B.length:=by cases B with|nil=>cases hlb|cons _ _=>simp
 have hBne:B≠[]:=by intro h;rw[h] at hB1;simp at hB1
 refine ao zT.a13 rfl ?_
 dsimp only[x7,qS1,qS2,qS3,qS8,qS9,jW,qE5,b6,fY,aA,az,i7,aD,aB,ay,ax,aO,aC,aq,aa,af,aH,Nat.reduceSub]
 refine ifSome.mk hv ?_
 have eH:H++[A.map V.int]++[([]:List V)]=H++(A.map V.int)::([]:List V)::[]:=by rw[G0];rfl
 have eL:(H++[A.map V.int]).length=H.length+1:=by simp
 rw[eH,eL]
 refine ⟨QuI H v w B h,fun ρ H'=>jp H' (af ρ 2),⟨H.length,A,h,[],_,[],none,rfl,rfl,by exact qq1 _,GU _,ai _ _ _,(List.append_nil _).symm,eq,hlen⟩,?_⟩
 rintro ρ H' ⟨a,ys,h1,h2,x,KK,o,rfl,rfl,ha1,ha2,ha,hh,hev,hyl⟩
 have hw':∀ (z y:List V) (KK:Hp),items (H++z::y::KK) w=some (B.map .int):=fun z y KK=>b7 (aj _ _) hw
 dsimp only[uy,qE5,bx,b6,aA,az,oK,aN,dc,aa,af,rY]
 refine ifSome.mk ha (ifSome.mk (hw' _ _ _) ?_)
 rw[GO,GO]
 rcases Jp h1 with rfl | ⟨g1,hl,rfl⟩
 ·have hlt:¬ ((B.length:Nat):Int)<=((ys.length:Nat):Int):=by rw[List.length_nil] at hyl;exact qq2 hyl
  rw[decide_eq_false hlt]
  dsimp only[aR]
  refine ⟨Ij _,ifSome.mk (dj _ _ _ _) ?_⟩
  show Q (V.lst (H.length+1)) ((H++x::(h2.reverse.map V.int)::KK).set (H.length+1) (h2.reverse.map V.int).reverse)
  rw[gq]
  refine hQ _ _ (aj _ _) ?_
  rw[dj,<- List.map_reverse,List.reverse_reverse,hh];rfl
 ·rw[Jq] at hh hev hyl
  have hge:((B.length:Nat):Int)<=((ys.length:Nat):Int):=by rw[GR,G8] at hyl;exact qq3 hyl
  rw[decide_eq_true hge]
  have hg1:(g1++[hl]).getLast?=some hl:=by simp
  have hys:ys=cx B (g1++[hl]):=lS (by have:=dM hBne (show g1++[hl]≠[] by simp);exact oqz [ys.length,(cx B (g1++[hl])).length,B.length,(g1++[hl]).length] [] [(.eq (Y0+1) (Y2+Y3)),(.eq (Y1+1) (Y2+Y3))] (.eq Y0 Y1) [1101,10011] rfl hyl this) fun t=>by
   show ev ys t=ev _ t
   rw[cM,hev]
  have hyla:ys.getLast?=some (lb*hl):=by rw[hys];exact ja hlb hg1
  have hyl1:1<=(ys.map V.int).length:=by rw[GO];exact qq5 hB1 hge
  have hyle:ys.length<=900:=by
   have:(g1++[hl]).length<=h.length:=by rw[hh];simp
   exact qq6 this hyl hlen hA
  refine aF (kW (xs:=ys) (n:=B.length) (by exact Il.mp hge)) fun l0 l1 hsp hn1 hn2=>?_
  have shl:Sm L hl:=sh hl (by rw[hh];simp)
  have hl1:l1≠[]:=by intro h;rw[h] at hn1;rw[<- hn1] at hB1;exact absurd hB1 (by decide)
  dsimp only[B5,qS1,qS2,qS3,qS6,qS7,qE1,qE5,qE8,qE9,aM,aU,aA,az,dc,aX,aa,bO,af,aH,gV]
  refine ix3 (v:=.int (lb*hl)) ha (cq hyl1) ?_ ?_
  ·rw[GO,Hj,<- Iq,hyla];rfl
  refine ix3 (v:=.int lb) (hw' _ _ _) (cq (by rw[GO];exact hB1)) ?_ ?_
  ·rw[GO,Hj,<- Iq,hlb];rfl
  refine ⟨h0,?_⟩
  rw[show (lb*hl).fdiv lb=hl from Int.mul_fdiv_cancel_left hl h0]
  refine ⟨Ij _,ifSome.mk (dj _ _ _ _) ⟨?_,?_⟩⟩
  ·rw[GO,Hz]
   have:h2.length<=h.length:=by rw[hh,GR];exact Jn _ _
   unfold lim;exact oqz [h2.length,A.length,B.length,h.length] [] [(.eq (Y1+1) (Y2+Y3)),(.le Y1 800),(.le Y0 Y3)] (.le (Y0+1) 1000000) [11101] rfl hlen hA this
  rw[gq]
  have ha':=AP ha1 ha (h2.reverse.map V.int++[V.int hl])
  rw[hsp] at ha'
  refine Fu zT ha' (hw' _ _ _) hn1 (by rw[<- hsp];exact hyle) (fun x _=>IntMulOk.right (show Sm 64 1 by unfold Sm;decide)) (fun y hy=>IntMulOk.sum shl (sB y hy) hKL) ?_
  have eD:=fun t=>ry (s:=1) (m:=hl) (l0:=l0) hn1 t
  have lD:(wlo 1 hl l0 l1 B).getLast?=some 0:=by
   have:=iE (s:=1) (m:=hl) hn1 (oN hl1 (by rw[<- hsp];exact hyla)) hlb
   rw[wlo,Jv,this,show lb*hl*1-hl*lb=0 by grind];rfl
  have nD:(wlo 1 hl l0 l1 B).length=ys.length:=by rw[kq hn1,hsp,GR,hn1]
  revert eD lD nD
  generalize wlo 1 hl l0 l1 B=D
  intro eD lD nD
  obtain ⟨D0,rfl⟩:=Jw.mp lD
  generalize hH1:(H++x::(h2.reverse.map V.int++[V.int hl])::KK)=H1
  have hle1:H.length+2<=H1.length:=by rw[<- hH1];simp
  refine ⟨(qq9 hle1).2,ifSome.mk (ai _ _ _) ⟨D0.map V.int,0,by rw[G9];rfl,?_⟩⟩
  rw[cy]
  have hl0:l0.length=g1.length:=by rw[hn2];rw[GR,G8] at hyl;exact oqz [ys.length-B.length,ys.length,B.length,g1.length] [] [(.eq (Y1+1) (Y2+(Y3+1))),(osb Y1 Y2 Y0)] (.eq Y0 Y3) [10101,1101,100011,10001] rfl hyl (am (ys.length) (B.length))
  refine ⟨⟨H1.length,D0,g1,hl::h2,x,KK++[D0.map V.int],_,rfl,?_,by exact (qq9 hle1).1,by exact (qq9 hle1).2,ai _ _ _,by rw[hh,G0];rfl,fun t=>?_,?_⟩,?_⟩
  ·rw[<- hH1,G0,IO,G9];rfl
  ·have h4:=eD t
   rw[kR,<- hsp,hev t,fA,ev1,hl0] at h4
   rw[h4];grind
  ·rw[GR,G8] at nD hyl;exact Gb nD hyl
  ·show jp _ (some (V.lst _))<jp _ (some (V.lst a))
   rw[e5 (x:=.lst _) (ai _ _ _),e5 (x:=.lst a) ha,GO,GO]
   rw[GR,G8] at nD;exact Nat.lt_of_succ_le (HZ nD)
end
end Mine
namespace Mine
open Re
theorem oW(t:Re):∀ {xs:List Int},(∀x∈xs,x=0)->evR xs t=0
 | [],_=>rfl
 |x::xs,h=>by rw[aP,h x (.head _),aE,oW t fun y hy=>h y (.tail _ hy)];grind
theorem kz{xs ys:List Int}(h:∀t,ev xs t=ev ys t)(s:Re):evR xs s=evR ys s:=by
 have z:=dZ (xs:=eU xs (smul (-1) ys)) fun t _=>by
  show ev _ t=0
  rw[fb,bQ,h];exact oqz [] [ev ys t,-1*ev ys t] [(.ie Y1 (.g (.m 1 Y0)))] (.ie (Y0+Y1) 0) [101,11] rfl (HC 1 (ev ys t))
 have e:=oW s z
 rw[gp,bG] at e
 have m:((-1:Int):Re)=-1:=rfl
 rw[m] at e;grind
theorem zx{G A:List Int}(h:Dv (ev G) (ev A)):∃ (c:Int) (K:List Int),c≠0/\∀s,(c:Re)*evR A s=evR G s*evR K s:=by
 obtain ⟨c,k,hc,⟨K,hK⟩,e⟩:=h
 refine ⟨c,K,hc,fun s=>?_⟩
 have:=kz (xs:=smul c A) (ys:=cx G K) (fun t=>by rw[bQ,cM,e,hK]) s
 rwa [bG,d8] at this
theorem vf{A B x:List Int}(h:Comb A B x):∃ (c:Int) (U W:List Int),c≠0/\∀s,(c:Re)*evR x s=evR U s*evR A s+evR W s*evR B s:=by
 obtain ⟨c,u,v,hc,⟨U,hU⟩,⟨W,hW⟩,e⟩:=h
 refine ⟨c,U,W,hc,fun s=>?_⟩
 have:=kz (xs:=smul c x) (ys:=eU (cx U A) (cx W B)) (fun t=>by rw[bQ,fb,cM,cM,e,hU,hW]) s
 rwa [bG,gp,d8,d8] at this
noncomputable def PR:Nat->(Re->Re)->Prop
 |0,f=>∀t,f t=0
 |n+1,f=>∃c g,PR n g/\∀t,f t=c+t*g t
theorem PR.lin:∀ {n:Nat}{f g:Re->Re} (r:Re),PR n f->PR n g->PR n fun t=>f t+r*g t
 |0,f,g,r,hf,hg=>fun t=>by show f t+r*g t=0;rw[hf t,hg t];grind
 |n+1,f,g,r,⟨c,f1,hf,ef⟩,⟨d,g1,hg,eg⟩=>⟨c+r*d,_,PR.lin r hf hg,fun t=>by show f t+r*g t=_;rw[ef,eg];grind⟩
theorem PR.up:∀ {n:Nat}{f:Re->Re},PR n f->PR (n+1) f
 |0,f,h=>⟨0,f,h,fun t=>by rw[h t];grind⟩
 |n+1,f,⟨c,g,hg,e⟩=>⟨c,g,hg.up,e⟩
theorem PR.fac:∀ {n:Nat}{f:Re->Re} (r:Re),PR (n+1) f->∃g,PR n g/\∀t,f t=f r+(t-r)*g t
 |0,f,r,⟨c,g,hg,e⟩=>⟨fun _=>0,fun _=>rfl,fun t=>by rw[e,e r,hg t,hg r];grind⟩
 |n+1,f,r,⟨c,g,hg,e⟩=>by
  refine ae (PR.fac r hg) fun h hh eh=>?_
  refine ⟨_,PR.lin r hg hh.up,fun t=>?_⟩
  show f t=f r+(t-r)*(g t+r*h t)
  rw[e,e r,eh t];grind
theorem tt:∀xs:List Int,PR xs.length (evR xs)
 | []=>fun _=>rfl
 |c::xs=>⟨(c:Re),evR xs,tt xs,fun _=>rfl⟩
theorem mV:(1:Re)≠0:=by have:=Ic (R:=Re);grind
theorem dO{x y:Re}(h:x≠0)(g:y≠0):x*y≠0:=fun e=>g (bY e h)
theorem Dx{x:Re}(h:x≠0):rsg x=1\/rsg x=-1:=by
 rcases aS x with g|g|g
 ·exact .inl (bj g)
 ·exact .inr (bh g)
 ·exact absurd g h
theorem fX{c:Int}(hc:c≠0):(c:Re)≠0:=fun h=>by
 have e:=kA c
 rw[h,bF] at e
 unfold sg at e
 rcases Int.lt_or_lt_of_ne hc with g|g
 ·rw[if_pos g] at e;exact absurd e (by decide)
 ·rw[if_neg (by exact oqz [] [c] [(.il (0+1) Y0)] (.no (.il (Y0+1) 0)) [11] rfl g),if_pos g] at e;exact absurd e (by decide)
theorem EA{G A:List Int}(tG:Tr G)(tA:Tr A)(h:Dv (ev G) (ev A)):∃ (c:Int) (K:List Int),c≠0/\K≠[]/\G.length+K.length=A.length+1/\∀s,(c:Re)*evR A s=evR G s*evR K s:=by
 refine aF (h) fun c k hc pk e=>?_
 have hu:∃t,k t≠0:=by
  obtain ⟨t,ht⟩:=tA.nz
  refine ⟨t,fun h=>?_⟩
  have:=e t
  rw[h,Hh] at this
  exact (HF hc ht) this
 refine ae (pk.tr hu) fun K tK hK=>?_
 have h1:smul c A=cx G K:=gP (.inr (fK hc tA)) (.inr (j9 tG tK)) fun t=>by rw[bQ,cM,e,hK]
 refine ⟨c,K,hc,tK.ne,?_,fun s=>by rw[<- bG,h1,d8]⟩
 have:=dM tG.ne tK.ne
 rw[<- h1,show (smul c A).length=A.length by unfold smul;rw[GO]] at this
 exact oqz [G.length,K.length,A.length] [] [(.eq (Y2+1) (Y0+Y1))] (.eq (Y0+Y1) (Y2+1)) [11,101] rfl this
end Mine
namespace Mine
theorem j0(x:Int)(r:List Int):aw 0 1 (x::r)=x:=by rw[gR];exact oqz [] [aw 0 1 r,x] [] (.ie (.a (.r Y0 0) Y1) Y1) [1] rfl
theorem jg{xs:List Int}{l:Int}(h:xs.getLast?=some l):aw 1 0 xs=l:=by
 obtain ⟨ys,rfl⟩:=Jw.mp h
 rw[jb,Int.one_pow];exact oqz [] [aw 1 0 ys,l] [] (.ie (.a (.r Y0 0) (.r Y1 1)) Y1) [1] rfl
theorem j7(p q b e s:Int)(row:List Int):aw p q (hs b e s row)=aw (b*q+e*p) (s*q+s*p) row:=by rw[pd,nJ]
theorem iZ{p1 q1 p2 q2 c:Int}{r:List Int}:aw 0 1 (hs (p1*q2) (p2*q1) (q1*q2) (c::r))=q2^r.length*aw p1 q1 (c::r):=by
 rw[j7,<- g5];congr 1 <;> grind
theorem sN{p1 q1 p2 q2 c:Int}{r:List Int}:aw 1 0 (hs (p1*q2) (p2*q1) (q1*q2) (c::r))=q1^r.length*aw p2 q2 (c::r):=by
 rw[j7,<- g5];congr 1 <;> grind
theorem vJ:∀ (r:List Int) (l:Int),0<=tv l r
 | [],_=>JJ _
 |x::r,l=>by
  have:=vJ r (if x=0 then l else x)
  rw[fW]
  split <;> omega
theorem kl:∀ {r:List Int}{l:Int},0<l->tv l r=0->NN r
 | [],_,_,_=>fun _ h=>nomatch h
 |x::r,l,hl,h=>by
  have h1:=vJ r (if x=0 then l else x)
  rw[fW] at h
  have h2:¬ l*x<0:=fun hn=>by rw[if_pos hn] at h;exact oqz [] [tv (if x=0 then l else x) r] [(.ie (1+Y0) 0),(.il 0 Y0)] .ff [101] rfl h h1
  rw[if_neg h2,HG] at h
  have h3:0<=x:=Iv.mp fun hx=>h2 (Int.mul_neg_of_pos_of_neg hl hx)
  by_cases h0:x=0
  ·rw[if_pos h0] at h;exact .cons h3 (kl hl h)
  ·rw[if_neg h0] at h;exact .cons h3 (kl (by exact oqz [] [x] [(.il 0 Y0),(.no (.ie Y0 0))] (.il (0+1) Y0) [110,101] rfl h3 h0) h)
theorem ig:∀ {r:List Int}{l:Int},l<0->tv l r<=1->Up r
 | [],_,_,_=>.nil
 |x::r,l,hl,h=>by
  have h1:=vJ r (if x=0 then l else x)
  rw[fW] at h
  by_cases h0:0<x
  ·rw[if_pos (Int.mul_neg_of_neg_of_pos hl h0),if_neg (by exact oqz [] [x] [(.il (0+1) Y0)] (.no (.ie Y0 0)) [101] rfl h0)] at h
   rw[if_neg (by exact oqz [] [x] [(.il (0+1) Y0)] (.no (.ie Y0 0)) [101] rfl h0)] at h1
   have:=kl h0 (show tv x r=0 by exact oqz [] [tv x r] [(.il (1+Y0) 1),(.il 0 Y0)] (.ie Y0 0) [101,11] rfl h h1)
   exact .cons (fun _=>this) (by
    have:r.Pairwise fun _ _=>True:=List.pairwise_of_forall (fun _ _=>trivial)
    exact (List.Pairwise.imp_of_mem (fun {a b} _ hb _ _=>kl h0 (show tv x r=0 by exact oqz [] [tv x r] [(.il (1+Y0) 1),(.il 0 Y0)] (.ie Y0 0) [101,11] rfl h h1) b hb) this))
  ·by_cases hx:x=0
   ·rw[if_pos hx,hx,Hh,if_neg (by decide),HG] at h
    exact .cons (fun h=>absurd h h0) (ig hl h)
   ·have hn:x<0:=oqz [] [x] [(.no (.il (0+1) Y0)),(.no (.ie Y0 0))] (.il (Y0+1) 0) [101,110] rfl h0 hx
    rw[if_neg hx,if_neg (Iv.mpr (IP (Hn hl) (Hn hn))),HG] at h
    exact .cons (fun h=>absurd h h0) (ig hn h)
theorem nY:∀ {r:List Int}{l:Int},0<l->NN r->tv l r=0
 | [],_,_,_=>rfl
 |x::r,l,hl,h=>by
  rw[fW,if_neg (Iv.mpr (Int.mul_nonneg (Hn hl) h.hd)),HG]
  by_cases h0:x=0
  ·rw[if_pos h0];exact nY hl h.tl
  ·rw[if_neg h0];exact nY (by have:=h.hd;exact oqz [] [x] [(.il 0 Y0),(.no (.ie Y0 0))] (.il (0+1) Y0) [110,101] rfl this h0) h.tl
theorem iN:∀ {r:List Int}{l z:Int},l<0->Up r->r.getLast?=some z->0<z->tv l r=1
 | [],_,_,_,_,h,_=>by cases h
 |x::r,l,z,hl,u,h,hz=>by
  rw[fW]
  by_cases h0:0<x
  ·rw[if_pos (Int.mul_neg_of_neg_of_pos hl h0),if_neg (by exact oqz [] [x] [(.il (0+1) Y0)] (.no (.ie Y0 0)) [101] rfl h0),nY h0 (u.hd h0)];rfl
  ·have hr:r.getLast?=some z:=by
    cases r with
    |nil=>rw[List.getLast?_singleton] at h;cases h;omega
    |cons y t=>rw[HX] at h;exact h
   by_cases hx:x=0
   ·rw[if_pos hx,hx,Hh,if_neg (by decide),HG];exact iN hl u.tl hr hz
   ·have hn:x<0:=oqz [] [x] [(.no (.il (0+1) Y0)),(.no (.ie Y0 0))] (.il (Y0+1) 0) [101,110] rfl h0 hx
    rw[if_neg hx,if_neg (Iv.mpr (IP (Hn hl) (Hn hn))),HG]
    exact iN hn u.tl hr hz
structure UP (row:List Int)(p1 q1 p2 q2:Int):Prop where
 b1:0<q1
 b2:0<q2
 lt:p1*q2<p2*q1
 lo:aw p1 q1 row<0
 hi:0<aw p2 q2 row
 up:Up (hs (p1*q2) (p2*q1) (q1*q2) row)
theorem u6{row:List Int}{p1 q1 p2 q2:Int}(h1:0<q1)(h2:0<q2)(lt:p1*q2<p2*q1)(lo:aw p1 q1 row<0)(hi:0<aw p2 q2 row)(h:tv 0 (hs (p1*q2) (p2*q1) (q1*q2) row)=1):UP row p1 q1 p2 q2:=by
 refine ⟨h1,h2,lt,lo,hi,?_⟩
 cases row with
 |nil=>exact .nil
 |cons c r =>
  have hf:=@iZ p1 q1 p2 q2 c r
  have hn:q2^r.length*aw p1 q1 (c::r)<0:=Int.mul_neg_of_pos_of_neg (Ho h2) lo
  have hl:(hs (p1*q2) (p2*q1) (q1*q2) (c::r)).length=r.length+1:=dT
  revert hf hl h
  generalize hs (p1*q2) (p2*q1) (q1*q2) (c::r)=xs
  intro h hf hl
  cases xs with
  |nil=>cases hl
  |cons x t =>
   rw[j0] at hf
   rw[fW,HO,if_neg (by decide),if_neg (by exact oqz [] [x,q2^r.length*aw p1 q1 (c::r)] [(.il (Y1+1) 0),(.ie Y0 Y1)] (.no (.ie Y0 0)) [1110] rfl hn hf),HG] at h
   exact .cons (fun hx=>by omega) (ig (by exact oqz [] [x,q2^r.length*aw p1 q1 (c::r)] [(.il (Y1+1) 0),(.ie Y0 Y1)] (.il (Y0+1) 0) [111] rfl hn hf) (Int.le_of_eq h))
theorem UP.tv{row:List Int}{p1 q1 p2 q2:Int}(u:UP row p1 q1 p2 q2):Mine.tv 0 (hs (p1*q2) (p2*q1) (q1*q2) row)=1:=by
 have h0:=u.up
 cases row with
 |nil=>have:=u.hi;exact absurd this (by show ¬ (0:Int)<0;decide)
 |cons c r =>
  have hf:=@iZ p1 q1 p2 q2 c r
  have hla:=@sN p1 q1 p2 q2 c r
  have hn:q2^r.length*aw p1 q1 (c::r)<0:=Int.mul_neg_of_pos_of_neg (Ho u.b2) u.lo
  have hp:0<q1^r.length*aw p2 q2 (c::r):=Hb (Ho u.b1) u.hi
  have hl:(hs (p1*q2) (p2*q1) (q1*q2) (c::r)).length=r.length+1:=dT
  revert hf hla hl h0
  generalize hs (p1*q2) (p2*q1) (q1*q2) (c::r)=xs
  intro h0 hf hla hl
  cases xs with
  |nil=>cases hl
  |cons x t =>
   rw[j0] at hf
   rw[Mine.tv,HO,if_neg (by decide),if_neg (by exact oqz [] [x,q2^r.length*aw p1 q1 (c::r)] [(.il (Y1+1) 0),(.ie Y0 Y1)] (.no (.ie Y0 0)) [1110] rfl hn hf),HG]
   cases ht:t.getLast? with
   |none =>
    rw[List.getLast?_eq_none_iff] at ht
    subst ht
    rw[jg (l:=x) rfl] at hla;exact oqz [] [Mine.tv x [],q2^r.length*aw p1 q1 (c::r),q1^r.length*aw p2 q2 (c::r),x] [(.il (Y1+1) 0),(.il (0+1) Y2),(.ie Y3 Y1),(.ie Y3 Y2)] (.ie Y0 1) [1001110] rfl hn hp hf hla
   |some z =>
    have:(x::t).getLast?=some z:=by
     cases t with
     |nil=>cases ht
     |cons y w=>rw[HX];exact ht
    rw[jg this] at hla
    exact iN (by exact oqz [] [x,q2^r.length*aw p1 q1 (c::r)] [(.il (Y1+1) 0),(.ie Y0 Y1)] (.il (Y0+1) 0) [111] rfl hn hf) h0.tl ht (by exact oqz [] [z,q1^r.length*aw p2 q2 (c::r)] [(.il (0+1) Y1),(.ie Y0 Y1)] (.il (0+1) Y0) [1011] rfl hp hla)
end Mine
namespace Mine
open PySem
theorem xj{p q a d:Int}(h1:p.gcd q=1)(hq:0<q)(hd:0<d)(e:p*d=a*q):∃g:Int,0<g/\d=q*g/\a=p*g:=by
 have hdv:q ∣ p*d:=⟨a,by rw[e,HS]⟩
 have h2:q ∣ d:=by
  have:=Int.dvd_gcd_mul_iff_dvd_mul.mpr hdv
  rw[Int.gcd_comm,h1] at this
  rw[show d=((1:Nat):Int)*d from (Hs d).symm];exact this
 obtain ⟨g,rfl⟩:=h2
 refine ⟨g,Int.pos_of_mul_pos_right hd hq,rfl,?_⟩
 have e2:q*a=q*(p*g):=by grind
 exact IE (GY hq) e2
theorem Sm.of_le{k:Nat}{x y:Int}(h:Sm k y)(hx:x.natAbs<=y.natAbs):Sm k x:=Hx hx h
theorem tn{k:Nat}{p q a d:Int}(h1:p.gcd q=1)(hq:0<q)(hd:0<d)(e:p*d=a*q)(sa:Sm k a)(sd:Sm k d):Low k p q:=by
 refine cr (xj h1 hq hd e) fun g hg zq111 zq112=>?_;subst zq111;subst zq112
 have hg1:1<=g.natAbs:=oqz [g.natAbs] [g] [(.il (0+1) Y0),(.an (.il Y0 (.c Y0)) (.il (.g Y0) (.c Y0)))] (.le 1 Y0) [111] rfl hg (bC (g))
 refine ⟨sa.of_le ?_,sd.of_le ?_,hq,h1⟩
 ·rw[HU];exact HN _ hg1
 ·rw[HU];exact HN _ hg1
theorem Low.mono{k l:Nat}{p q:Int}(h:Low k p q)(hl:k<=l):Low l p q:=⟨h.top.mono hl,h.bot.mono hl,h.pos,h.one⟩
theorem Low.neg{k:Nat}{p q:Int}(h:Low k p q):Low k (-p) q:=⟨h.top.neg,h.bot,h.pos,by rw[Int.neg_gcd];exact h.one⟩
section
variable {sub:Nat->Nat->Bool}{P:List Fn}{f n dv pa ps ta:Nat}{H:Hp}{Q:V->Hp->Prop}{X:Nat->Hp->Prop}
theorem zP{a b:Int}(hb:0<b)(hs:Sm 60000000 b):pY ((a.gcd b:Nat):Int):=by
 have h0:0<a.gcd b:=Jg a (GY hb)
 have hle:a.gcd b<=b.natAbs:=Nat.le_of_dvd (Jf.mpr (GY hb)) (Iu.mpr (Int.gcd_dvd_right a b))
 exact Int.natCast_ne_zero.mpr (Nat.ne_of_gt h0)
theorem xF(e:P[f]?=some ⟨2,3,gW dv⟩)(ed:P[dv]?=some ⟨2,3,lq⟩){a b:Int}{k:Nat}(hb:0<b)(ha:Sm k a)(hs:Sm k b)(hk:k<=60000000)(hQ:∀p q:Int,Low k p q->p*b=a*q->Q (.tup [.int p,.int q]) H):ag sub P (n+2) f [.int a,.int b] H Q X:=by
 refine ao e rfl ?_
 dsimp only[gW,qS1,qS2,qS3,qS9,bw,vq,qE1,qE5,qE8,qE9,bx,aM,dN,aA,az,nU,fh,dQ,aN,aD,aB,ay,ax,aO,aC,aq,aa,af,aH,Nat.reduceSub]
 rw[decide_eq_false (GY hb)]
 dsimp only[aR]
 refine fo ed ?_
 have ok:=zP (a:=a) hb (hs.mono hk)
 rw[decide_eq_false (Iv.mpr (Hn hb))]
 have e1:=Ir (Int.gcd_dvd_left a b)
 have e2:=Ir (Int.gcd_dvd_right a b)
 refine ⟨ok,ok,hQ _ _ (rz ha hs hb e1 e2) ?_⟩
 generalize a.fdiv ((a.gcd b:Nat):Int)=p at *
 generalize b.fdiv ((a.gcd b:Nat):Int)=q at *
 generalize ((a.gcd b:Nat):Int)=g at *
 subst e1 e2;grind
theorem oz(e:P[ps]?=some ⟨2,2,jO pa⟩)(ep:P[pa]?=some ⟨2,3,gW dv⟩)(ed:P[dv]?=some ⟨2,3,lq⟩){p1 q1 p2 q2:Int}{k l:Nat}(a1:Low k p1 q1)(a2:Low l p2 q2)(hk:k+l+1<=60000000)
  (hQ:∀p q:Int,Low (k+l+1) p q->p*(q1*q2)=(p1*q2+p2*q1)*q->Q (.tup [.int p,.int q]) H):ag sub P (n+3) ps [.tup [.int p1,.int q1],.tup [.int p2,.int q2]] H Q X:=by
 refine ao e rfl ?_
 dsimp only[jO,qS1,qS2,qS9,qE1,qE5,qE8,aM,aU,aA,az,cO,dm,bu,bS,aD,aB,ay,ax,aC,aq,aa,af,Nat.reduceSub]
 have hk1:k<=67108864:=oqz [k,l] [] [(.le (Y0+Y1+1) 60000000)] (.le Y0 67108864) [11] rfl hk
 have hl1:l<=67108864:=oqz [l,k] [] [(.le (Y1+Y0+1) 60000000)] (.le Y0 67108864) [11] rfl hk
 refine ⟨IntMulOk.sm a1.top a2.bot hk1 hl1,IntMulOk.sm a2.top a1.bot hl1 hk1,IntMulOk.sm a1.bot a2.bot hk1 hl1,?_⟩
 exact xF ep ed (Hb a1.pos a2.pos) ((a1.top.mul a2.bot).add ((a2.top.mul a1.bot).mono (by exact oqz [l,k] [] [] (.le (Y0+Y1) (Y1+Y0)) [1] rfl))) ((a1.bot.mul a2.bot).mono (by exact oqz [k,l] [] [] (.le (Y0+Y1) (Y0+Y1+1)) [1] rfl)) hk hQ
theorem pW(zT:TT P){p1 q1 p2 q2:Int}{k l:Nat}(t1:Sm k p1)(b1:Sm k q1)(c1:0<q1)(t2:Sm l p2)(b2:Sm l q2)(c2:0<q2)(hk:k+l<=60000000)
  (hQ:∀p q:Int,Low (k+l) p q->p*(q1*q2)=(p1*p2)*q->Q (.tup [.int p,.int q]) H):ag sub P (n+3) 4 [.tup [.int p1,.int q1],.tup [.int p2,.int q2]] H Q X:=by
 refine ao zT.a4 rfl ?_
 dsimp only[rL,qS1,qS2,qS9,qE1,qE5,qE8,aM,aU,aA,az,dm,bu,bS,aD,aB,ay,ax,aC,aq,aa,af,Nat.reduceSub]
 have hk1:k<=67108864:=oqz [k,l] [] [(.le (Y0+Y1) 60000000)] (.le Y0 67108864) [11] rfl hk
 have hl1:l<=67108864:=oqz [l,k] [] [(.le (Y1+Y0) 60000000)] (.le Y0 67108864) [11] rfl hk
 refine ⟨IntMulOk.sm t1 t2 hk1 hl1,IntMulOk.sm b1 b2 hk1 hl1,?_⟩
 exact xF zT.a1 zT.a0 (Hb c1 c2) (t1.mul t2) (b1.mul b2) hk hQ
theorem uU(e:P[ta]?=some ⟨1,1,ul⟩){p q:Int}(hQ:Q (.tup [.int (-p),.int q]) H):ag sub P (n+1) ta [.tup [.int p,.int q]] H Q X:=ao e rfl hQ
end
end Mine
namespace Mine
open Re
theorem jt{x y:Int}(h:(x:Re)<(y:Re)):x<y:=IM.mp fun g=>by have:=aZ g;grind
theorem gT{x y:Int}(h:(x:Re)<=(y:Re)):x<=y:=Iv.mp fun g=>by have:=io g;grind
theorem fQ{x y:Int}(h:(x:Re)=(y:Re)):x=y:=by
 have h1:(x:Re)<=(y:Re):=by grind
 have h2:(y:Re)<=(x:Re):=by grind
 have zt1:=gT h1;have zt2:=gT h2;exact oqz [] [x,y] [(.il Y0 Y1),(.il Y1 Y0)] (.ie Y0 Y1) [101,11] rfl zt1 zt2
theorem ji{a x y:Re}(ha:a≠0)(h:a*x=a*y):x=y:=by
 have:=bY (show a*(x-y)=0 by grind) ha
 grind
theorem dt{q:Int}(h:0<q):(q:Re)≠0:=fX (GY h)
theorem jf{p1 q1 p2 q2:Int}{x y:Re}(h1:0<q1)(h2:0<q2)(e1:(q1:Re)*x=p1)(e2:(q2:Re)*y=p2):p1*q2<p2*q1 ↔ x<y:=by
 have hq:(0:Re)<(q1:Re)*q2:=mul_pos (bD h1) (bD h2)
 have i1:((p1*q2:Int):Re)=(q1:Re)*q2*x:=by rw[au,<- e1];grind
 have i2:((p2*q1:Int):Re)=(q1:Re)*q2*y:=by rw[au,<- e2];grind
 constructor
 ·intro h
  have:=io h
  rw[i1,i2] at this
  exact jw hq this
 ·intro h
  have k:=mul_pos hq (show 0<y-x by exact eO (h))
  refine jt ?_
  rw[i1,i2]
  rw[show (q1:Re)*q2*(y-x)=q1*q2*y-q1*q2*x by grind] at k
  clear i1 i2 e1 e2 hq;grind
theorem eZ{p1 q1 p2 q2 p q:Int}{x y:Re}(h1:0<q1)(h2:0<q2)(e1:(q1:Re)*x=p1)(e2:(q2:Re)*y=p2)(e:p*(q1*q2)=(p1*q2+p2*q1)*q):(q:Re)*(x+y)=p:=by
 have hq:(q1:Re)*q2≠0:=dO (dt h1) (dt h2)
 have e':=congrArg (fun z:Int=>(z:Re)) e
 simp only[au,ba] at e'
 refine ji hq ?_
 rw[<- e1,<- e2] at e'
 grind
theorem rj{u v p q n:Int}{x:Re}(hv:0<v)(hq:0<q)(e1:(v:Re)*x=u)(e:p*(v*n)=(u*1)*q):(n:Re)*rq p q=x:=by
 have h:(q:Re)*v≠0:=dO (dt hq) (dt hv)
 have e':=congrArg (fun z:Int=>(z:Re)) e
 rw[H7] at e'
 simp only[au] at e'
 have e2:=dw (p:=p) (GY hq)
 refine ji h ?_
 rw[<- e1,<- e2] at e'
 grind
theorem cG{q:Int}(h:0<q):∀n:Nat,0<q^n
 |0=>by rw[HH];decide
 |n+1=>by rw[Hr];exact Hb (cG h n) h
theorem iK{p q:Int}{x:Re}(e:(q:Re)*x=p):(q:Re)*(-x)=((-p:Int):Re):=by rw[cP,<- e];grind
theorem eJ{row:List Int}{p q:Int}{x:Re}(hr:row≠[])(hq:0<q)(e:(q:Re)*x=p):sgn (aw p q row)=rsg (evR row x):=by
 cases row with
 |nil=>exact absurd rfl hr
 |cons c xs =>
  have h:=fv e xs c
  have h2:=congrArg rsg h
  rw[kA,eX,<- i9,kA] at h2
  have:sg (q^xs.length)=1:=by
   have:=cG hq xs.length
   unfold sg;rw[if_neg (by exact oqz [] [q^xs.length] [(.il (0+1) Y0)] (.no (.il (Y0+1) 0)) [11] rfl this),if_pos this]
  rw[this,Hs] at h2
  exact h2
structure Pt (D:Int)(x:Re)(p q:Int):Prop where
 pos:0<q
 one:p.gcd q=1
 val:(q:Re)*x=p
 un:∃a:Int,(D:Re)*x=a
theorem xa{x z:Int}(h1:x<=z)(h2:-z<=x):x.natAbs<=z.natAbs:=oqz [x.natAbs,z.natAbs] [x,z] [(.il Y0 Y1),(.il (.g Y1) Y0),(.an (.il Y1 (.c Y1)) (.il (.g Y1) (.c Y1))),(ona Y0 Y0)] (.le Y0 Y1) [1001011,1001101] rfl h1 h2 (bC (z)) (bn (x))
theorem Pt.low{D B p q:Int}{x:Re}{k:Nat}(h:Pt D x p q)(hD:0<D)(hB:1<=B)(b1:-(B:Re)<=x)(b2:x<=B)(s:Sm k (D*B)):Low k p q:=by
 obtain ⟨a,ha⟩:=h.un
 have e:p*D=a*q:=fQ (by rw[au,au,<- h.val,<- ha];grind)
 have hD':=G4 (bD hD)
 have i1:a<=D*B:=gT (by rw[au,<- ha];have:=ac hD' (show 0<=(B:Re)-x by exact cH (b2));clear e b1 s ha;grind)
 have i2:-(D*B)<=a:=gT (by rw[cP,au,<- ha];have:=ac hD' (show 0<=(B:Re)+x by grind);clear e b1 s ha;grind)
 have i3:D<=D*B:=by have:=JL hB (Hn hD);exact oqz [] [D,D*B] [(.il (.r Y0 1) Y1)] (.il Y0 Y1) [11] rfl this
 have i4:-(D*B)<=D:=HY (Int.neg_nonpos_of_nonneg (HY (Hn hD) i3)) (Hn hD)
 refine tn h.one h.pos hD e (s.of_le ?_) (s.of_le ?_) <;> first|exact xa i1 i2|exact xa i3 i4
theorem Pt.scale{D p q:Int}{x:Re}(h:Pt D x p q)(n:Int):Pt (n*D) x p q:=by
 obtain ⟨a,ha⟩:=h.un
 exact ⟨h.pos,h.one,h.val,n*a,by rw[au,au,<- ha];grind⟩
theorem Pt.of_low{k:Nat}{D p q:Int}{x:Re}(h:Low k p q)(e:(q:Re)*x=p)(u:∃a:Int,(D:Re)*x=a):Pt D x p q:=⟨h.pos,h.one,e,u⟩
theorem qb{P:Nat->Prop}(h:∃n,P n):∃n,P n/\∀m,P m->n<=m:=by
 obtain ⟨n,hn⟩:=h
 induction n using Nat.strongRecOn with
 |ind n ih =>
  by_cases g:∃m,m<n/\P m
  ·refine ae (g) fun m hm pm=>?_;exact ih m hm pm
  ·exact ⟨n,hn,fun m pm=>Nat.not_lt.mp fun l=>g ⟨m,l,pm⟩⟩
open Classical in
noncomputable def muI(I:Nat->Loc->Hp->Prop)(ρ:Loc)(H:Hp):Nat:=if h:∃n,I n ρ H then Classical.choose (qb h) else 0
theorem nC{I:Nat->Loc->Hp->Prop}{ρ:Loc}{H:Hp}(h:∃n,I n ρ H):I (muI I ρ H) ρ H:=by
 unfold muI;rw[dif_pos h];exact (Classical.choose_spec (qb h)).1
theorem nO{I:Nat->Loc->Hp->Prop}{ρ:Loc}{H:Hp}{n:Nat}(h:I n ρ H):muI I ρ H<=n:=by
 unfold muI;rw[dif_pos ⟨n,h⟩];exact (Classical.choose_spec (qb ⟨n,h⟩)).2 n h
structure jM (D:Int)(al lo hi lo' hi':Re)(x1 y1 x2 y2:Int):Prop where
 a1:Pt (8*D) lo' x1 y1
 a2:Pt (8*D) hi' x2 y2
 l1:lo<=lo'
 l2:lo'<al
 u1:al<hi'
 u2:hi'<=hi
 wd:2*(hi'-lo')<=hi-lo
end Mine
namespace Mine
open Re
noncomputable def evl:List Re->Re->Re
 | [],_=>0
 |c::r,t=>c+t*evl r t
theorem dF(c:Re)(r:List Re)(t:Re):evl (c::r) t=c+t*evl r t:=rfl
theorem xm:∀xs:List Re,PR xs.length (evl xs)
 | []=>fun _=>rfl
 |c::xs=>⟨c,evl xs,xm xs,fun _=>rfl⟩
theorem j6:∀ {n:Nat}{f:Re->Re}{rs:List Re},PR n f->rs.length=n->rs.Pairwise (·≠·)->(∀r∈rs,f r=0)->∀t,f t=0
 |0,f,rs,hf,_,_,_=>hf
 |n+1,f,[],_,hl,_,_=>nomatch hl
 |n+1,f,r::rs,hf,hl,hp,h=>fun t=>by
  refine ae (hf.fac r) fun g hg e=>?_
  have h0:=h r (.head _)
  have hp':=I2.mp hp
  have:=j6 hg (Ix hl) hp'.2 (fun x hx=>bY (x:=x-r) (by have:=e x;rw[h x (.tail _ hx),h0] at this;grind) (fun k=>hp'.1 x hx (by grind))) t
  rw[e,h0,this];grind
noncomputable def pts(n:Nat):List Re:=(List.range n).map fun (k:Nat)=>(((k:Int)+1:Int):Re)
theorem xq(n:Nat):(pts n).Pairwise (·≠·):=by
 refine IQ.mpr (List.nodup_range.imp fun h e=>h ?_)
 have:=fQ e;exact oqz [_,_] [] [(.ie (.a (.c Y0) 1) (.a (.c Y1) 1))] (.eq Y0 Y1) [101,11] rfl this
theorem oT:∀ {xs:List Re},(∀n:Int,0<n->evl xs n=0)->∀x∈xs,x=0
 | [],_,_,hx=>nomatch hx
 |c::xs,h,x,hx=>by
  have h0:∀t,evl (c::xs) t=0:=j6 (xm _) (by simp[pts]) (xq (xs.length+1)) (fun r hr=>by
   refine ae (Hq.mp hr) fun k _ zq142=>?_;subst zq142
   exact h _ (by exact oqz [k] [] [] (.il (0+1) (.a (.c Y0) 1)) [1] rfl))
  have hc:c=0:=by have:=h0 0;rw[dF] at this;grind
  rcases Hf.mp hx with rfl|hx
  ·exact hc
  ·exact oT (fun n hn=>bY (x:=(n:Re)) (by have:=h n hn;rw[dF,hc] at this;grind) (dt hn)) x hx
noncomputable def jT(a b:Re):Re->List Re->List Re
 |c,[]=>[c]
 |c,x::r=>(c+x*a)::jT a b (x*b) r
theorem iq(a b c x:Re)(r:List Re):jT a b c (x::r)=(c+x*a)::jT a b (x*b) r:=rfl
theorem uh(a b c:Re):jT a b c []=[c]:=rfl
theorem oH(a b t:Re):∀ (xs:List Re) (c:Re),evl (jT a b c xs) t=c+(a+b*t)*evl xs t
 | [],c=>by show c+t*0=c+(a+b*t)*0;grind
 |x::r,c=>by rw[iq,dF,dF,oH a b t r];grind
theorem oR{a b:Re}:∀ {xs:List Re}{c:Re},(jT a b c xs).length=xs.length+1
 | [],_=>rfl
 |x::r,c=>by rw[iq,List.length_cons,List.length_cons,oR]
noncomputable def UpR(xs:List Re):Prop:=xs.Pairwise fun x y=>0<x->0<=y
theorem kY{x a:Re}(h:0<x*a)(ha:0<a):0<x:=by
 refine Jx.mp fun hx=>?_
 have:=ac (show 0<=-x by grind) (G4 ha)
 grind
structure UpL (n:Nat)(m:Re)(M:List Re):Prop where
 up:UpR (m::M)
 m0:m<0
 la:∃z,M.getLast?=some z/\0<z
 ln:M.length=n+1
theorem zH:∀ {L:List Int}{M:List Re}{k:Re},L.length=M.length->(∀n:Int,0<n->evR L n=k*evl M n)->L.map (fun x:Int=>(x:Re))=M.map (k*·):=fun {L M k} hl h=>by
 have z:∀ (L:List Int) (M:List Re) (t:Re),L.length=M.length->evl (List.zipWith (fun (x:Int) m=>(x:Re)-k*m) L M) t=evR L t-k*evl M t:=by
  intro L
  induction L with
  |nil=>intro M t hl;cases M with
   |nil=>show (0:Re)=0-k*0;grind
   |cons _ _=>cases hl
  |cons x L ih=>intro M t hl;cases M with
   |nil=>cases hl
   |cons m M=>rw[List.zipWith_cons_cons,dF,dF,aP,ih M t (Ix hl)];grind
 have z0:=oT (xs:=List.zipWith (fun (x:Int) m=>(x:Re)-k*m) L M) fun n hn=>by rw[z L M _ hl,h n hn];grind
 clear z h
 induction L generalizing M with
 |nil=>cases M with
  |nil=>rfl
  |cons _ _=>cases hl
 |cons x L ih=>cases M with
  |nil=>cases hl
  |cons m M =>
   rw[G1,G1,ih (Ix hl) fun y hy=>z0 y (.tail _ hy)]
   have:=z0 _ (.head _)
   rw[show (x:Re)=k*m by grind]
theorem CO{L:List Int}{n:Nat}{m k:Re}{M:List Re}(u:UpL n m M)(hk:0<k)(e:L.map (fun x:Int=>(x:Re))=(m::M).map (k*·)):tv 0 L=1:=by
 cases L with
 |nil=>cases e
 |cons x r =>
  rw[G1,G1] at e
  obtain ⟨e1,e2⟩:=List.cons.inj e
  have hx:x<0:=jt (by rw[e1,aE];have:=mul_pos hk (show 0 < -m by have:=u.m0;grind);grind)
  refine ae (u.la) fun z hz z0=>?_
  have hl:=congrArg List.getLast? e2
  rw[IA,IA,hz] at hl
  refine ae (IT.mp hl) fun y hy ey=>?_
  have h0:0<y:=jt (by rw[ey,aE];exact mul_pos hk z0)
  have hu:Up r:=by
   have h1:UpR (M.map (k*·)):=IQ.mpr ((I2.mp u.up).2.imp fun {a b} h g=>ac (G4 hk) (h (kY (x:=a) (a:=k) (by grind) hk)))
   rw[<- e2] at h1
   exact (IQ.mp h1).imp fun {a b} h g=>gT (by rw[aE];exact h (by rw[<- aE];exact io g))
  rw[fW,HO,if_neg (by decide),if_neg (by exact oqz [] [x] [(.il (Y0+1) 0)] (.no (.ie Y0 0)) [110] rfl hx),HG]
  exact iN hx hu hy h0
end Mine
namespace Mine
open PySem
open Re
noncomputable abbrev pt (p q:Int):V:=.tup [.int p,.int q]
inductive mD (H:Hp) (one wv v:V) (D:Int) (al lo hi:Re) (p1 q1 p2 q2:Int) (n:Nat) (ρ:Loc) (H':Hp):Prop
 |mk (e:H'=H) (x1 y1 x2 y2:Int) (o5 o6 o7:Option V) (c0:ρ=[some one,some wv,some v,some (pt x1 y1),some (pt x2 y2),o5,o6,o7]) (c1:(n=1/\x1=p1/\y1=q1/\x2=p2/\y2=q2)\/(n=0/\∃lo' hi',jM D al lo hi lo' hi' x1 y1 x2 y2))
theorem Et{lo hi lo' hi' wr:Re}(h1:2*wr=hi-lo)(h2:2*(hi'-lo')<=hi-lo):¬ wr<hi'+-lo':=by grind
theorem C8{lo hi al wr:Re}(h1:2*wr=hi-lo)(l:lo<al)(u:al<hi):wr<hi+-lo:=by grind
theorem Ep{lo hi m B:Re}(e:2*m=lo+hi)(h:lo<hi)(b1:-B<=lo)(b2:hi<=B):lo<m/\m<hi/\-B<=m/\m<=B:=by grind
theorem wj{D:Int}{lo hi m:Re}{a b:Int}(e:2*m=lo+hi)(h1:(D:Re)*lo=a)(h2:(D:Re)*hi=b):((8*D:Int):Re)*m=((4*(a+b):Int):Re):=by
 rw[au,au,ba,<- h1,<- h2]
 have e8:((8:Int):Re)=8:=rfl
 have e4:((4:Int):Re)=4:=rfl
 rw[e8,e4]
 have:(D:Re)*(2*m)=D*(lo+hi):=by rw[e]
 grind
theorem Ed{D:Int}{lo hi m s:Re}{a b:Int}(e:2*m=lo+hi)(es:8*s=hi-lo)(h1:(D:Re)*lo=a)(h2:(D:Re)*hi=b):((8*D:Int):Re)*(m+-s)=((4*(a+b)-(b-a):Int):Re)/\((8*D:Int):Re)*(m+s)=((4*(a+b)+(b-a):Int):Re):=by
 have h:=wj e h1 h2
 have e8:((8:Int):Re)=8:=rfl
 have k:((8*D:Int):Re)*s=((b-a:Int):Re):=by
  rw[au,ov,<- h1,<- h2,e8]
  have:(D:Re)*(8*s)=D*(hi-lo):=by rw[es]
  grind
 constructor
 ·rw[ov,<- h,<- k];grind
 ·rw[ba,<- h,<- k];grind
theorem DQ{lo hi m s al:Re}(e:2*m=lo+hi)(es:8*s=hi-lo)(h:lo<hi)(ea:m=al):lo<=m+-s/\m+-s<al/\al<m+s/\m+s<=hi/\2*((m+s)-(m+-s))<=hi-lo:=by
 have:0<s:=by
  have h8:(0:Re)<8*s:=by grind
  rcases aS s with g|g|g
  ·exact g
  ·grind
  ·rw[g] at h8;grind
 grind
theorem rsg_is{x:Re}:rsg x=-1 ↔ x<0:=by
 rcases aS x with g|g|g
 ·rw[bj g];constructor
  ·intro h;exact absurd h (by decide)
  ·intro h;grind
 ·rw[bh g];exact ⟨fun _=>g,fun _=>rfl⟩
 ·rw[g,bF];constructor
  ·intro h;exact absurd h (by decide)
  ·intro h;grind
theorem rsg_is0{x:Re}:rsg x=0 ↔ x=0:=by
 rcases aS x with g|g|g
 ·rw[bj g];constructor
  ·intro h;exact absurd h (by decide)
  ·intro h;grind
 ·rw[bh g];constructor
  ·intro h;exact absurd h (by decide)
  ·intro h;grind
 ·rw[g,bF];exact ⟨fun _=>rfl,fun _=>rfl⟩
section
end
end Mine
namespace Mine
open PySem
open Re
section
end
theorem CL(x:Re):Sm 64 (rsg x):=by
 have e:(2:Nat)^64=18446744073709551616:=by decide
 rcases aS x with g|g|g
 ·rw[bj g];unfold Sm;exact oqz [Int.natAbs 1] [] [(ona 1 Y0)] (.le (Y0+1) 18446744073709551616) [101] rfl (bn (1))
 ·rw[bh g];unfold Sm;(clear e g;omega)
 ·rw[g,bF];unfold Sm;exact oqz [Int.natAbs 0] [] [(ona 0 Y0)] (.le (Y0+1) 18446744073709551616) [101] rfl (bn (0))
section
end
end Mine
namespace Mine
open PySem
open Re
section
end
end Mine
namespace Mine
open Re
theorem i5{x c:Re}(h1:-c<=x)(h2:x<=c):ab x<=c:=by rcases f7 x with h|h <;> rw[h] <;> (first|exact h2|grind)
theorem lN{x y:Re}{c d:Int}(h:ab x<=c)(g:ab y<=d):ab (x+y)<=((c+d:Int):Re):=by
 have:=cT x;have:=cT y
 rw[ba];exact i5 (by grind) (by grind)
theorem qI(x:Re):ab (-x)=ab x:=by
 have h1:=cT x;have h2:=cT (-x)
 rcases f7 x with h|h <;> rcases f7 (-x) with g|g <;> rw[h,g] <;> rw[h] at h1 <;> rw[g] at h2 <;> grind
theorem p8{a b c d:Re}(h0:0<=a)(h1:a<=c)(g0:0<=b)(g1:b<=d):a*b<=c*d:=by
 have k1:=ac h0 (show 0<=d-b by exact cH (g1))
 have k2:=ac (show 0<=d by exact bU (g0) (g1)) (show 0<=c-a by exact cH (h1))
 grind
theorem js{x y:Re}{c d:Int}(h:ab x<=c)(g:ab y<=d):ab (x*y)<=((c*d:Int):Re):=by
 rw[cQ,au];exact p8 (aI x) h (aI y) g
theorem f4{n c:Int}(h1:-c<=n)(h2:n<=c):ab (n:Re)<=(c:Re):=i5 (by rw[<- cP];exact aZ h1) (aZ h2)
theorem ku{x:Re}{c d:Int}(h:ab x<=c)(hd:c<=d):ab x<=(d:Re):=by have:=aZ hd;exact bU (h) (this)
noncomputable def PX(f:Re->Re):Prop:=∃n,PR n f
theorem PR.mono{f:Re->Re}{n:Nat}(h:PR n f):∀k,PR (n+k) f
 |0=>h
 |k+1=>(PR.mono h k).up
theorem PX.lin{f g:Re->Re}(r:Re)(hf:PX f)(hg:PX g):PX fun t=>f t+r*g t:=by
 obtain ⟨n,hf⟩:=hf
 obtain ⟨m,hg⟩:=hg
 exact ⟨n+m,PR.lin r (hf.mono m) (Id m n ▸ hg.mono n)⟩
theorem PX.const(c:Re):PX fun _=>c:=⟨1,c,fun _=>0,fun _=>rfl,fun t=>by grind⟩
theorem PX.tmul{f:Re->Re}(h:PX f):PX fun t=>t*f t:=by
 obtain ⟨n,h⟩:=h
 exact ⟨n+1,0,f,h,fun t=>by grind⟩
theorem PX.of{f g:Re->Re}(h:PX f)(e:∀t,f t=g t):PX g:=(funext e:f=g) ▸ h
theorem PX.mulr{g:Re->Re}(hg:PX g):∀ {n:Nat}{f:Re->Re},PR n f->PX fun t=>f t*g t
 |0,f,hf=>(PX.const 0).of fun t=>by rw[hf t];grind
 |n+1,f,⟨c,k,hk,e⟩=>(PX.lin c (PX.mulr hg hk).tmul hg).of fun t=>by rw[e];grind
theorem PX.mul{f g:Re->Re}(hf:PX f)(hg:PX g):PX fun t=>f t*g t:=by
 obtain ⟨n,hf⟩:=hf
 exact PX.mulr hg hf
theorem PX.x(r:Re):PX fun t=>t-r:=(PX.lin (-r) (PX.const 1).tmul (PX.const 1)).of fun t=>by grind
theorem jB(xs:List Int):PX (evR xs):=⟨_,tt xs⟩
theorem PX.cut{f:Re->Re}{u:Re}(h:PX f)(h0:f u=0):∃g,PX g/\∀t,f t=(t-u)*g t:=by
 obtain ⟨n,h⟩:=h
 refine ae (h.up.fac u) fun g hg e=>?_
 exact ⟨g,⟨n,hg⟩,fun t=>by rw[e,h0];grind⟩
theorem PX.at{f g:Re->Re}{u:Re}(hf:PX f)(hg:PX g)(h:∀t,t≠u->f t=g t):f u=g u:=by
 obtain ⟨n,hd⟩:=PX.lin (-1) hf hg
 have:=j6 (rs:=(pts n).map (u+·)) hd (by simp[pts]) (IQ.mpr ((xq n).imp fun h e=>h (by grind))) (fun r hr=>by
  refine ae (Hq.mp hr) fun k hk zq144=>?_;subst zq144
  refine ae (Hq.mp hk) fun j _ zq143=>?_;subst zq143
  have:=dt (show 0<(j:Int)+1 by exact oqz [j] [] [] (.il (0+1) (.a (.c Y0) 1)) [1] rfl)
  rw[h _ (fun e=>this (by grind))];grind) u
 grind
theorem PX.cancel{f g:Re->Re}{u:Re}(hf:PX f)(hg:PX g)(h:∀t,(t-u)*f t=(t-u)*g t):f u=g u:=
 hf.at hg fun t ht=>ji (a:=t-u) (fun e=>ht (by grind)) (h t)
noncomputable def dR:List Int->Re->Re
 | [],_=>0
 |_::r,t=>evR r t+t*dR r t
theorem jF(x:Int)(r:List Int)(t:Re):dR (x::r) t=evR r t+t*dR r t:=rfl
theorem BQ(t:Re):dR [] t=0:=rfl
noncomputable def wR:List Int->Re->Re->Re
 | [],_,_=>0
 |_::r,u,t=>dR r u+t*wR r u t
theorem BF(x:Int)(r:List Int)(u t:Re):wR (x::r) u t=dR r u+t*wR r u t:=rfl
theorem xi(u t:Re):∀xs:List Int,evR xs t=evR xs u+(t-u)*dR xs u+(t-u)*((t-u)*wR xs u t)
 | []=>by show (0:Re)=0+(t-u)*0+(t-u)*((t-u)*0);grind
 |c::xs=>by rw[aP,aP,jF,BF,xi u t xs];grind
theorem vA(t:Re):∀ (r:List Int) (k:Int),evR (sl k r) t=k*evR r t+t*dR r t
 | [],k=>by show (0:Re)=k*0+t*0;grind
 |x::r,k=>by rw[F6,aP,aP,jF,vA t r,au,ba,show ((1:Int):Re)=1 from rfl];grind
theorem FR:∀xs:List Int,PX (dR xs)
 | []=>PX.const 0
 |c::r=>(PX.lin 1 (jB r) (FR r).tmul).of fun t=>by rw[jF];grind
theorem Bt(u:Re):∀xs:List Int,PX (wR xs u)
 | []=>PX.const 0
 |c::r=>(PX.lin 1 (PX.const (dR r u)) (Bt u r).tmul).of fun t=>by rw[BF];grind
section
end
theorem Ci{xs:List Int}{rs:List Re}(h:Tr xs)(hp:rs.Pairwise (·≠·))(h0:∀r∈rs,evR xs r=0):rs.length+1<=xs.length:=by
 refine JU fun hle=>?_
 have z:=j6 (rs:=rs.take xs.length) (tt xs) (by rw[JA,Jl hle]) (hp.sublist (List.take_sublist ..)) (fun r hr=>h0 r (List.mem_of_mem_take hr))
 obtain ⟨t,ht⟩:=h.nz
 refine ht (fQ ?_)
 cases xs with
 |nil=>exact absurd rfl h.ne
 |cons d w =>
  show ((aw t 1 (d::w):Int):Re)=_
  rw[fv (t:=(t:Re)) (show ((1:Int):Re)*(t:Re)=t by show (1:Re)*_=_;grind),z,aE];grind
theorem ui{a:Re}{B C:Int}(ha:ab a<=(B:Re))(hB:0<=B)(hC:0<=C):∀ {xs:List Re}{c:Re},ab c<=(C:Re)->(∀x∈xs,ab x<=(C:Re))->∀y∈jT a 1 c xs,ab y<=((C+C*B:Int):Re)
 | [],c,hc,_,y,hy=>by cases He.mp hy;exact ku hc (by have:=Int.mul_nonneg hC hB;exact oqz [] [C,C*B] [(.il 0 Y1)] (.il Y0 (Y0+Y1)) [11] rfl this)
 |x::r,c,hc,h,y,hy=>by
  have hx:=h x (.head _)
  rcases Hf.mp hy with rfl|hy
  ·exact lN hc (js hx ha)
  ·exact ui ha hB hC (by rw[show x*1=x by grind];exact hx) (fun z hz=>h z (.tail _ hz)) y hy
end Mine
namespace Mine
noncomputable def sd(m:Int):List Int->List Int
 | []=>[]
 | [_]=>[]
 |_::d::r=>ev (d::r) m::sd m (d::r)
theorem sd2(m c d:Int)(r:List Int):sd m (c::d::r)=ev (d::r) m::sd m (d::r):=rfl
theorem sd1(m c:Int):sd m [c]=[]:=rfl
theorem B6(m t:Int):∀xs:List Int,ev xs t=ev xs m+(t-m)*ev (sd m xs) t
 | []=>by rw[bL,bL];show 0=0+(t-m)*ev [] t;rw[bL,Hh];rfl
 | [c]=>by rw[aJ,aJ,bL,bL,sd1,bL,Hh,Hh,Hh];exact oqz [] [c] [] (.ie (Y0+0) (Y0+0+0)) [1] rfl
 |c::d::r=>by
  rw[sd2,aJ c,aJ c,aJ (ev (d::r) m),B6 m t (d::r)];grind
theorem xu(m:Int):∀ {xs:List Int}{n:Nat},xs.length<=n+1->(sd m xs).length<=n
 | [],_,_=>Hl _
 | [_],_,_=>Hl _
 |c::d::r,0,h=>by simp at h
 |c::d::r,n+1,h=>by rw[sd2,List.length_cons];exact IH (xu m (Ip h))
theorem nH{a b c:Int}(h:a=b-c):a.natAbs<=b.natAbs+c.natAbs:=oqz [a.natAbs,b.natAbs,c.natAbs] [a,b,c] [(.ie Y0 (.s Y1 Y2)),(.an (.il Y1 (.c Y1)) (.il (.g Y1) (.c Y1))),(.an (.il Y2 (.c Y2)) (.il (.g Y2) (.c Y2))),(ona Y0 Y0)] (.le Y0 (Y1+Y2)) [101001011,100110101] rfl h (bC (b)) (bC (c)) (bn (a))
theorem BZ{m:Int}{T B M:Nat}(hm:m.natAbs<=T):∀ {xs:List Int},(ev xs m).natAbs<=B->(∀q∈sd m xs,q.natAbs<=M)->M<=B->∀x∈xs,x.natAbs<=B+T*M
 | [],_,_,_,x,hx=>nomatch hx
 | [c],h,_,_,x,hx=>by
  rw[He.mp hx]
  rw[aJ,bL,Hh,Hv] at h
  exact oqz [c.natAbs,B,T*M] [] [(.le Y0 Y1)] (.le Y0 (Y1+Y2)) [11] rfl h
 |c::d::r,h,hq,hMB,x,hx=>by
  rw[sd2] at hq
  have h1:=hq _ GW
  rcases Hf.mp hx with g|g
  ·subst g
   have e:=aJ x (d::r) m
   have k:=nH (show x=ev (x::d::r) m-m*ev (d::r) m by exact oqz [] [x,ev (x::d::r) m,m*ev (d::r) m] [(.ie Y1 (Y0+Y2))] (.ie Y0 (.s Y1 Y2)) [11,101] rfl e)
   rw[HU] at k
   have:=HP hm h1
   exact oqz [x.natAbs,B,T*M,(ev (x::d::r) m).natAbs,m.natAbs*(ev (d::r) m).natAbs] [] [(.le Y3 Y1),(.le Y0 (Y3+Y4)),(.le Y4 Y2)] (.le Y0 (Y1+Y2)) [1111] rfl h k this
  ·exact BZ hm (GP h1 hMB) (fun q hq'=>hq q (G3 _ hq')) hMB x g
theorem y7{m n:Int}{B:Nat}{xs:List Int}(hne:n≠m)(h1:(ev xs m).natAbs<=B)(h2:(ev xs n).natAbs<=B):(ev (sd m xs) n).natAbs<=2*B:=by
 have e:=B6 m n xs
 have k:=nH (show (n-m)*ev (sd m xs) n=ev xs n-ev xs m by exact oqz [] [(n-m)*ev (sd m xs) n,ev xs n,ev xs m] [(.ie Y1 (Y2+Y0))] (.ie Y0 (.s Y1 Y2)) [11,101] rfl e)
 rw[HU] at k
 have:=Nat.le_mul_of_pos_left (ev (sd m xs) n).natAbs (show 0<(n-m).natAbs by exact oqz [(n-m).natAbs] [n,m] [(.an (.il (.s Y0 Y1) (.c Y0)) (.il (.g (.s Y0 Y1)) (.c Y0))),(.no (.ie Y0 Y1))] (.le (0+1) Y0) [1101,1011] rfl (bC (n-m)) hne)
 exact oqz [(ev (sd m xs) n).natAbs,B,(ev xs m).natAbs,(ev xs n).natAbs,(n-m).natAbs*(ev (sd m xs) n).natAbs] [] [(.le Y2 Y1),(.le Y3 Y1),(.le Y4 (Y3+Y2)),(.le Y0 Y4)] (.le Y0 (.m 2 Y1)) [11111] rfl h1 h2 k this
theorem xA{T:Nat}:∀ {ms xs:List Int}{B:Nat},xs.length<=ms.length->ms.Pairwise (·≠·)->(∀m∈ms,m.natAbs<=T)->(∀m∈ms,(ev xs m).natAbs<=B)->∀x∈xs,x.natAbs<=B*(2*T+2)^ms.length
 | [],[],_,_,_,_,_,x,hx=>nomatch hx
 | [],_::_,_,h,_,_,_,_,_=>nomatch h
 |m::ms,xs,B,hl,hp,hT,hB,x,hx=>by
  obtain ⟨p1,p2⟩:=I2.mp hp
  have ih:=xA (T:=T) (ms:=ms) (xs:=sd m xs) (B:=2*B) (xu m hl) p2 (fun k hk=>hT k (G3 _ hk)) (fun k hk=>y7 (fun h=>p1 k hk h.symm) (hB m GW) (hB k (G3 _ hk)))
  have hP:1<=(2*T+2)^ms.length:=Nat.pow_pos (by exact oqz [T] [] [] (.le (0+1) (.a (.m 2 Y0) 2)) [1] rfl)
  have h1:B<=2*B*(2*T+2)^ms.length:=GP (by exact oqz [B] [] [] (.le Y0 (.m 2 Y0)) [1] rfl) (HN (2*B) hP)
  refine GP (BZ (hT m GW) (GP (hB m GW) h1) ih (GU _) x hx) ?_
  rw[List.length_cons,I8]
  generalize (2*T+2)^ms.length=Z
  have:2*B*Z+T*(2*B*Z)=B*(Z*(2*T+2)):=by grind
  exact oqz [2*B*Z,T*(2*B*Z),B*(Z*(2*T+2))] [] [(.eq (Y0+Y1) Y2)] (.le (Y0+Y1) Y2) [11] rfl this
theorem mW{α:Type}(p:α->Bool):∀X:List α,X.length=(X.filter p).length+(X.filter fun x=>!p x).length
 | []=>rfl
 |x::r=>by
  have:=mW p r
  cases h:p x
  ·rw[List.filter_cons_of_neg (by rw[h];decide),List.filter_cons_of_pos (by rw[h];rfl),List.length_cons,List.length_cons];exact oqz [r.length,(List.filter p r).length,(List.filter (fun x=>!p x) r).length] [] [(.eq Y0 (Y1+Y2))] (.eq (Y0+1) (Y1+(Y2+1))) [101,11] rfl this
  ·rw[List.filter_cons_of_pos h,List.filter_cons_of_neg (by rw[h];decide),List.length_cons,List.length_cons];exact oqz [r.length,(List.filter p r).length,(List.filter (fun x=>!p x) r).length] [] [(.eq Y0 (Y1+Y2))] (.eq (Y0+1) (Y1+1+Y2)) [101,11] rfl this
theorem E3{α:Type}{f:α->Nat}{L:Nat}:∀ {Q:Nat}{X:List α},(∀x∈X,f x<Q)->Q*L<X.length->∃c,L<(X.filter fun x=>f x == c).length
 |0,X,hf,hl=>by
  cases X with
  |nil=>simp at hl
  |cons x r=>exact absurd (hf x GW) (J2 _)
 |Q+1,X,hf,hl=>by
  by_cases h:L<(X.filter fun x=>f x == Q).length
  ·exact ⟨Q,h⟩
  ·have hs:=mW (fun x=>f x == Q) X
   obtain ⟨c,hc⟩:=E3 (f:=f) (L:=L) (Q:=Q) (X:=X.filter fun x=>!(f x == Q)) (fun x hx=>by
    obtain ⟨h1,h2⟩:=JG.mp hx
    have h3:=hf x h1
    have h4:¬ f x=Q:=by simpa using h2
    exact oqz [f x,Q] [] [(.le (Y0+1) (Y1+1)),(.no (.eq Y0 Y1))] (.le (Y0+1) Y1) [101,110] rfl h3 h4) (by rw[IX] at hl;exact oqz [Q*L,(List.filter (fun x=>!f x == Q) X).length,L,X.length,(List.filter (fun x=>f x == Q) X).length] [] [(.le (Y0+Y2+1) Y3),(.no (.le (Y2+1) Y4)),(.eq Y3 (Y4+Y1))] (.le (Y0+1) Y1) [1111] rfl hl h hs)
   refine ⟨c,JF hc ?_⟩
   exact (List.Sublist.filter _ JZ).length_le
theorem FU{α:Type}{Q:Nat}:∀ {fs:List (α->Nat)}{X:List α},X.Pairwise (·≠·)->(∀f∈fs,∀x∈X,f x<Q)->Q^fs.length<X.length->∃x y,x∈X/\y∈X/\x≠y/\∀f∈fs,f x=f y
 | [],X,hp,_,hl=>by
  rcases X with _ | ⟨x,_ | ⟨y,r⟩⟩
  ·simp at hl
  ·simp at hl
  ·obtain ⟨h1,_⟩:=I2.mp hp
   exact ⟨x,y,by simp,by simp,h1 y (by simp),fun f hf=>nomatch hf⟩
 |f::fs,X,hp,hf,hl=>by
  rw[List.length_cons,I8,IY] at hl
  obtain ⟨c,hc⟩:=E3 (hf f GW) hl
  refine lI (FU (fs:=fs) (hp.sublist (JZ)) (fun g hg x hx=>hf g (G3 _ hg) x (JG.mp hx).1) hc) fun x y hx hy hne he=>?_
  obtain ⟨x1,x2⟩:=JG.mp hx
  obtain ⟨y1,y2⟩:=JG.mp hy
  refine ⟨x,y,x1,y1,hne,fun g hg=>?_⟩
  rcases Hf.mp hg with rfl|h
  ·have h1:g x=c:=by simpa using x2
   have h2:g y=c:=by simpa using y2
   rw[h1,h2]
  ·exact he g h
theorem t8{b:Nat}:∀ {n x y:Nat},x<b^n->y<b^n->(∀i,i<n->x / b^i % b=y / b^i % b)->x=y
 |0,x,y,hx,hy,_=>by rw[Nat.pow_zero] at hx hy;exact oqz [x,y] [] [(.le (Y0+1) 1),(.le (Y1+1) 1)] (.eq Y0 Y1) [101,11] rfl hx hy
 |n+1,x,y,hx,hy,h=>by
  rw[I8] at hx hy
  have h0:=h 0 (Ja n)
  rw[Nat.pow_zero,Nat.div_one,Nat.div_one] at h0
  have:=t8 (n:=n) (Nat.div_lt_of_lt_mul (IY (b^n) b ▸ hx)) (Nat.div_lt_of_lt_mul (IY (b^n) b ▸ hy)) fun i hi=>by
   have:=h (i+1) (Nat.succ_lt_succ hi)
   rw[I8,IY (b^i) b] at this
   rw[Nat.div_div_eq_div_mul,Nat.div_div_eq_div_mul];exact this
  rw[<- Nat.div_add_mod x b,<- Nat.div_add_mod y b,this,h0]
structure Frm (n C:Nat)(φ:(Nat->Int)->Int):Prop where
 sub:∀v w,φ (fun i=>v i-w i)=φ v-φ w
 bd:∀ (m:Nat) v,(∀i,i<n->(v i).natAbs<=m)->(φ v).natAbs<=C*m
theorem Ez{C n:Nat}:(2*(C*(2*C+1)^n)+1)^n<((2*C+1)^n+1)^(n+1):=by
 generalize hM:(2*C+1)^n=M
 have hM1:1<=M:=by rw[<- hM];exact Nat.pow_pos (by exact oqz [C] [] [] (.le (0+1) (.a (.m 2 Y0) 1)) [1] rfl)
 have h1:2*(C*M)+1<=(2*C+1)*M:=by
  have:(2*C+1)*M=2*(C*M)+M:=by grind
  exact oqz [C*M,(2*C+1)*M,M] [] [(.le 1 Y2),(.eq Y1 (.a (.m 2 Y0) Y2))] (.le (.a (.m 2 Y0) 1) Y1) [1011] rfl hM1 this
 have h2:=IS h1 n
 rw[Nat.mul_pow,hM,IY M,<- I8] at h2
 exact Hx h2 (Nat.pow_lt_pow_left (Ia M) (JS n))
theorem Dy{n C:Nat}{φs:List ((Nat->Int)->Int)}(hl:φs.length=n)(hφ:∀φ∈φs,Frm (n+1) C φ) :
  ∃w:Nat->Int,(∃i,i<n+1/\w i≠0)/\(∀i,(w i).natAbs<=(2*C+1)^n)/\∀φ∈φs,φ w=0:=by
 have hb:0<(2*C+1)^n+1:=Ja _
 have hP:=Ez (C:=C) (n:=n)
 generalize (2*C+1)^n=M at *
 have hd:∀x i:Nat,(((x / (M+1)^i % (M+1):Nat):Int)).natAbs<=M:=fun x i=>by
  have:=Nat.mod_lt (x / (M+1)^i) hb
  exact oqz [(↑(x / (M+1)^i % (M+1)):Int).natAbs,x / (M+1)^i % (M+1),M] [] [(.le (Y1+1) (Y2+1)),(ona (.c Y1) Y0)] (.le Y0 Y2) [1011] rfl this (bn ((↑(x / (M+1)^i % (M+1)):Int)))
 have hv:∀φ∈φs,∀x:Nat,(φ fun i=>((x / (M+1)^i % (M+1):Nat):Int)).natAbs<=C*M:=fun φ h x=>(hφ φ h).bd M _ fun i _=>hd x i
 obtain ⟨x,y,hx,hy,hne,he⟩:=FU (Q:=2*(C*M)+1) (fs:=φs.map fun φ (x:Nat)=>((φ fun i=>((x / (M+1)^i % (M+1):Nat):Int))+((C*M:Nat):Int)).toNat) (X:=List.range ((M+1)^(n+1))) List.nodup_range (fun f hf x _=>by
  refine ae (Hq.mp hf) fun φ h1 zq8=>?_;subst zq8
  have:=hv φ h1 x
  dsimp only
  exact oqz [((φ fun i=>(↑(x / (M+1)^i % (M+1)):Int))+(↑(C*M):Int)).toNat,C*M,(φ fun i=>(↑(x / (M+1)^i % (M+1)):Int)).natAbs] [φ fun i=>(↑(x / (M+1)^i % (M+1)):Int)] [(.le Y2 Y1),(.an (.il Y0 (.c Y2)) (.il (.g Y0) (.c Y2))),(otn (.a Y0 (.c Y1)) Y0)] (.le (Y0+1) (.a (.m 2 Y1) 1)) [100111,100001] rfl this (bC (φ fun i=>(↑(x / (M+1)^i % (M+1)):Int))) (aQ ((φ fun i=>(↑(x / (M+1)^i % (M+1)):Int))+(↑(C*M):Int)))) (by rw[GO,hl,Jb];exact hP)
 refine ⟨fun i=>((x / (M+1)^i % (M+1):Nat):Int)-((y / (M+1)^i % (M+1):Nat):Int),HD fun hn=>hne (t8 (Jy.mp hx) (Jy.mp hy) fun i hi=>?_),fun i=>?_,fun φ h=>?_⟩
 ·refine HD fun hi'=>hn ⟨i,hi,fun h0=>hi' ?_⟩
  exact Int.ofNat_inj.mp (Int.sub_eq_zero.mp h0)
 ·have h1:=hd x i
  have h2:=hd y i
  dsimp only
  exact oqz [((↑(x / (M+1)^i % (M+1)):Int)-(↑(y / (M+1)^i % (M+1)):Int)).natAbs,x / (M+1)^i % (M+1),y / (M+1)^i % (M+1),M,(↑(x / (M+1)^i % (M+1)):Int).natAbs,(↑(y / (M+1)^i % (M+1)):Int).natAbs] [] [(.le Y4 Y3),(.le Y5 Y3),(.an (.il (.c Y1) (.c Y4)) (.il (.g (.c Y1)) (.c Y4))),(.an (.il (.c Y2) (.c Y5)) (.il (.g (.c Y2)) (.c Y5))),(ona (.s (.c Y1) (.c Y2)) Y0)] (.le Y0 Y3) [100001011,100100101] rfl h1 h2 (bC ((↑(x / (M+1)^i % (M+1)):Int))) (bC ((↑(y / (M+1)^i % (M+1)):Int))) (bn ((↑(x / (M+1)^i % (M+1)):Int)-(↑(y / (M+1)^i % (M+1)):Int)))
 ·have h3:=he _ (Hq.mpr ⟨φ,h,rfl⟩)
  have h1:=hv φ h x
  have h2:=hv φ h y
  rw[(hφ φ h).sub]
  exact oqz [((φ fun i=>(↑(x / (M+1)^i % (M+1)):Int))+(↑(C*M):Int)).toNat,C*M,((φ fun i=>(↑(y / (M+1)^i % (M+1)):Int))+(↑(C*M):Int)).toNat,(φ fun i=>(↑(x / (M+1)^i % (M+1)):Int)).natAbs,(φ fun i=>(↑(y / (M+1)^i % (M+1)):Int)).natAbs] [φ fun i=>(↑(x / (M+1)^i % (M+1)):Int),φ fun i=>(↑(y / (M+1)^i % (M+1)):Int)] [(.eq Y0 Y2),(.le Y3 Y1),(.le Y4 Y1),(.an (.il Y0 (.c Y3)) (.il (.g Y0) (.c Y3))),(.an (.il Y1 (.c Y4)) (.il (.g Y1) (.c Y4))),(otn (.a Y0 (.c Y1)) Y0),(otn (.a Y1 (.c Y1)) Y2)] (.ie (.s Y0 Y1) 0) [100010000000101,100010001001101,1000001001001,10100000000011,10100100010011,1100010001] rfl h3 h1 h2 (bC (φ fun i=>(↑(x / (M+1)^i % (M+1)):Int))) (bC (φ fun i=>(↑(y / (M+1)^i % (M+1)):Int))) (aQ ((φ fun i=>(↑(x / (M+1)^i % (M+1)):Int))+(↑(C*M):Int))) (aQ ((φ fun i=>(↑(y / (M+1)^i % (M+1)):Int))+(↑(C*M):Int)))
end Mine
namespace Mine
open Re
noncomputable def vF:Nat->(Nat->Int)->Re->Re
 |0,_,_=>0
 |n+1,v,g=>vF n v g+(v n:Re)*g^n
theorem vFC(n:Nat)(v:Nat->Int)(g:Re):vF (n+1) v g=vF n v g+(v n:Re)*g^n:=rfl
theorem rk(a b:Int)(v w:Nat->Int)(g:Re):∀n,vF n (fun i=>a*v i-b*w i) g=a*vF n v g-b*vF n w g
 |0=>by show (0:Re)=a*0-b*0;grind
 |n+1=>by rw[vFC,vFC,vFC,rk a b v w g n,ov,au,au];grind
noncomputable def shF(v:Nat->Int):Nat->Int
 |0=>0
 |j+1=>v j
theorem B8(v:Nat->Int)(g:Re):∀n,vF (n+1) (shF v) g=g*vF n v g
 |0=>by show 0+((0:Int):Re)*g^0=g*0;rw[aE];grind
 |n+1=>by rw[vFC,B8 v g n,vFC n v];show _+((v n:Int):Re)*g^(n+1)=_;rw[GQ];grind
noncomputable def stp(l:Int)(k:Nat->Int)(n:Nat)(v:Nat->Int):Nat->Int:=fun i=>l*shF v i-v n*k i
theorem Eu{l:Int}{k:Nat->Int}{n:Nat}{g:Re}(h:vF (n+1) k g+(l:Re)*g^(n+1)=0)(v:Nat->Int):vF (n+1) (stp l k n v) g=l*(g*vF (n+1) v g):=by
 unfold stp
 rw[rk l (v n) (shF v) k g (n+1),B8,vFC n v,show vF (n+1) k g=-((l:Re)*g^(n+1)) by grind,GQ]
 grind
noncomputable def hor(l:Int)(k:Nat->Int)(n:Nat)(v:Nat->Int):List Int->Nat->Int
 | []=>fun _=>0
 |p::r=>fun i=>stp l k n (hor l k n v r) i+l^r.length*p*v i
theorem xr(l:Int)(k:Nat->Int)(n:Nat)(v:Nat->Int)(p:Int)(r:List Int)(i:Nat):hor l k n v (p::r) i=stp l k n (hor l k n v r) i+l^r.length*p*v i:=rfl
theorem sI(g:Re):∀n,vF n (fun _=>0) g=0
 |0=>rfl
 |n+1=>by rw[vFC,sI g n,aE];grind
theorem tW{l:Int}{k:Nat->Int}{n:Nat}{g:Re}(h:vF (n+1) k g+(l:Re)*g^(n+1)=0)(v:Nat->Int):∀P:List Int,(l:Re)*vF (n+1) (hor l k n v P) g=(l:Re)^P.length*(evR P g*vF (n+1) v g)
 | []=>by rw[show hor l k n v []=fun _=>0 from rfl,sI,dE];grind
 |p::r=>by
  have ih:=tW h v r
  have e:hor l k n v (p::r)=fun i=>1*stp l k n (hor l k n v r) i-(-(l^r.length*p))*v i:=funext fun i=>by rw[xr,Hs,HC,Int.sub_neg]
  rw[e,rk,Eu h,aP,List.length_cons,GQ,cP,au,i9,show ((1:Int):Re)=1 from rfl]
  generalize vF (n+1) (hor l k n v r) g=x at *
  generalize vF (n+1) v g=y at *
  generalize (l:Re)^r.length=z at *
  generalize (l:Re)=m at *
  clear e h
  grind
theorem zQ(v w:Nat->Int)(i:Nat):shF (fun i=>v i-w i) i=shF v i-shF w i:=by cases i <;> rfl
theorem sS(l:Int)(k:Nat->Int)(n:Nat)(v w:Nat->Int):∀ (P:List Int) (i:Nat),hor l k n (fun i=>v i-w i) P i=hor l k n v P i-hor l k n w P i
 | [],i=>rfl
 |p::r,i=>by
  rw[xr,xr,xr]
  unfold stp
  rw[show hor l k n (fun i=>v i-w i) r=fun i=>hor l k n v r i-hor l k n w r i from funext (sS l k n v w r),zQ]
  grind
theorem xK{l:Int}{k:Nat->Int}{n B m:Nat}{v:Nat->Int}(hB:1<=B)(hl:l.natAbs<=B)(hk:∀i,i<=n->(k i).natAbs<=B)(hv:∀i,i<n+1->(v i).natAbs<=m):∀ {P:List Int},(∀p∈P,p.natAbs<=B)->∀i,i<n+1->(hor l k n v P i).natAbs<=(3*B)^P.length*m
 | [],_,i,_=>Hl _
 |p::r,hP,i,hi=>by
  have ih:=xK (P:=r) hB hl hk hv fun q hq=>hP q (G3 _ hq)
  have h1:(stp l k n (hor l k n v r) i).natAbs<=B*((3*B)^r.length*m)+B*((3*B)^r.length*m):=by
   refine GP (nH rfl) ?_
   rw[HU,HU]
   refine Nat.add_le_add (HP hl ?_) ?_
   ·cases i with
    |zero=>exact Hl _
    |succ j=>exact ih j (by exact oqz [j,n] [] [(.le (Y0+1+1) (Y1+1))] (.le (Y0+1) (Y1+1)) [11] rfl hi)
   ·rw[IY];exact HP (hk i (by exact oqz [i,n] [] [(.le (Y0+1) (Y1+1))] (.le Y0 Y1) [11] rfl hi)) (ih n (Ia n))
  have h2:(l^r.length*p*v i).natAbs<=B*((3*B)^r.length*m):=by
   rw[HU,HU,Int.natAbs_pow,IY _ p.natAbs,Nat.mul_assoc]
   refine HP (hP p GW) (HP (GP (IS hl _) (IS (by exact oqz [B] [] [] (.le Y0 (.m 3 Y0)) [1] rfl) _)) (hv i hi))
  rw[xr,List.length_cons,I8]
  have h3:=Int.natAbs_add_le (stp l k n (hor l k n v r) i) (l^r.length*p*v i)
  generalize (3*B)^r.length=Z at *
  have:Z*(3*B)*m=B*(Z*m)+B*(Z*m)+B*(Z*m):=by grind
  exact oqz [(stp l k n (hor l k n v r) i+l^r.length*p*v i).natAbs,Z*(3*B)*m,(stp l k n (hor l k n v r) i).natAbs,(l^r.length*p*v i).natAbs,B*(Z*m)] [] [(.le Y0 (Y2+Y3)),(.le Y2 (Y4+Y4)),(.le Y3 Y4),(.eq Y1 (Y4+Y4+Y4))] (.le Y0 Y1) [101111] rfl h3 h1 h2 this
theorem Bx(g:Re):∀ (n:Nat) (v:Nat->Int),vF n v g=evR ((List.range n).map v) g:=by
 intro n
 induction n with
 |zero=>intro v;rfl
 |succ n ih =>
  intro v
  have h2:vF (n+1) v g=(v 0:Re)+g*vF n (fun i=>v (i+1)) g:=by
   clear ih
   induction n with
   |zero=>rw[vFC];show 0+_*g^0=_+g*0;rw[GT];grind
   |succ n ih=>rw[vFC,ih,vFC,GQ];grind
  rw[h2,ih,JK,G1,Hw,aP];rfl
theorem wt{g:Re}{v:Nat->Int}{n:Nat}(h:∀i,1<=i->i<n+1->v i=0):vF (n+1) v g=(v 0:Re):=by
 induction n with
 |zero=>rw[vFC];show 0+_*g^0=_;rw[GT];grind
 |succ n ih=>rw[vFC,ih fun i h1 h2=>h i h1 (by exact oqz [i,n] [] [(.le (Y0+1) (Y1+1))] (.le (Y0+1) (Y1+1+1)) [11] rfl h2),h (n+1) (by exact oqz [n] [] [] (.le 1 (Y0+1)) [1] rfl) (by exact oqz [n] [] [] (.le (Y0+1+1) (Y0+1+1)) [1] rfl),aE];grind
theorem Be{g:Re}{v:Nat->Int}{M R:Nat}(hR:1<=R)(hg:ab g<=((R:Int):Re))(hv:∀i,(v i).natAbs<=M):∀n,ab (vF n v g)<=(((n*(M*R^n):Nat):Int):Re)
 |0=>by show ab 0<=_;rw[Nat.zero_mul];exact f4 (n:=0) (by decide) (by decide)
 |n+1=>by
  rw[vFC]
  have hp:∀n:Nat,ab (g^n)<=(((R^n:Nat):Int):Re):=fun n=>by
   induction n with
   |zero=>rw[GT,Nat.pow_zero];exact f4 (n:=1) (by decide) (by decide)
   |succ n ih=>rw[GQ,I8,HQ];exact js ih hg
  have h1:=Be hR hg hv n
  have h2:=js (f4 (n:=v n) (c:=(M:Int)) (by have:=hv n;exact oqz [M,(v n).natAbs] [v n] [(.le Y1 Y0),(.an (.il Y0 (.c Y1)) (.il (.g Y0) (.c Y1)))] (.il (.g (.c Y0)) Y0) [1011] rfl this (bC (v n))) (by have:=hv n;exact oqz [M,(v n).natAbs] [v n] [(.le Y1 Y0),(.an (.il Y0 (.c Y1)) (.il (.g Y0) (.c Y1)))] (.il Y0 (.c Y0)) [111] rfl this (bC (v n)))) (hp n)
  refine ku (lN h1 h2) ?_
  rw[<- HQ,<- Int.natCast_add]
  refine Il.mpr ?_
  have:R^n<=R^(n+1):=HL hR (Ij n)
  have:=Hu M this
  have:=Hu n this
  rw[IX]
  omega
theorem Gl{l:Int}{k:Nat->Int}{n B R:Nat}{g:Re}{P:List Int}(h:vF (n+1) k g+(l:Re)*g^(n+1)=0)(l0:l≠0)(hmin:∀xs:List Int,xs.length<=n+1->evR xs g=0->∀x∈xs,x=0)
  (hB:1<=B) (hl:l.natAbs<=B) (hk:∀i,i<=n->(k i).natAbs<=B) (hP:∀p∈P,p.natAbs<=B) (hR:1<=R) (hg:ab g<=((R:Int):Re)) (h0:evR P g≠0) :
  1<=(((B^P.length*((n+1)*((2*(3*B)^P.length+1)^n*R^(n+1))):Nat):Int):Re)*ab (evR P g):=by
 obtain ⟨w,⟨i,hi,hwi⟩,hw,hz⟩:=Dy (n:=n) (C:=(3*B)^P.length) (φs:=(List.range n).map fun j v=>hor l k n v P (j+1)) (by rw[GO,Jb]) (fun φ hφ=>by
  refine ae (Hq.mp hφ) fun j hj zq9=>?_;subst zq9
  have:=Jy.mp hj
  exact ⟨fun v w=>sS l k n v w P (j+1),fun m v hv=>xK hB hl hk hv hP (j+1) (by exact oqz [j,n] [] [(.le (Y0+1) Y1)] (.le (Y0+1+1) (Y1+1)) [11] rfl this)⟩)
 have hw0:vF (n+1) w g≠0:=fun e=>hwi (hmin ((List.range (n+1)).map w) (by rw[GO,Jb];exact GU _) (by rw[<- Bx];exact e) _ (Hq.mpr ⟨i,Jy.mpr hi,rfl⟩))
 have hv:=tW h w P
 rw[wt (v:=hor l k n w P) fun j h1 h2=>by
  obtain ⟨j',rfl⟩:∃j',j=j'+1:=⟨j-1,by exact oqz [j,j-1] [] [(.le 1 Y0),(osb Y0 1 Y1)] (.eq Y0 (Y1+1)) [10001,1011,1001,101] rfl h1 (am (j) (1))⟩
  exact hz _ (Hq.mpr ⟨j',Jy.mpr (by exact oqz [j',n] [] [(.le (Y0+1+1) (Y1+1))] (.le (Y0+1) Y1) [11] rfl h2),rfl⟩)] at hv
 have hl':=fX l0
 have hne:l*hor l k n w P 0≠0:=fun e=>by
  rw[<- au,e,aE] at hv
  have hpow:∀d:Nat,(l:Re)^d≠0:=fun d=>by
   induction d with
   |zero=>rw[GT];exact mV
   |succ d ih=>rw[GQ];exact dO ih hl'
  exact dO (hpow _) (dO h0 hw0) hv.symm
 have k1:=rH hne
 rw[au,hv,cQ,cQ] at k1
 have k2:=Be hR hg hw (n+1)
 have k3:ab ((l:Re)^P.length)<=(((B^P.length:Nat):Int):Re):=by
  rw[<- i9]
  have:(l^P.length).natAbs<=B^P.length:=by rw[Int.natAbs_pow];exact IS hl _
  exact f4 (by exact oqz [B^P.length,(l^P.length).natAbs] [l^P.length] [(.le Y1 Y0),(.an (.il Y0 (.c Y1)) (.il (.g Y0) (.c Y1)))] (.il (.g (.c Y0)) Y0) [1011] rfl this (bC (l^P.length))) (by exact oqz [B^P.length,(l^P.length).natAbs] [l^P.length] [(.le Y1 Y0),(.an (.il Y0 (.c Y1)) (.il (.g Y0) (.c Y1)))] (.il Y0 (.c Y0)) [111] rfl this (bC (l^P.length)))
 have n1:=aI (evR P g)
 have n2:=aI (vF (n+1) w g)
 have n3:=aI ((l:Re)^P.length)
 rw[HQ,au]
 generalize ab (evR P g)=x at *
 generalize ab (vF (n+1) w g)=y at *
 generalize ab ((l:Re)^P.length)=z at *
 generalize (((B^P.length:Nat):Int):Re)=b at *
 generalize ((((n+1)*((2*(3*B)^P.length+1)^n*R^(n+1)):Nat):Int):Re)=c at *
 clear hv hw0 hne hl' hw hz h h0 hg
 have a1:=ac (ac n1 n2) (show 0<=b-z by grind)
 have a2:=ac (ac n1 (show 0<=b by grind)) (show 0<=c-y by grind)
 grind
theorem Gg{B:List Int}{s:Int}(hs:B.getLast?=some s)(s0:s≠0):∀ (n:Nat) (A:List Int),A.length<=n->∃ (c:Int) (q R:List Int),c≠0/\R.length<B.length/\∀t,c*ev A t=ev q t*ev B t+ev R t:=by
 have hB:0<B.length:=by cases B with|nil=>cases hs|cons _ _=>simp
 intro n
 induction n with
 |zero =>
  intro A hA
  exact ⟨1,[],A,by decide,by exact oqz [A.length,B.length] [] [(.le (0+1) Y1),(.le Y0 0)] (.le (Y0+1) Y1) [111] rfl hB hA,fun t=>by rw[bL];exact oqz [] [ev A t,ev B t] [] (.ie (.m 1 Y0) (.a (.m 0 Y1) Y0)) [1] rfl⟩
 |succ n ih =>
  intro A hA
  by_cases hl:A.length<B.length
  ·exact ⟨1,[],A,by decide,hl,fun t=>by rw[bL];exact oqz [] [ev A t,ev B t] [] (.ie (.m 1 Y0) (.a (.m 0 Y1) Y0)) [1] rfl⟩
  ·refine aF (kW (xs:=A) (n:=B.length) (by exact oqz [B.length,A.length] [] [(.no (.le (Y1+1) Y0))] (.le Y0 Y1) [11] rfl hl)) fun l0 l1 zq13 h1 h2=>?_;subst zq13
   have hne:l1≠[]:=fun h=>by rw[h] at h1;simp at h1;exact oqz [B.length] [] [(.le (0+1) Y0),(.eq 0 Y0)] .ff [101] rfl hB h1
   obtain ⟨m,hm⟩:∃m,l1.getLast?=some m:=by
    cases hh:l1.getLast? with
    |none=>exact absurd (List.getLast?_eq_none_iff.mp hh) hne
    |some m=>exact ⟨m,rfl⟩
   have eD:=fun t=>ry (s:=s) (m:=m) (l0:=l0) h1 t
   have lD:(wlo s m l0 l1 B).getLast?=some 0:=by
    have:=iE (s:=s) (m:=m) h1 hm hs
    rw[wlo,Jv,this,Int.sub_self];rfl
   have nD:=kq (s:=s) (m:=m) (l0:=l0) h1
   generalize wlo s m l0 l1 B=D at *
   obtain ⟨D0,rfl⟩:=Jw.mp lD
   rw[GR] at nD hA
   refine dL (ih D0 (by rw[G8] at nD;exact oqz [D0.length,n,B.length,l0.length,l1.length] [] [(.le (Y3+Y4) (Y1+1)),(.eq Y4 Y2),(.eq (Y0+1) (Y3+Y2))] (.le Y0 Y1) [11011] rfl hA h1 nD)) fun c q R hc hR e=>?_
   obtain ⟨q2,hq2⟩:=((PF.ev q).add ((r5 l0.length).smul (c*m)))
   refine ⟨c*s,q2,R,HF hc s0,hR,fun t=>?_⟩
   have h3:=e t
   have h4:=eD t
   rw[kR] at h4
   rw[h4] at h3
   rw[<- hq2]
   grind
theorem AC{F:List Int}{g:Re}(tF:Tr F)(hg:evR F g=0):∃K:List Int,Tr K/\evR K g=0/\∀xs:List Int,xs.length<K.length->evR xs g=0->∀x∈xs,x=0:=by
 refine ae (qb (P:=fun n=>∃K:List Int,Tr K/\evR K g=0/\K.length=n) ⟨_,F,tF,hg,rfl⟩) fun n zq12 hmin=>?_;obtain ⟨K,tK,hK,rfl⟩:=zq12
 refine ⟨K,tK,hK,fun xs hl h0=>?_⟩
 refine cr (oS xs) fun ys hy e ly=>?_
 rcases hy with rfl|ty
 ·exact mU fun t=>by rw[e,bL]
 ·have:=hmin _ ⟨ys,ty,by rw[<- kz e,h0],rfl⟩
  omega
theorem Ar{F K:List Int}{g:Re}{s:Int}(hs:K.getLast?=some s)(s0:s≠0)(hg:evR F g=0)(hK:evR K g=0)(hmin:∀xs:List Int,xs.length<K.length->evR xs g=0->∀x∈xs,x=0):Dv (ev K) (ev F):=by
 refine dL (Gg hs s0 F.length F (GU _)) fun c q R hc hR e=>?_
 have eR:=kz (xs:=smul c F) (ys:=eU (cx q K) R) (fun t=>by rw[bQ,e,fb,cM]) g
 rw[bG,gp,d8,hg,hK] at eR
 have z:=hmin R hR (by grind)
 have zR:∀t,ev R t=0:=by
  intro t
  clear e eR hR
  induction R with
  |nil=>exact bL t
  |cons x r ih=>rw[aJ,z x GW,ih fun y hy=>z y (G3 _ hy),Hh];rfl
 exact ⟨c,ev q,hc,PF.ev q,fun t=>by rw[e,zR,Hv,HS]⟩
theorem nT(xs:List Int)(t:Int):((ev xs t:Int):Re)=evR xs (t:Re):=by
 cases xs with
 |nil=>rw[bL,aE];rfl
 |cons c r=>unfold ev;rw[fv (t:=(t:Re)) (show ((1:Int):Re)*(t:Re)=t by show (1:Re)*_=_;grind)];show (1:Re)^_*_=_;rw[Lean.Grind.Semiring.one_pow];grind
theorem Cc{F:List Int}(tF:Tr F):∃ms:List Int,ms.length=F.length/\ms.Pairwise (·≠·)/\∀m∈ms,m.natAbs<=2*F.length/\ev F m≠0:=by
 have hp:((List.range (2*F.length)).map fun (k:Nat)=>(k:Int)).Pairwise (·≠·):=IQ.mpr (List.nodup_range.imp fun h e=>h (Int.ofNat_inj.mp e))
 have hb:∀m∈(List.range (2*F.length)).map (fun (k:Nat)=>(k:Int)),m.natAbs<=2*F.length:=fun m hm=>by
  refine ae (Hq.mp hm) fun k hk zq11=>?_;subst zq11
  have:=Jy.mp hk
  exact oqz [(↑k:Int).natAbs,k,F.length] [] [(.le (Y1+1) (.m 2 Y2)),(ona (.c Y1) Y0)] (.le Y0 (.m 2 Y2)) [1011] rfl this (bn ((↑k:Int)))
 have hl:((List.range (2*F.length)).map fun (k:Nat)=>(k:Int)).length=2*F.length:=by rw[GO,Jb]
 generalize (List.range (2*F.length)).map (fun (k:Nat)=>(k:Int))=X at *
 have hs:=mW (fun m=>ev F m == 0) X
 have h1:=Ci (rs:=(X.filter fun m=>ev F m == 0).map fun (m:Int)=>(m:Re)) tF (IQ.mpr ((hp.sublist JZ).imp fun h e=>h (fQ e))) (fun r hr=>by
  refine ae (Hq.mp hr) fun m hm zq10=>?_;subst zq10
  have h0:ev F m=0:=by simpa using (JG.mp hm).2
  rw[<- nT,h0,aE])
 rw[GO] at h1
 refine ⟨(X.filter fun m=>!(ev F m == 0)).take F.length,by rw[JA];exact oqz [min F.length (List.filter (fun m=>!ev F m == 0) X).length,F.length,(List.filter (fun m=>!ev F m == 0) X).length,X.length,(List.filter (fun m=>ev F m == 0) X).length] [] [(.eq Y3 (.m 2 Y1)),(.eq Y3 (Y4+Y2)),(.le (Y4+1) Y1),(.or (.an (.le Y1 Y2) (.eq Y0 Y1)) (.an (.le Y2 Y1) (.eq Y0 Y2)))] (.eq Y0 Y1) [100000001,100101101,10000001,11000001] rfl hl hs h1 (Mine.lP (F.length) ((List.filter (fun m=>!ev F m == 0) X).length)),(hp.sublist JZ).sublist (List.take_sublist ..),fun m hm=>?_⟩
 obtain ⟨a,b⟩:=JG.mp (List.mem_of_mem_take hm)
 exact ⟨hb m a,by simpa using b⟩
theorem vV{F A h:List Int}{K:Nat}(tF:Tr F)(hl:F.length<=13)(sF:AllSm K F)(hA:A.length<=F.length)(e:∀t,ev F t=ev A t*ev h t):AllSm (K+172) A:=by
 refine cr (Cc tF) fun ms m1 m2 m3=>?_
 have hT:∀m∈ms,m.natAbs<=26:=fun m hm=>GP (m3 m hm).1 (by exact oqz [F.length] [] [(.le Y0 13)] (.le (.m 2 Y0) 26) [21] rfl hl)
 have:=xA (T:=26) (ms:=ms) (xs:=A) (B:=2^(K+92)) (by rw[m1];exact hA) m2 hT (fun m hm=>by
  have s5:Sm 5 m:=Hx (hT m hm) (by decide)
  have hv:Sm (K+1+F.length*7) (ev F m):=fS s5 (by unfold Sm;decide) sF
  have hv2:(ev F m).natAbs<=2^(K+92):=Ji (hv.mono (l:=K+92) (by exact oqz [K,F.length] [] [(.le Y1 13)] (.le (.a (Y0+1) (.r Y1 7)) (Y0+92)) [71] rfl hl))
  have h0:=(m3 m hm).2
  rw[e] at h0 hv2
  rw[HU] at hv2
  exact GP (HN _ (Jf.mpr fun g=>h0 (by rw[g,Hh]))) hv2)
 intro x hx
 refine Hx (this x hx) ?_
 have h1:(2*26+2)^ms.length<=2^78:=GP (HL (by decide) (show ms.length<=13 by exact oqz [ms.length,F.length] [] [(.le Y1 13),(.eq Y0 Y1)] (.le Y0 13) [111] rfl hl m1)) (by decide)
 refine Hx (Hu _ h1) ?_
 rw[<- IW]
 exact Nat.pow_lt_pow_right (by decide) (by exact oqz [K] [] [] (.le (Y0+92+78+1) (Y0+172)) [1] rfl)
noncomputable def ic:List Int->Re->List Re
 | [],_=>[]
 |c::r,g=>jT g 1 (c:Re) (ic r g)
theorem CV(c:Int)(r:List Int)(g:Re):ic (c::r) g=jT g 1 (c:Re) (ic r g):=rfl
theorem lL(g z:Re):∀xs:List Int,evl (ic xs g) z=evR xs (g+z)
 | []=>rfl
 |c::r=>by rw[CV,oH,lL g z r,aP];grind
theorem iu(g:Re):∀xs:List Int,(ic xs g).length=xs.length
 | []=>rfl
 |c::r=>by rw[CV,oR,iu g r,List.length_cons]
theorem tU(g:Re):∀ (r:List Int) (c d:Int),∃r2,ic (c::d::r) g=evR (c::d::r) g::dR (c::d::r) g::r2
 | [],c,d=>⟨[],by
  show jT g 1 (c:Re) (jT g 1 (d:Re) [])=_
  rw[uh,iq,uh,aP,aP,dE,jF,aP,dE,jF,dE,BQ]
  congr 1
  ·grind
  ·congr 1;grind⟩
 |x::r,c,d=>by
  obtain ⟨r2,e⟩:=tU g r d x
  refine ⟨jT g 1 (dR (d::x::r) g*1) r2,?_⟩
  rw[CV,e,iq,iq,aP c,jF c]
  congr 1
  ·grind
  ·congr 1;grind
theorem wi{g:Re}{b:Nat}{B:Int}(hg:ab g<=(B:Re))(hB:0<=B):∀ {xs:List Int},AllSm b xs->∀y∈ic xs g,ab y<=((2^b*(1+B)^xs.length:Int):Re)
 | [],_,y,hy=>nomatch hy
 |c::r,h,y,hy=>by
  have p1:(1:Int)<=(1+B)^r.length:=Ho (by exact oqz [] [B] [(.il 0 Y0)] (.il (0+1) (1+Y0)) [11] rfl hB)
  have p2:(1:Int)<=2^b:=Ho (by decide)
  have hc:=h.hd
  unfold Sm at hc
  have e2:((2^b:Nat):Int)=(2:Int)^b:=IF 2 b
  have q:=JL p1 (show (0:Int)<=2^b by exact oqz [] [2^b] [(.il 1 Y0)] (.il 0 Y0) [11] rfl p2)
  have:=ui (a:=g) (C:=2^b*(1+B)^r.length) hg hB (by exact oqz [] [2^b*(1+B)^r.length,2^b] [(.il 1 Y1),(.il (.r Y1 1) Y0)] (.il 0 Y0) [111] rfl p2 q) (xs:=ic r g) (c:=(c:Re)) (f4 (by exact oqz [c.natAbs,2^b] [2^b*(1+B)^r.length,c,2^b] [(.le (Y0+1) Y1),(.ie (.c Y1) Y2),(.il (.r Y2 1) Y0),(.an (.il Y1 (.c Y0)) (.il (.g Y1) (.c Y0)))] (.il (.g Y0) Y1) [1010111] rfl hc e2 q (bC (c))) (by exact oqz [c.natAbs,2^b] [c,2^b*(1+B)^r.length,2^b] [(.le (Y0+1) Y1),(.ie (.c Y1) Y2),(.il (.r Y2 1) Y1),(.an (.il Y0 (.c Y0)) (.il (.g Y0) (.c Y0)))] (.il Y0 Y1) [110111] rfl hc e2 q (bC (c)))) (wi hg hB h.tl) y hy
  refine ku this (Int.le_of_eq ?_)
  rw[List.length_cons,Hr];grind
noncomputable def pF:Nat->(Nat->Re)->Re->Re
 |0,_,_=>0
 |m+1,X,t=>pF m X t+X m*t^m
theorem pFC(m:Nat)(X:Nat->Re)(t:Re):pF (m+1) X t=pF m X t+X m*t^m:=rfl
noncomputable def pre(X:Nat->Re):Nat->Re
 |0=>0
 |k+1=>X k
noncomputable def stF(u v:Re)(X:Nat->Re):Nat->Re:=fun k=>v*pre X k-u*X k
theorem qF(X:Nat->Re)(t:Re):∀m,pF (m+1) (pre X) t=t*pF m X t
 |0=>by show 0+0*t^0=t*0;grind
 |m+1=>by rw[pFC,qF X t m,pFC m X];show _+X m*t^(m+1)=_;rw[GQ];grind
theorem kL(a b:Re)(X Y:Nat->Re)(t:Re):∀m,pF m (fun k=>a*X k+b*Y k) t=a*pF m X t+b*pF m Y t
 |0=>by show (0:Re)=a*0+b*0;grind
 |m+1=>by rw[pFC,pFC,pFC,kL a b X Y t m];grind
theorem Fq(u v:Re)(X:Nat->Re)(t:Re){m:Nat}(h:X m=0):pF (m+1) (stF u v X) t=(v*t-u)*pF m X t:=by
 have e:stF u v X=fun k=>v*pre X k+(-u)*X k:=funext fun k=>by unfold stF;grind
 rw[e,kL,qF,pFC,h];grind
noncomputable def bR(m k:Nat):Re:=((bnm m k:Int):Re)
theorem kh(m:Nat):bR (m+1)=fun k=>1*pre (bR m) k+1*bR m k:=funext fun k=>by
 cases k with
 |zero=>unfold bR;show ((bnm (m+1) 0:Int):Re)=1*0+1*((bnm m 0:Int):Re);rw[jV,jV];grind
 |succ k=>show ((bnm (m+1) (k+1):Int):Re)=1*((bnm m k:Int):Re)+1*((bnm m (k+1):Int):Re);rw[kM,ba];grind
theorem Ac(m:Nat):bR m (m+1)=0:=by unfold bR;rw[eE (Ia m),aE]
theorem Bg(t:Re):∀m,pF (m+1) (bR m) t=(1+t)^m
 |0=>by rw[pFC];show 0+((bnm 0 0:Int):Re)*t^0=_;rw[jV];show 0+(1:Re)*t^0=_;rw[GT,GT];grind
 |m+1=>by rw[kh,kL,qF,pFC (m+1) (bR m),Ac,Bg t m,GQ];grind
noncomputable def sF(u v:Re):List Re->Nat->Re
 | []=>fun _=>0
 |c::r=>fun k=>c*bR r.length k+stF u v (sF u v r) k
theorem sFC(u v c:Re)(r:List Re):sF u v (c::r)=fun k=>c*bR r.length k+1*stF u v (sF u v r) k:=funext fun k=>by show c*_+stF u v (sF u v r) k=_;grind
theorem jX(u v:Re):∀ (r:List Re) (k:Nat),r.length<=k->sF u v r k=0
 | [],k,_=>rfl
 |c::r,k,h=>by
  rw[List.length_cons] at h
  obtain ⟨j,rfl⟩:∃j,k=j+1:=⟨k-1,by exact oqz [k,k-1,r.length] [] [(.le (Y2+1) Y0),(osb Y0 1 Y1)] (.eq Y0 (Y1+1)) [10001,1011,1001,101] rfl h (am (k) (1))⟩
  rw[sFC]
  show c*bR r.length (j+1)+1*(v*sF u v r j-u*sF u v r (j+1))=0
  rw[jX u v r j (by exact oqz [r.length,j] [] [(.le (Y0+1) (Y1+1))] (.le Y0 Y1) [11] rfl h),jX u v r (j+1) (by exact oqz [r.length,j] [] [(.le (Y0+1) (Y1+1))] (.le Y0 (Y1+1)) [11] rfl h)]
  unfold bR
  rw[eE (by exact oqz [r.length,j] [] [(.le (Y0+1) (Y1+1))] (.le (Y0+1) (Y1+1)) [11] rfl h),aE];grind
theorem vT{u v t z:Re}(hz:(1+t)*z=v*t-u):∀r:List Re,(1+t)*pF r.length (sF u v r) t=(1+t)^r.length*evl r z
 | []=>by show (1+t)*0=_*0;grind
 |c::r=>by
  rw[List.length_cons,sFC,kL,Bg,Fq u v _ t (jX u v r _ (GU _)),dF,GQ]
  have ih:=vT hz r
  generalize pF r.length (sF u v r) t=x at *
  generalize evl r z=y at *
  generalize (1+t)^r.length=p at *
  rw[<- hz]
  clear hz
  grind
noncomputable def zz(w:Re):List Re->Re
 | []=>0
 |c::r=>ab c+w*zz w r
theorem zzC(w c:Re)(r:List Re):zz w (c::r)=ab c+w*zz w r:=rfl
theorem pX{w:Re}(hw:0<=w):∀r:List Re,0<=zz w r
 | []=>Ha _
 |c::r=>by rw[zzC];have:=aI c;have:=ac hw (pX hw r);grind
theorem yE(m k:Nat):0<=bR m k:=by
 have h:0<=bnm m k:=by
  induction m generalizing k with
  |zero=>cases k with
   |zero=>decide
   |succ k=>rw[yZ];decide
  |succ m ih=>cases k with
   |zero=>rw[jV];decide
   |succ k=>rw[kM];exact Int.add_nonneg (ih k) (ih (k+1))
 unfold bR;rw[<- aE];exact aZ h
theorem rI(x y:Re):ab (x+y)<=ab x+ab y:=by have:=cT x;have:=cT y;exact i5 (by grind) (by grind)
theorem Db{x y u v w a b:Re}(hu:0<=u)(hv:0<=v)(hu':u<=w)(hv':v<=w)(hx:ab x<=a)(hy:ab y<=b):ab (v*x-u*y)<=w*(a+b):=by
 have a1:=cT x;have a2:=cT y
 have n1:=aI x;have n2:=aI y
 have k1:=ac hv (show 0<=a-x by grind)
 have k2:=ac hv (show 0<=a+x by grind)
 have k3:=ac hu (show 0<=b-y by grind)
 have k4:=ac hu (show 0<=b+y by grind)
 have k5:=ac (show 0<=w-v by grind) (show 0<=a by grind)
 have k6:=ac (show 0<=w-u by grind) (show 0<=b by grind)
 clear hx hy hu' hv' hu hv a1 a2 n1 n2
 exact i5 (by grind) (by grind)
theorem qO{u v w Z:Re}{X:Nat->Re}{m:Nat}(hu:0<=u)(hv:0<=v)(hu':u<=w)(hv':v<=w)(h:∀k,ab (X k)<=Z*bR m k)(k:Nat):ab (stF u v X k)<=(w*Z)*bR (m+1) k:=by
 have e:=congrFun (kh m) k
 have hp:ab (pre X k)<=Z*pre (bR m) k:=by
  cases k with
  |zero=>show ab 0<=Z*0;rw[show ab 0=0 by unfold ab;rw[if_pos (Ha _)]];grind
  |succ j=>exact h j
 have:=Db hu hv hu' hv' hp (h k)
 unfold stF
 rw[e]
 clear e h hp
 grind
theorem yn{u v w:Re}(hu:0<=u)(hv:0<=v)(hu':u<=w)(hv':v<=w)(hw:0<=w):∀ (r:List Re) (c:Re) (k:Nat),ab (sF u v (c::r) k)<=zz w (c::r)*bR r.length k
 | [],c,k=>by
  rw[sFC,zzC]
  show ab (c*bR 0 k+1*(v*pre (fun _=>0) k-u*0))<=(ab c+w*0)*bR 0 k
  rw[show pre (fun _=>(0:Re)) k=0 by cases k <;> rfl,show c*bR 0 k+1*(v*0-u*0)=c*bR 0 k by grind,cQ]
  have:ab (bR 0 k)=bR 0 k:=by unfold ab;rw[if_pos (yE 0 k)]
  rw[this];grind
 |d::r,c,k=>by
  have ih:=qO (m:=r.length) hu hv hu' hv' (yn hu hv hu' hv' hw r d) k
  rw[sFC,zzC,List.length_cons]
  dsimp only
  have h1:ab (c*bR (r.length+1) k)=ab c*bR (r.length+1) k:=by
   rw[cQ];congr 1;unfold ab;rw[if_pos (yE _ k)]
  have:=rI (c*bR (r.length+1) k) (1*stF u v (sF u v (d::r)) k)
  rw[h1,show 1*stF u v (sF u v (d::r)) k=stF u v (sF u v (d::r)) k by grind] at this
  rw[show 1*stF u v (sF u v (d::r)) k=stF u v (sF u v (d::r)) k by grind]
  clear h1
  grind
theorem kx:∀n k:Nat,((k:Int)+1)*bnm (n+1) (k+1)=((n:Int)+1)*bnm n k
 |0,0=>by decide
 |0,k+1=>by rw[kM,yZ,yZ];grind
 |n+1,0=>by
  have:=kx n 0
  rw[jV] at this
  rw[kM,jV,show ((n+1:Nat):Int)=(n:Int)+1 from rfl];grind
 |n+1,k+1=>by
  have h1:=kx n (k+1)
  have h2:=kx n k
  rw[kM (n+1) (k+1),show ((n+1:Nat):Int)=(n:Int)+1 from rfl,show ((k+1:Nat):Int)=(k:Int)+1 from rfl] at *
  have h3:=kM n k
  grind
theorem DH(n:Nat):∀k:Nat,(((k:Int):Int):Re)*bR (n+1) k=(((n:Int)+1:Int):Re)*pre (bR n) k
 |0=>by show ((0:Int):Re)*_=_*0;rw[aE];grind
 |k+1=>by
  have:=congrArg (fun z:Int=>(z:Re)) (kx n k)
  rw[au,au] at this
  exact this
theorem n8:∀ {n k:Nat},k<=n->0<bR n k
 |n,0,_=>by unfold bR;rw[jV];exact jQ
 |0,k+1,h=>absurd h (Nat.not_succ_le_zero k)
 |n+1,k+1,h=>by
  rw[congrFun (kh n) (k+1)]
  have h1:=n8 (Ip h)
  have h2:=yE n (k+1)
  show 0<1*bR n k+1*bR n (k+1)
  grind
theorem xX(u v:Re)(n k:Nat):(((n:Int)+1:Int):Re)*stF u v (bR n) k=bR (n+1) k*((u+v)*((k:Int):Re)-u*(((n:Int)+1:Int):Re)):=by
 have h1:=DH n k
 have h2:=congrFun (kh n) k
 unfold stF
 generalize pre (bR n) k=x at *
 generalize bR n k=y at *
 generalize bR (n+1) k=z at *
 generalize (((n:Int)+1:Int):Re)=N at *
 generalize ((k:Int):Re)=K at *
 grind
section
variable {u v θ:Re}{r:List Re}
theorem xb(u v θ:Re)(r:List Re)(k:Nat):sF u v (0::θ::r) k=θ*stF u v (bR r.length) k+stF u v (stF u v (sF u v r)) k:=by
 have e:sF u v (θ::r)=fun k=>θ*bR r.length k+stF u v (sF u v r) k:=rfl
 show 0*_+stF u v (sF u v (θ::r)) k=_
 rw[e]
 cases k with
 |zero=>show 0*_+(v*0-u*_)=θ*(v*0-u*_)+(v*0-u*_);grind
 |succ k=>show 0*_+(v*(θ*bR r.length k+stF u v (sF u v r) k)-u*_)=θ*(v*bR r.length k-u*_)+(v*stF u v (sF u v r) k-u*_);grind
theorem Bv(hu:0<=u)(hv:0<=v)(k:Nat):ab (stF u v (sF u v r) k)<=(u+v)*zz (u+v) r*bR r.length k:=by
 have hw:0<=u+v:=by grind
 cases r with
 |nil =>
  rw[show stF u v (sF u v []) k=0 by show v*pre (fun _=>0) k-u*0=0;rw[show pre (fun _=>(0:Re)) k=0 by cases k <;> rfl];grind]
  show ab 0<=(u+v)*0*_
  rw[show ab 0=0 by unfold ab;rw[if_pos (Ha _)]];grind
 |cons c r=>exact qO hu hv (by grind) (by grind) (yn hu hv (by grind) (by grind) hw r c) k
theorem wk(hu:0<=u)(hv:0<=v)(k:Nat):ab (stF u v (stF u v (sF u v r)) k)<=((u+v)*((u+v)*zz (u+v) r))*bR (r.length+1) k:=qO hu hv (by grind) (by grind) (Bv hu hv) k
theorem zh{x y N b b' m m' e e' W T:Re}(hN:0<N)(hb:0<b)(hb':0<b')(h1:N*x=b*m+N*e)(h2:N*y=b'*m'+N*e')(he:ab e<=W*b)(he':ab e'<=W*b')(hx:0<x)(hm:m+T<=m')(hT:N*W+N*W<T):0<y:=by
 have k1:=cT e;have k2:=cT e'
 have p1:=mul_pos hN hx
 have p2:=ac (G4 hN) (show 0<=W*b-e by grind)
 have p3:=ac (G4 hN) (show 0<=W*b'+e' by grind)
 have p4:0<b*(m+N*W):=by grind
 have p5:0<m+N*W:=kY (by rw[I0];exact p4) hb
 have p6:=mul_pos hb' (show 0<m'-N*W by grind)
 have p7:0<y*N:=by grind
 exact kY p7 hN
theorem vb{x W b θ:Re}(hb:0<b)(he:ab x<=W*b)(hW:W<θ):0<θ*b+x:=by
 have k:=cT x
 have:=mul_pos hb (eO hW)
 grind
theorem CD(hu:0<u)(hv:0<v)(h:(((r.length:Int)+1:Int):Re)*((u+v)*zz (u+v) r)+(((r.length:Int)+1:Int):Re)*((u+v)*zz (u+v) r)<θ) :
  ∃m M,UpL r.length m M/\(List.range (r.length+2)).map (sF u v (0::θ::r))=m::M:=by
 have w0:0<u+v:=by grind
 have hN:0<(((r.length:Int)+1:Int):Re):=bD (by exact oqz [r.length] [] [] (.il (0+1) (.a (.c Y0) 1)) [1] rfl)
 have hN1:(1:Re)<=(((r.length:Int)+1:Int):Re):=aZ (show (1:Int)<=(r.length:Int)+1 by exact oqz [r.length] [] [] (.il 1 (.a (.c Y0) 1)) [1] rfl)
 have zn:=ac (G4 w0) (pX (G4 w0) r)
 have hW:(u+v)*zz (u+v) r<θ:=by
  have:=ac zn (show 0<=(((r.length:Int)+1:Int):Re)-1 by grind)
  generalize (u+v)*zz (u+v) r=W at *
  have:=ac zn (G4 hN)
  grind
 have e1:=fun k=>Bv (r:=r) (G4 hu) (G4 hv) k
 have ps:∀k,k<=r.length->0<sF u v (θ::r) k:=fun k hk=>vb (n8 hk) (e1 k) hW
 have c0:sF u v (0::θ::r) 0=-(u*sF u v (θ::r) 0):=by show 0*_+(v*0-u*_)=_;grind
 have cN:sF u v (0::θ::r) (r.length+1)=v*sF u v (θ::r) r.length:=by
  show 0*_+(v*sF u v (θ::r) r.length-u*sF u v (θ::r) (r.length+1))=_
  rw[jX u v (θ::r) (r.length+1) (GU _)];grind
 have hup:∀j k,j<k->k<=r.length+1->0<sF u v (0::θ::r) j->0<sF u v (0::θ::r) k:=fun j k hjk hk hx=>by
  have m1:=xX u v r.length j
  have m2:=xX u v r.length k
  have t1:=xb u v θ r j
  have t2:=xb u v θ r k
  have d1:=wk (r:=r) (G4 hu) (G4 hv) j
  have d2:=wk (r:=r) (G4 hu) (G4 hv) k
  have hjk':(((j:Int):Re))+1<=((k:Int):Re):=by have:=aZ (show (j:Int)+1<=(k:Int) by exact oqz [j,k] [] [(.le (Y0+1) Y1)] (.il (.a (.c Y0) 1) (.c Y1)) [11] rfl hjk);rw[ba] at this;exact this
  have θ0:0<θ:=rJ zn hW
  refine zh (N:=(((r.length:Int)+1:Int):Re)) (b:=bR (r.length+1) j) (b':=bR (r.length+1) k) (m:=θ*((u+v)*((j:Int):Re)-u*(((r.length:Int)+1:Int):Re))) (m':=θ*((u+v)*((k:Int):Re)-u*(((r.length:Int)+1:Int):Re))) (W:=(u+v)*((u+v)*zz (u+v) r)) (T:=θ*(u+v)) hN (n8 (by exact oqz [j,r.length,k] [] [(.le (Y0+1) Y2),(.le Y2 (Y1+1))] (.le Y0 (Y1+1)) [111] rfl hjk hk)) (n8 hk) (by rw[t1];clear t1 t2 d1 d2 m2;grind) (by rw[t2];clear t1 t2 d1 d2 m1;grind) d1 d2 hx ?_ ?_
  ·have:=ac (ac (G4 θ0) (G4 w0)) (cH hjk')
   clear m1 m2 t1 t2 d1 d2
   grind
  ·have:=mul_pos w0 (eO h)
   clear m1 m2 t1 t2 d1 d2
   grind
 have hl:(List.range (r.length+2)).map (sF u v (0::θ::r))=sF u v (0::θ::r) 0::(List.range (r.length+1)).map fun k=>sF u v (0::θ::r) (k+1):=by
  rw[show List.range (r.length+2)=0::(List.range (r.length+1)).map Nat.succ from JK,G1,Hw];rfl
 refine ⟨sF u v (0::θ::r) 0,(List.range (r.length+1)).map fun k=>sF u v (0::θ::r) (k+1),⟨?_,?_,⟨sF u v (0::θ::r) (r.length+1),?_,?_⟩,by rw[GO,Jb]⟩,?_⟩
 ·rw[<- hl]
  refine IQ.mpr (List.pairwise_lt_range.imp_of_mem fun {j k} hj hk hjk hx=>G4 (hup j k hjk ?_ hx))
  have:=Jy.mp hk
  exact oqz [k,r.length] [] [(.le (Y0+1) (Y1+2))] (.le Y0 (Y1+1)) [11] rfl this
 ·rw[c0];have:=mul_pos hu (ps 0 (Hl _));grind
 ·rw[List.range_succ,G9,Jv];rfl
 ·rw[cN];exact mul_pos hv (ps _ (GU _))
 ·exact hl
end
theorem AU(X:Nat->Re)(t:Re):∀n:Nat,evl ((List.range n).map X) t=pF n X t:=by
 intro n
 induction n generalizing X with
 |zero=>rfl
 |succ n ih =>
  have h2:pF (n+1) X t=X 0+t*pF n (fun i=>X (i+1)) t:=by
   clear ih
   induction n with
   |zero=>rw[pFC];show 0+_*t^0=_+t*0;rw[GT];grind
   |succ n ih=>rw[pFC,ih,pFC,GQ];grind
  rw[h2,<- ih,JK,G1,Hw,dF];rfl
theorem vY{σ:Re}(h:ab σ=1)(w:Re):∀r:List Re,zz w (r.map (σ*·))=zz w r
 | []=>rfl
 |c::r=>by rw[G1,zzC,zzC,vY h w r,cQ,h];grind
theorem qX{w z:Re}(h1:ab z<=w):∀r:List Re,ab (evl r z)<=zz w r
 | []=>by show ab 0<=0;rw[show ab 0=0 by unfold ab;rw[if_pos (Ha _)]];exact Ha _
 |c::r=>by
  rw[dF,zzC]
  have k1:=rI c (z*evl r z)
  have k2:=qX h1 r
  rw[cQ] at k1
  have:=ac (aI z) (cH k2)
  have:=ac (cH h1) (show 0<=zz w r by have:=aI (evl r z);grind)
  grind
theorem xP{K:List Int}{g lo hi:Re}{p1 q1 p2 q2:Int}{n:Int}(hK:K≠[])(h1:0<q1)(h2:0<q2)(e1:(q1:Re)*lo=p1)(e2:(q2:Re)*hi=p2)(hn:0<n) :
  evR (hs (p1*q2) (p2*q1) (q1*q2) K) n=((q1*q2:Int):Re)^(K.length-1)*pF K.length (sF (g-lo) (hi-g) (ic K g)) n:=by
 have s0:=bD (Hb h1 h2)
 have eb:((p1*q2:Int):Re)=((q1*q2:Int):Re)*lo:=by rw[au,au,<- e1];grind
 have ee:((p2*q1:Int):Re)=((q1*q2:Int):Re)*hi:=by rw[au,au,<- e2];grind
 cases K with
 |nil=>exact absurd rfl hK
 |cons d r =>
  have hQ:0<q1*q2+q1*q2*n:=by have:=Hb h1 h2;have:=Hb this hn;omega
  have v1:=nJ n 1 (p1*q2) (p2*q1) (q1*q2) (q1*q2) (xs:=d::r)
  rw[H7,H7,<- pd] at v1
  have hy:=dw (p:=p1*q2+p2*q1*n) (GY hQ)
  have v2:=fv hy r d
  have v3:=nT (hs (p1*q2) (p2*q1) (q1*q2) (d::r)) n
  unfold ev at v3
  rw[<- v3,v1,v2,List.length_cons,Nat.add_sub_cancel]
  generalize rq (p1*q2+p2*q1*n) (q1*q2+q1*q2*n)=y at *
  rw[ba,ba,au (p2*q1),au (q1*q2) n,eb,ee] at hy
  rw[ba,au (q1*q2) n]
  have n0:0<1+(n:Re):=by have:=bD hn;have:=jQ;grind
  have hz:(1+(n:Re))*(y-g)=(hi-g)*(n:Re)-(g-lo):=by
   refine ji (Dz s0) ?_
   generalize ((q1*q2:Int):Re)=s at *
   clear v1 v2 v3 eb ee e1 e2
   grind
  have k:=vT hz (ic (d::r) g)
  rw[lL,iu,List.length_cons,GQ,show g+(y-g)=y by grind] at k
  have k2:pF (r.length+1) (sF (g-lo) (hi-g) (ic (d::r) g)) n=(1+(n:Re))^r.length*evR (d::r) y:=ji (Dz n0) (by rw[k];grind)
  rw[k2,show ((q1*q2:Int):Re)+((q1*q2:Int):Re)*n=((q1*q2:Int):Re)*(1+n) by grind,I5]
  grind
noncomputable def Aln(row:List Int)(p1 q1 p2 q2:Int):Prop:=aw p1 q1 row≠0/\aw p2 q2 row≠0/\tv 0 (hs (p1*q2) (p2*q1) (q1*q2) row)=1
theorem BH{K:List Int}{g θ x w:Re}{r:List Re}(hK:ic K g=0::θ::r)(hw:ab (x-g)<=w)(hx:x≠g)(h:w*zz w r<ab θ):evR K x≠0:=fun h0=>by
 have e:=lL g (x-g) K
 rw[show g+(x-g)=x by grind,h0,hK,dF,dF] at e
 have d0:x-g≠0:=fun k=>hx (by grind)
 have k1:θ+(x-g)*evl r (x-g)=0:=bY (x:=x-g) (by rw[<- e];grind) d0
 have k2:=qX hw r
 have k3:ab θ=ab ((x-g)*evl r (x-g)):=by rw[<- qI];congr 1;grind
 rw[cQ] at k3
 have:=ac (aI (x-g)) (cH k2)
 have:=ac (cH hw) (show 0<=zz w r by have:=aI (evl r (x-g));grind)
 grind
theorem xw(u v σ:Re):∀ (X:List Re) (k:Nat),sF u v (X.map (σ*·)) k=σ*sF u v X k
 | [],k=>by show (0:Re)=σ*0;grind
 |c::X,k=>by
  have e:sF u v (X.map (σ*·))=fun k=>σ*sF u v X k:=funext (xw u v σ X)
  rw[G1,sFC,sFC,GO,e]
  cases k with
  |zero=>show σ*c*bR X.length 0+1*(v*0-u*(σ*sF u v X 0))=σ*(c*bR X.length 0+1*(v*0-u*sF u v X 0));grind
  |succ k=>show σ*c*bR X.length (k+1)+1*(v*(σ*sF u v X k)-u*(σ*sF u v X (k+1)))=σ*(c*bR X.length (k+1)+1*(v*sF u v X k-u*sF u v X (k+1)));grind
theorem jN{K:List Int}{g lo hi θ:Re}{σ p1 q1 p2 q2:Int}{r:List Re}(hσ:σ=1\/σ=-1)(hK:ic K g=0::θ::r)(h1:0<q1)(h2:0<q2)(e1:(q1:Re)*lo=p1)(e2:(q2:Re)*hi=p2)(lt:lo<g)(gt:g<hi)
  (h:(((r.length:Int)+1:Int):Re)*((hi-lo)*zz (hi-lo) r)+(((r.length:Int)+1:Int):Re)*((hi-lo)*zz (hi-lo) r)<(σ:Re)*θ):Aln K p1 q1 p2 q2:=by
 have hne:K≠[]:=fun k=>by rw[k] at hK;cases hK
 have hab:ab (σ:Re)=1:=by
  rcases hσ with rfl|rfl
  ·show ab 1=1;unfold ab;rw[if_pos (G4 jQ)]
  ·show ab (-1)=1;rw[qI];unfold ab;rw[if_pos (G4 jQ)]
 have w0:0<hi-lo:=by grind
 have hW:(hi-lo)*zz (hi-lo) r<ab θ:=by
  have k1:(σ:Re)*θ<=ab θ:=by have:=(cT ((σ:Re)*θ)).1;rw[cQ,hab] at this;grind
  have zn:=ac (G4 w0) (pX (G4 w0) r)
  have hN1:(1:Re)<=(((r.length:Int)+1:Int):Re):=aZ (show (1:Int)<=(r.length:Int)+1 by exact oqz [r.length] [] [] (.il 1 (.a (.c Y0) 1)) [1] rfl)
  have:=ac zn (cH hN1)
  generalize (hi-lo)*zz (hi-lo) r=W at *
  clear hK hab
  grind
 refine ⟨fun h0=>?_,fun h0=>?_,?_⟩
 ·have k:=eJ hne h1 e1
  rw[h0] at k
  exact BH hK (x:=lo) (i5 (by grind) (by grind)) (Gu lt) hW (rsg_is0.mp (by rw[<- k];rfl))
 ·have k:=eJ hne h2 e2
  rw[h0] at k
  exact BH hK (x:=hi) (i5 (by grind) (by grind)) (Dz gt) hW (rsg_is0.mp (by rw[<- k];rfl))
 ·have hlr:K.length=r.length+2:=by rw[<- iu g K,hK];rfl
  have h':=h
  rw[<- vY hab (hi-lo) r,show hi-lo=(g-lo)+(hi-g) by grind,<- GO ((σ:Re)*·)] at h'
  refine cR (CD (r:=r.map ((σ:Re)*·)) (θ:=(σ:Re)*θ) (eO lt) (eO gt) h') fun m M up eM=>?_
  have hs0:=bD (Hb h1 h2)
  have pw:∀k:Nat,0<((q1*q2:Int):Re)^k:=fun k=>by
   induction k with
   |zero=>rw[GT];exact jQ
   |succ k ih=>rw[GQ];exact mul_pos ih hs0
  have hσ0:σ≠0:=by rcases hσ with rfl|rfl <;> decide
  have ht:=gC hσ0 (hs (p1*q2) (p2*q1) (q1*q2) K) 0
  rw[Hh] at ht
  rw[<- ht]
  refine CO up (pw (K.length-1)) (zH ?_ fun n hn=>?_)
  ·rw[aW,dT,<- eM,GO,Jb,GO,hlr]
  ·rw[bG,xP (g:=g) hne h1 h2 e1 e2 hn,<- eM,AU,GO,<- hlr,hK]
   have eq:sF (g-lo) (hi-g) (0::(σ:Re)*θ::r.map ((σ:Re)*·))=fun k=>(σ:Re)*sF (g-lo) (hi-g) (0::θ::r) k+0*sF (g-lo) (hi-g) (0::θ::r) k:=funext fun k=>by
    have:=xw (g-lo) (hi-g) (σ:Re) (0::θ::r) k
    rw[G1,G1,show (σ:Re)*0=0 by grind] at this
    rw[this];grind
   rw[eq,kL];grind
noncomputable def Dr(f f':Re->Re):Prop:=∃w:Re->Re->Re,(∀t,PX fun s=>w t s)/\∀t s,f s=f t+(s-t)*(f' t+(s-t)*w t s)
theorem Dr.uniq{f f1 f2:Re->Re}(h1:Dr f f1)(h2:Dr f f2)(t:Re):f1 t=f2 t:=by
 refine ae (h1) fun w pw e=>?_
 refine ae (h2) fun v pv g=>?_
 have:=PX.cancel (u:=t) (f:=fun s=>f1 t+(s-t)*w t s) (g:=fun s=>f2 t+(s-t)*v t s) ((PX.lin 1 (PX.const (f1 t)) ((PX.x t).mul (pw t))).of fun s=>by grind) ((PX.lin 1 (PX.const (f2 t)) ((PX.x t).mul (pv t))).of fun s=>by grind) fun s=>by
  have:=e t s
  have:=g t s
  grind
 grind
theorem Dr.mul{f f' g g':Re->Re}(h1:Dr f f')(h2:Dr g g'):Dr (fun t=>f t*g t) fun t=>f' t*g t+f t*g' t:=by
 refine ae (h1) fun w pw e=>?_
 refine ae (h2) fun v pv k=>?_
 refine ⟨fun t s=>w t s*g t+f t*v t s+(f' t+(s-t)*w t s)*(g' t+(s-t)*v t s),fun t=>?_,fun t s=>by dsimp only;rw[e t s,k t s];grind⟩
 have p1:PX fun s=>f' t+(s-t)*w t s:=(PX.lin 1 (PX.const (f' t)) ((PX.x t).mul (pw t))).of fun s=>by grind
 have p2:PX fun s=>g' t+(s-t)*v t s:=(PX.lin 1 (PX.const (g' t)) ((PX.x t).mul (pv t))).of fun s=>by grind
 exact (PX.lin 1 (PX.lin (f t) ((pw t).mul (PX.const (g t))) (pv t)) (p1.mul p2)).of fun s=>by grind
theorem gZ(xs:List Int):Dr (evR xs) (dR xs):=⟨fun t s=>wR xs t s,fun t=>Bt t xs,fun t s=>by rw[xi t s xs];grind⟩
theorem DY(u:Re):Dr (fun t=>t-u) fun _=>1:=⟨fun _ _=>0,fun _=>PX.const 0,fun t s=>by grind⟩
theorem Dr.of{f f' g g':Re->Re}(h:Dr f f')(e:∀t,f t=g t)(e':∀t,f' t=g' t):Dr g g':=(funext e:f=g) ▸ (funext e':f'=g') ▸ h
theorem Br:∀ {n:Nat}{f:Re->Re},PR n f->∃f',PX f'/\Dr f f'
 |0,f,hf=>⟨fun _=>0,PX.const 0,fun _ _=>0,fun _=>PX.const 0,fun t s=>by rw[hf,hf];grind⟩
 |n+1,f,⟨c,k,hk,e⟩=>by
  refine uw (Br hk) fun k' pk' w pw ek=>?_
  refine ⟨fun t=>k t+t*k' t,(PX.lin 1 ⟨n,hk⟩ pk'.tmul).of fun t=>by grind,fun t s=>k' t+s*w t s,fun t=>?_,fun t s=>by rw[e t,e s,ek t s];grind⟩
  exact (PX.lin 1 (PX.const (k' t)) (pw t).tmul).of fun s=>by grind
theorem wW{f:Re->Re}(h:PX f):∃f',PX f'/\Dr f f':=by obtain ⟨n,h⟩:=h;exact Br h
theorem fF(x:Re):1*x=x:=by grind
theorem nR{u:Re}:∀ {n:Nat}{f:Re->Re},PR n f->(∃t,f t≠0)->∃ (s:Nat) (g:Re->Re),PX g/\g u≠0/\∀t,f t=(t-u)^s*g t
 |0,f,hf,⟨t,ht⟩=>absurd (hf t) ht
 |n+1,f,hf,hne=>by
  by_cases h0:f u=0
  ·refine ae (hf.fac u) fun g hg e=>?_
   have e':∀t,f t=(t-u)*g t:=fun t=>by rw[e,h0];grind
   obtain ⟨t,ht⟩:=hne
   refine aF (nR (u:=u) hg ⟨t,fun h=>ht (by rw[e',h];grind)⟩) fun s k pk k0 ek=>?_
   exact ⟨s+1,k,pk,k0,fun t=>by rw[e',ek,GQ];grind⟩
  ·exact ⟨0,f,⟨n+1,hf⟩,h0,fun t=>by rw[GT];grind⟩
theorem rc(u:Re):∀s:Nat,Dr (fun t=>(t-u)^(s+1)) fun t=>(((s:Int)+1:Int):Re)*(t-u)^s
 |0=>(DY u).of (fun t=>by grind) fun t=>by rw[GT];show (1:Re)=(1:Re)*1;grind
 |s+1=>((rc u s).mul (DY u)).of (fun t=>by rw[<- GQ]) fun t=>by
  rw[show (((s+1:Nat):Int)+1:Int)=((s:Int)+1)+1 from rfl,ba ((s:Int)+1) 1,show ((1:Int):Re)=1 from rfl,GQ (t-u) s];grind
theorem g6{u:Re}{f g:Re->Re}(hf:PX f)(hg:PX g){s:Nat}(h:∀t,(t-u)^s*f t=(t-u)^s*g t):f u=g u:=
 hf.at hg fun t ht=>by
  have hn:∀s:Nat,(t-u)^s≠0:=fun s=>by
   induction s with
   |zero=>rw[GT];exact mV
   |succ s ih=>rw[GQ];exact dO ih fun e=>ht (by grind)
  exact ji (hn s) (h t)
theorem Ge{a b c g g' h h' E k:Re}(e:c*((k*a*g+a*b*g')*h+a*b*g*h')=a*b*g*E):a*(c*(k*g+b*g')*h)=a*(b*(g*(E-c*h'))):=by grind
theorem GH{a b c D g g' D' h h' E:Re}(eD:D=a*g)(e:c*(D'*(b*(b*h))+D*h')=D*E)(e':D'*b=a*g'):a*(c*(b*(g'*h)))=a*(g*(E-c*h')):=by grind
theorem GB{g g' h:Re->Re}(pg:PX g)(pg':PX g')(ph:PX h)(c k u:Re):PX fun t=>c*(k*g t+(t-u)*g' t)*h t:=
 (((PX.const c).mul (PX.lin 1 ((PX.const k).mul pg) ((PX.x u).mul pg'))).mul ph).of fun t=>by grind
theorem FV{g E h':Re->Re}(pg:PX g)(pE:PX E)(ph':PX h')(c:Re):PX fun t=>g t*(E t-c*h' t):=(pg.mul (PX.lin (-c) pE ph')).of fun t=>by grind
theorem Ap{D D' g:Re->Re}{u:Re}{s:Nat}(pg:PX g)(dD:Dr D D')(eg:∀t,D t=(t-u)^s*g t):∃g',PX g'/\∀t,D' t*(t-u)=(t-u)^s*g' t:=by
 refine ae (wW pg) fun g' pg' dg=>?_
 cases s with
 |zero =>
  have e:∀t,D' t=g' t:=fun t=>Dr.uniq dD (dg.of (fun t=>by rw[eg,GT,fF]) fun t=>rfl) t
  exact ⟨fun t=>g' t*(t-u),pg'.mul (PX.x u),fun t=>by rw[e,GT,fF]⟩
 |succ s =>
  have e:=fun t=>Dr.uniq dD (((rc u s).mul dg).of (fun t=>(eg t).symm) fun t=>rfl) t
  refine ⟨fun t=>(((s:Int)+1:Int):Re)*g t+(t-u)*g' t,(PX.lin 1 ((PX.const _).mul pg) ((PX.x u).mul pg')).of fun t=>by rw[fF ((t-u)*g' t)],fun t=>?_⟩
  rw[e,GQ]
  generalize (((s:Int)+1:Int):Re)=k
  clear e dD dg eg
  grind
section
variable {D h E U W:Re->Re}{D' h':Re->Re}{c2 c3 u:Re}
theorem u7(pD:PX D)(ph:PX h)(pE:PX E)(ph':PX h')(hD:∃t,D t≠0)(dD:Dr D D')(dh:Dr h h')(e1:∀t,c2*(D' t*h t+D t*h' t)=D t*E t)(c20:c2≠0)(c30:c3≠0)
  (e2:∀t,c3*c2=c2*(U t*h t)+W t*E t) (h0:D u*h u=0):h u=0/\h' u≠0:=by
 obtain ⟨n,pn⟩:=id pD
 refine aF (nR (u:=u) pn hD) fun s g pg g0 eg=>?_
 have hu:h u=0:=by
  refine HD fun hn=>?_
  have D0:D u=0:=bY (x:=h u) (by rw[<- h0,I0]) hn
  cases s with
  |zero=>exact g0 (by rw[<- D0,eg,GT,fF])
  |succ s =>
   refine ae (wW pg) fun g' pg' dg=>?_
   have dD2:=fun t=>Dr.uniq dD (((rc u s).mul dg).of (fun t=>(eg t).symm) fun t=>rfl) t
   have k:=g6 (u:=u) (s:=s) (GB pg pg' ph c2 (((s:Int)+1:Int):Re) u) ((PX.x u).mul (FV pg pE ph' c2)) fun t=>Ge (by
    have:=e1 t
    rw[dD2,eg,GQ] at this
    exact this)
   have c0:=dO (dO c20 (dO (dt (show 0<(s:Int)+1 by exact oqz [s] [] [] (.il (0+1) (.a (.c Y0) 1)) [1] rfl)) g0)) hn
   generalize (((s:Int)+1:Int):Re)=m at *
   clear e1 e2 eg dD2 dD dg dh hD
   exact c0 (by grind)
 refine ⟨hu,fun hd=>?_⟩
 have hE:E u≠0:=fun h=>dO c30 c20 (by rw[e2 u,hu,h];clear e1 e2 eg;grind)
 refine ae (ph.cut hu) fun h1 p1 eh1=>?_
 refine ae (wW p1) fun h1' p1' dh1=>?_
 have z1:h1 u=0:=by
  have:=Dr.uniq dh (((DY u).mul dh1).of (fun t=>(eh1 t).symm) fun t=>rfl) u
  rw[hd] at this
  clear e1 e2 eg eh1
  grind
 refine ae (p1.cut z1) fun h2 p2 eh2=>?_
 refine ae (Ap pg dD eg) fun g' pg' eg'=>?_
 have k:=g6 (u:=u) (s:=s) ((PX.const c2).mul ((PX.x u).mul (pg'.mul p2))) (FV pg pE ph' c2) fun t=>GH (eg t) (by have:=e1 t;rw[eh1 t,eh2 t] at this;exact this) (eg' t)
 rw[hd] at k
 have:=dO g0 hE
 clear e1 e2 eg eg' eh1 eh2 dD dh dh1 hD
 exact this (by grind)
end
end Mine
namespace Mine
open PySem
theorem Cp{c d q a b y z lb l T:Int}(h3:c*a=q*b+d*y)(h4:z=lb*y-l*T*b):c*lb*a=(q*lb+d*(l*T))*b+d*z:=by grind
structure RsI (A B:List Int)(K L i:Nat)(ys:List Int):Prop where
 ty:ys=[]\/Tr ys
 hi:i+ys.length<=A.length
 hb:i<=A.length-B.length+1
 sy:AllSm (K+i*(L+1)) ys
 eq:∃ (c d:Int) (q:Int->Int),c≠0/\d≠0/\PF q/\∀t,c*ev A t=q t*ev B t+d*ev ys t
section
variable {A B zs l0 l1:List Int}{K L i k:Nat}{lb l lz:Int}
theorem sH(h1:l1.length=B.length)(hlb:B.getLast?=some lb)(hl:(l0++l1).getLast?=some l):(wlo lb l l0 l1 B).getLast?=some 0:=by
 have hne:l1≠[]:=fun h=>by
  rw[h] at h1
  cases B with
  |nil=>cases hlb
  |cons _ _=>cases h1
 have:=iE (s:=lb) (m:=l) h1 (oN hne hl) hlb
 rw[wlo,Jv,this,show l*lb-l*lb=0 from Int.sub_self _];rfl
theorem RsI.step(h:RsI A B K L i (l0++l1))(h1:l1.length=B.length)(hlb:B.getLast?=some lb)(h0:lb≠0)(sB:AllSm L B)(hl:(l0++l1).getLast?=some l)(hz:wlo lb l l0 l1 B=zs++bW k)(tz:zs=[]\/Tr zs):RsI A B K L (i+1) zs:=by
 have lD:=sH h1 hlb hl
 have nD:(wlo lb l l0 l1 B).length=(l0++l1).length:=by rw[kq h1,GR,h1]
 have hlt:=oO hz tz lD
 have slb:=sB lb (Hd hlb)
 have sl:=h.sy l (Hd hl)
 have sD:=Dj (l0:=l0) (l1:=l1) slb sl (fun x hx=>h.sy x (I7 _ hx)) (fun x hx=>h.sy x (List.mem_append_right _ hx)) sB
 refine b8 (h.eq) fun c d q hc hd pq heq=>?_
 have pq':PF (fun t=>q t*lb+d*(l*t^l0.length)):=(pq.mul (.const lb)).add (((PF.const l).mul (r5 l0.length)).smul d)
 have hi:=h.hi
 refine ⟨tz,by rw[nD] at hlt;exact oqz [i,zs.length,A.length,(l0++l1).length] [] [(.le (Y1+1) Y3),(.le (Y0+Y3) Y2)] (.le (Y0+1+Y1) Y2) [111] rfl hlt hi,by have:=GR (as:=l0) (bs:=l1);exact oqz [i,A.length-B.length,A.length,B.length,l1.length,(l0++l1).length,l0.length] [] [(.eq Y4 Y3),(.le (Y0+Y5) Y2),(.eq Y5 (Y6+Y4)),(.an (.le Y2 (Y1+Y3)) (.le Y1 Y2))] (.le (Y0+1) (Y1+1)) [1101101] rfl h1 hi this (aV (A.length) (B.length)),(Al hz sD).mono (by rw[Hc];exact oqz [K,i*(L+1),L] [] [] (.le (Y0+Y1+Y2+1) (.a Y0 (.a Y1 (.m 1 (Y2+1))))) [1] rfl),c*lb,d,_,HF hc h0,hd,pq',fun t=>Cp (heq t) ?_⟩
 rw[<- tY hz t]
 exact ry h1 t
theorem RsI.red(h:RsI A B K L i zs)(hlz:zs.getLast?=some lz)(z0:lz≠0):RsI A B K L i (cv zs lz):=by
 have hmem:=Hd hlz
 refine b8 (h.eq) fun c d q hc hd pq heq=>?_
 refine ⟨.inr (v7 hlz z0),by rw[cV];exact h.hi,h.hb,fV hmem z0 h.sy,c,d*gOf zs lz,q,hc,HF hd (fU hmem z0),pq,fun t=>?_⟩
 rw[HJ,<- kP];exact heq t
noncomputable def pl(x y:Nat):Nat->Nat
 |0=>y
 |d+1=>pl y (x+(y+1)+(y+1)) d
theorem plC(x y d:Nat):pl x y (d+1)=pl y (x+(y+1)+(y+1)) d:=rfl
theorem xB:∀ {d x y:Nat},y<=pl x y d
 |0,_,_=>GU _
 |d+1,x,y=>GP (by exact oqz [y,x] [] [] (.le Y0 (Y1+(Y0+1)+(Y0+1))) [1] rfl) (xB (d:=d))
theorem tq:∀ (e d x y:Nat),e<=d->∃x' y',y<=x'/\x'<=y'/\x+(e+2)*(y+1)<=y'/\pl x y (d+1)=pl x' y' (d-e)
 |0,d,x,y,_=>⟨y,x+(y+1)+(y+1),GU _,by exact oqz [y,x] [] [] (.le Y0 (Y1+(Y0+1)+(Y0+1))) [1] rfl,by exact oqz [x,y] [] [] (.le (.a Y0 (.m 2 (Y1+1))) (Y0+(Y1+1)+(Y1+1))) [1] rfl,rfl⟩
 |e+1,d,x,y,h=>by
  refine lI (tq e d x y (by exact oqz [e,d] [] [(.le (Y0+1) Y1)] (.le Y0 Y1) [11] rfl h)) fun x' y' h1 h2 h3 h4=>?_
  refine ⟨y',x'+(y'+1)+(y'+1),by exact oqz [y,y',x'] [] [(.le Y0 Y2),(.le Y2 Y1)] (.le Y0 Y1) [111] rfl h1 h2,by exact oqz [y',x'] [] [] (.le Y0 (Y1+(Y0+1)+(Y0+1))) [1] rfl,?_,?_⟩
  ·have:(e+1+2)*(y+1)=(e+2)*(y+1)+(y+1):=by rw[IX (e+2)]
   exact oqz [x,(e+1+2)*(y+1),x',y',y,(e+2)*(y+1)] [] [(.le Y4 Y2),(.le (Y0+Y5) Y3),(.eq Y1 (Y5+(Y4+1)))] (.le (Y0+Y1) (Y2+(Y3+1)+(Y3+1))) [1111] rfl h1 h3 this
  ·rw[h4,show d-e=(d-(e+1))+1 by exact oqz [d-e,d,e,d-(e+1)] [] [(.le (Y2+1) Y1),(osb Y1 Y2 Y0),(osb Y1 (Y2+1) Y3)] (.eq Y0 (Y3+1)) [10001001,1001011,110,1010001,110001] rfl h (am (d) (e)) (am (d) (e+1)),plC]
end
section
variable {sub:Nat->Nat->Bool}{P:List Fn}{n tr:Nat}{H:Hp}{Q:V->Hp->Prop}{X:Nat->Hp->Prop}
theorem EN{a b:Nat}(h:b<=a):decide (((b:Nat):Int)<=((a:Nat):Int))=true:=decide_eq_true (Il.mpr h)
theorem CM{a b:Nat}(h:¬ b<=a):decide (((b:Nat):Int)<=((a:Nat):Int))=false:=decide_eq_false fun g=>h (Il.mp g)
theorem tJ{row:List Int}{l:Int}{H:Hp}{v:V}{Q:V->Prop}(hv:items H v=some (row.map .int))(hl:row.getLast?=some l)(hQ:Q (.int l)):ifSome (items H v) fun xs=>ifSome (cD xs.length (-1)) fun i=>ifSome xs[i]? fun v=>Q v:=by
 have h1:1<=row.length:=by cases row with|nil=>cases hl|cons _ _=>simp
 refine ix3 (v:=.int l) hv (cq (by rw[GO];exact h1)) ?_ hQ
 rw[GO,Hj,<- Iq,hl];rfl
theorem zM(zT:TT P){W:Nat->Prop}{NN:Loc->Hp->Prop}{R:V->Hp->Prop}{Y:Nat->Hp->Prop}
  {w:V}{o:Option V}{A B ys:List Int}{lb:Int}{K L i a:Nat} (I:RsI A B K L i ys) (ha:H[a]?=some (ys.map .int)) (hw:items H w=some (B.map .int)) (hlb:B.getLast?=some lb) (h0:lb≠0) (hge:B.length<=ys.length) (hA:A.length<=600) (sB:AllSm L B) (hK:K+i*(L+1)+L<=134217728)
  (hN:∀ (zs:List Int) (k:Nat) H',H<+:H'->H'[k]?=some (zs.map .int)->RsI A B K L (i+1) zs->zs.length<ys.length->NN [o,some w,some (.lst k)] H') :
  wpS sub (ag sub P (n+2)) W (tw 7 10 8) [o,some w,some (.lst a)] H NN R Y:=by
 refine aF (kW hge) fun l0 l1 zq14 h1 h2=>?_;subst zq14
 have hne:l0++l1≠[]:=fun h=>by
  rw[h,List.length_nil] at hge
  cases B with
  |nil=>cases hlb
  |cons _ _=>exact absurd hge (by simp)
 refine ae (I.ty.resolve_left hne) fun l hl _=>?_
 have sl:=I.sy l (Hd hl)
 have slb:=sB lb (Hd hlb)
 have lD:=sH h1 hlb hl
 have nD:(wlo lb l l0 l1 B).length=(l0++l1).length:=by rw[kq h1,GR,h1]
 have hn:=I.hi
 have S:=fun {zs:List Int}{k:Nat}=>I.step (zs:=zs) (k:=k) h1 hlb h0 sB hl
 dsimp only[tw,qS1,qS2,qS3,bw,qE1,qE5,qE9,aM,aU,aA,az,dc,aa,af,aH,gV]
 refine tJ (v:=.lst a) ha hl ?_
 refine tJ hw hlb ?_
 refine Fu zT ha hw h1 (by exact oqz [(l0++l1).length,A.length,i] [] [(.le Y1 600),(.le (Y2+Y0) Y1)] (.le Y0 900) [111] rfl hA hn) (fun x hx=>IntMulOk.sum (I.sy x hx) slb hK) (fun y hy=>IntMulOk.sum sl (sB y hy) hK) ?_
 generalize wlo lb l l0 l1 B=D at *
 refine rC zT (v:=.lst H.length) (ai _ _ _) fun zs k hz tz=>?_
 have I':=S hz tz
 have hlt:=oO hz tz lD
 rw[nD] at hlt
 have hp1:H<+:H++[D.map V.int]++[zs.map V.int]:=ah (aj _ _) (aj _ _)
 have hzg:(H++[D.map V.int]++[zs.map V.int])[(H++[D.map V.int]).length]?=some (zs.map V.int):=ai _ _ _
 generalize (H++[D.map V.int]).length=b at *
 generalize H++[D.map V.int]++[zs.map V.int]=H1 at *
 refine ifSome.mk (eY (x:=.lst b) hzg) ?_
 rcases tz with rfl | ⟨lz,hlz,z0⟩
 ·exact hN [] b H1 hp1 hzg I' hlt
 ·have hne':(!(zs.map V.int).isEmpty)=true:=by
   cases zs with
   |nil=>cases hlz
   |cons _ _=>rfl
  rw[hne']
  dsimp only[aX]
  refine iV (n:=n+1) (ng:=ngQ) kK zT.a8 (fun a b H' Z X' hz=>fo zT.a0 hz) (v:=.lst b) hzg hlz z0 (by exact oqz [zs.length,A.length,(l0++l1).length,i] [] [(.le Y1 600),(.le (Y3+Y2) Y1),(.le (Y0+1) Y2)] (.le Y0 1000) [1111] rfl hA hn hlt) ?_
  exact hN _ _ _ (ah hp1 (aj _ _)) (ai _ _ _) (I'.red hlz z0) (by rw[cV];exact hlt)
inductive RsW (H:Hp) (v w:V) (A B:List Int) (K L:Nat) (ρ:Loc) (H':Hp):Prop
 |mk (a:Nat) (ys:List Int) (i:Nat) (c0:ρ=[some v,some w,some (.lst a)]) (c1:H<+:H') (c2:H'[a]?=some (ys.map .int)) (c3:RsI A B K L i ys)
theorem tc(zT:TT P)
  {v w:V}{A B:List Int}{lb:Int}{K L:Nat} (hv:items H v=some (A.map .int)) (hw:items H w=some (B.map .int)) (tA:A=[]\/Tr A) (hlb:B.getLast?=some lb) (h0:lb≠0) (hA:A.length<=600) (sA:AllSm K A) (sB:AllSm L B) (hK:K+(A.length-B.length+1)*(L+1)+L<=134217728)
  (hQ:∀H' k r,H<+:H'->H'[k]?=some (r.map .int)->Rst A B r->AllSm (K+(A.length-B.length+1)*(L+1)) r->Q (.lst k) H'):ag sub P (n+3) 11 [v,w] H Q X:=by
 refine ao zT.a11 rfl ?_
 dsimp only[xO]
 generalize hL:tw 7 10 8=LB
 dsimp only[qS1,qS2,qS3,qS9,jW,qE5,b6,aA,az,i7,aD,aB,ay,ax,aO,aC,aq,aa,af,aH,Nat.reduceSub]
 refine ifSome.mk hv ?_
 subst hL
 refine ⟨RsW H v w A B K L,fun ρ H'=>jp H' (af ρ 2),
  ⟨H.length,A,0,rfl,aj _ _,ai _ _ _,tA,HZ (Ie _),Hl _,sA.mono (Io _ _),1,1,fun _=>0,by decide,by decide,.const 0,fun t=>by dsimp only;exact oqz [] [ev A t,ev B t] [] (.ie (.m 1 Y0) (.a (.m 0 Y1) (.m 1 Y0))) [1] rfl⟩,?_⟩
 rintro ρ H' ⟨a,ys,i,rfl,hp,ha,I⟩
 dsimp only[uy,qE5,bx,b6,aA,az,oK,aN,dc,aa,af,rY]
 refine ifSome.mk ha (ifSome.mk (b7 hp hw) ?_)
 rw[GO,GO]
 have hmul:∀ {j},j<=A.length-B.length+1->j*(L+1)<=(A.length-B.length+1)*(L+1):=fun hj=>HM _ hj
 by_cases hge:B.length<=ys.length
 ·rw[EN hge]
  have:=hmul I.hb
  refine zM zT (n:=n) I ha (b7 hp hw) hlb h0 hge hA sB (by exact oqz [K,i*(L+1),L,(A.length-B.length+1)*(L+1)] [] [(.le (Y0+Y3+Y2) 134217728),(.le Y1 Y3)] (.le (Y0+Y1+Y2) 134217728) [111] rfl hK this) fun zs k H2 hp2 hk I' hlt=>⟨⟨k,zs,i+1,rfl,ah hp hp2,hk,I'⟩,?_⟩
  show jp H2 (some (V.lst k))<jp H' (some (V.lst a))
  rw[e5 (x:=.lst k) hk,e5 (x:=.lst a) ha,GO,GO];exact hlt
 ·rw[CM hge]
  exact hQ _ _ _ hp ha ⟨I.ty,JU hge,I.eq⟩ (I.sy.mono (Ih (hmul I.hb) _))
theorem sb1{a b:Nat}(h:b<a)(h1:0<b):a-2-(a-b-1)=b-1:=by omega
inductive CmI (A B:List Int) (Z:Nat) (H:Hp) (ρ:Loc) (H':Hp):Prop
 |mk (v1 w1:V) (A1 B1:List Int) (x y:Nat) (o:Option V) (e:ρ=[some v1,some w1,o]) (hp:H<+:H') (hv:items H' v1=some (A1.map .int)) (hw:items H' w1=some (B1.map .int)) (tA:Tr A1) (tB:B1=[]\/Tr B1) (hl:B1.length<A1.length/\A1.length<=A.length)
  (sm:AllSm x A1/\AllSm y B1/\x<=y) (hz:pl x y (A1.length-1)<=Z) (back:∀h,Dv h (ev A1)->Dv h (ev B1)->Dv h (ev A)/\Dv h (ev B)) (cA:Comb A B A1) (cB:Comb A B B1)
theorem vd(zT:TT P)
  {v w:V}{A B:List Int}{K L Z:Nat} (hv:items H v=some (A.map .int)) (hw:items H w=some (B.map .int)) (tA:Tr A) (tB:B=[]\/Tr B) (hAB:B.length<A.length) (hA:A.length<=600) (sA:AllSm K A) (sB:AllSm L B) (hKL:K<=L) (hZ:pl K L (A.length-1)<=Z) (hZ':Z+Z<=134217728)
  (hQ:∀H' k x l,H<+:H'->H'[k]?=some (x.map .int)->Gcd A B x l->AllSm Z x->Q (.lst k) H'):ag sub P (n+4) 12 [v,w] H Q X:=by
 refine ao zT.a12 rfl ?_
 dsimp only[j4,nQ]
 dsimp only[qS1,qS2,qS3,qS9,jW,qE5,aM,aA,az,aD,aB,ay,ax,aO,aC,aq,Nat.reduceSub]
 refine ⟨CmI A B Z H,fun ρ H'=>jp H' (af ρ 1),⟨v,w,A,B,K,L,none,rfl,JB _,hv,hw,tA,tB,⟨hAB,GU _⟩,⟨sA,sB,hKL⟩,hZ,fun h h1 h2=>⟨h1,h2⟩,?_,?_⟩,?_⟩
 ·exact ⟨1,fun _=>1,fun _=>0,by decide,.const 1,.const 0,fun t=>by dsimp only;exact oqz [] [ev A t,ev B t] [] (.ie (.m 1 Y0) (.a (.m 1 Y0) (.m 0 Y1))) [1] rfl⟩
 ·exact ⟨1,fun _=>0,fun _=>1,by decide,.const 0,.const 1,fun t=>by dsimp only;exact oqz [] [ev B t,ev A t] [] (.ie (.m 1 Y0) (.a (.m 0 Y1) (.m 1 Y0))) [1] rfl⟩
 rintro ρ H' ⟨v1,w1,A1,B1,x,y,o,rfl,hp,hv1,hw1,tA1,tB1,⟨hlt,hle⟩,⟨sA1,sB1,hxy⟩,hz,back,cA,cB⟩
 dsimp only[aa,af,aH]
 refine ifSome.mk (eY hw1) ?_
 have hyZ:y<=Z:=GP xB hz
 rcases tB1 with rfl|tB1
 ·refine (if_neg (show ¬ (!(([]:List Int).map V.int).isEmpty)=true by decide)).mpr ?_
  refine ae (tA1) fun l hl hl0=>?_
  have hmem:=Hd hl
  refine iV (n:=n+2) (ng:=ngQ) kK zT.a8 (fun a b H' Z X' hz=>fo zT.a0 hz) hv1 hl hl0 (by exact oqz [A1.length,A.length] [] [(.le Y1 600),(.le Y0 Y1)] (.le Y0 1000) [111] rfl hA hle) ?_
  have hg:Dv (ev (cv A1 l)) (ev A1):=⟨1,fun _=>gOf A1 l,by decide,.const _,fun t=>by rw[Hs,kP (r:=A1) (l:=l) t,HS]⟩
  obtain ⟨b1,b2⟩:=back _ hg (Dv.zero _)
  refine hQ _ _ _ _ (ah hp (aj _ _)) (ai _ _ _) ⟨bT hl,cL hmem hl0,eI hmem hl0,b1,b2,?_⟩ (fV hmem hl0 (sA1.mono (GP hxy hyZ)))
  refine b8 (cA) fun c u v hc pu pv ee=>?_
  exact ⟨c*gOf A1 l,u,v,HF hc (fU hmem hl0),pu,pv,fun t=>by rw[<- ee,kP (r:=A1) (l:=l) t,HJ]⟩
 ·have hne:(!(B1.map V.int).isEmpty)=true:=by
   cases B1 with
   |nil=>exact absurd rfl tB1.ne
   |cons _ _=>rfl
  rw[hne]
  refine ae (id tB1) fun lb hlb hlb0=>?_
  have hb1:=HA.mpr tB1.ne
  refine lI (tq (A1.length-B1.length-1) (A1.length-2) x y (by exact oqz [A1.length-B1.length-1,A1.length-B1.length,A1.length,B1.length,A1.length-2] [] [(.le (0+1) Y3),(.an (.le Y2 (Y4+2)) (.le Y4 Y2)),(osb Y2 Y3 Y1),(osb Y1 1 Y0)] (.le Y0 Y4) [1001000111,100000001,1000100001] rfl hb1 (aV (A1.length) (2)) (am (A1.length) (B1.length)) (am (A1.length-B1.length) (1)))) fun x' y' s1 s2 s3 s4=>?_
  rw[show A1.length-2+1=A1.length-1 by exact oqz [A1.length-2,A1.length,A1.length-1,B1.length] [] [(.le (Y3+1) Y1),(.le (0+1) Y3),(osb Y1 2 Y0),(osb Y1 1 Y2)] (.eq (Y0+1) Y2) [100010001,100001001,10100001,10010111,1000110] rfl hlt hb1 (am (A1.length) (2)) (am (A1.length) (1))] at s4
  rw[s4,show A1.length-2-(A1.length-B1.length-1)=B1.length-1 from sb1 hlt hb1] at hz
  rw[show A1.length-B1.length-1+2=A1.length-B1.length+1 by exact oqz [A1.length-B1.length-1,A1.length-B1.length,A1.length,B1.length] [] [(.le (Y3+1) Y2),(.an (.le Y2 (Y1+Y3)) (.le Y1 Y2)),(osb Y1 1 Y0)] (.eq (Y0+2) (Y1+1)) [100001,10001,1000001,100111] rfl hlt (aV (A1.length) (B1.length)) (am (A1.length-B1.length) (1))] at s3
  have hyZ':y'<=Z:=GP xB hz
  dsimp only[aX]
  refine tc zT (A:=A1) hv1 hw1 (.inr tA1) hlb hlb0 (by exact oqz [A1.length,A.length] [] [(.le Y1 600),(.le Y0 Y1)] (.le Y0 600) [111] rfl hA hle) sA1 sB1 (by exact oqz [x,(A1.length-B1.length+1)*(y+1),y,Z,B1.length,x',y'] [] [(.le (Y3+Y3) 134217728),(.le (0+1) Y4),(.le Y2 Y5),(.le Y5 Y6),(.le (Y0+Y1) Y6),(.le Y6 Y3)] (.le (Y0+Y1+Y2) 134217728) [2111011] rfl hZ' hb1 s1 s2 s3 hyZ') fun H2 k r hp2 hr R sr=>?_
  refine ⟨⟨w1,.lst k,B1,r,x',y',_,rfl,ah hp hp2,b7 hp2 hw1,hr,tB1,R.tr,⟨R.len,by exact oqz [B1.length,A.length,A1.length] [] [(.le (Y0+1) Y2),(.le Y2 Y1)] (.le Y0 Y1) [111] rfl hlt hle⟩,⟨sB1.mono s1,sr.mono s3,s2⟩,hz,fun h h1 h2=>back h (R.back h1 h2) h1,cB,cA.rest cB R⟩,?_⟩
  show jp H2 (some (V.lst k))<jp H' (some w1)
  rw[e5 (x:=.lst k) hr,e5 hw1,GO,GO];exact R.len
end
end Mine
namespace Mine
open PySem
section
end
end Mine
namespace Mine
open PySem Re
structure PlG (K n:Nat)(g:Re)(R:List Int):Prop where
 la:∃l,R.getLast?=some l/\0<l
 one:br R 0=1
 ln:R.length<=n
 sm:AllSm K R
 rt:evR R g=0
 d0:dR R g≠0
theorem wF{c:Int}{r:List Int}(t:Re):evR (sl 1 r) t=dR (c::r) t:=by rw[vA,jF,show ((1:Int):Re)=1 from rfl];grind
theorem z8(t:Re){F x h:List Int}(e:∀t,evR F t=evR x t*evR h t):dR F t=dR x t*evR h t+evR x t*dR h t:=
 Dr.uniq (gZ F) (((gZ x).mul (gZ h)).of (fun t=>(e t).symm) fun _=>rfl) t
theorem rK{c lx:Int}{r x h:List Int}{g:Re}(hG:Gcd (c::r) (sl 1 r) x lx)(em:∀t,evR (c::r) t=evR x t*evR h t)(hg:evR (c::r) g=0):evR h g=0/\dR h g≠0:=by
 have lx0:lx≠0:=GY hG.pos
 have tx:Tr x:=⟨lx,hG.last,lx0⟩
 have hx:∃t,evR x t≠0:=by
  obtain ⟨t,ht⟩:=tx.nz
  exact ⟨t,fun h=>ht (fQ (by rw[nT,h,aE]))⟩
 refine cR (zx hG.d2) fun c2 E hc2 e2=>?_
 refine jY (vf hG.cb) fun c3 U W hc3 e3=>?_
 have k1:∀t,(c2:Re)*(dR x t*evR h t+evR x t*dR h t)=evR x t*evR E t:=fun t=>by rw[<- z8 t em,<- wF,e2]
 refine u7 (D:=evR x) (h:=evR h) (E:=evR E) (U:=evR U) (W:=evR W) (D':=dR x) (h':=dR h) (c2:=(c2:Re)) (c3:=(c3:Re)) (jB x) (jB h) (jB E) (FR h) hx (gZ x) (gZ h) k1 (fX hc2) (fX hc3) ?_ (by rw[<- em,hg])
 have pz:PX fun t=>(c2:Re)*(evR U t*evR h t)+evR W t*evR E t:=(PX.lin 1 ((PX.const (c2:Re)).mul ((jB U).mul (jB h))) ((jB W).mul (jB E))).of fun t=>by rw[fF]
 have key:∀t,evR x t*((c3:Re)*c2)=evR x t*((c2:Re)*(evR U t*evR h t)+evR W t*evR E t):=fun t=>by
  have a1:=e3 t
  have a2:=e2 t
  rw[em] at a1
  generalize evR x t=X at *
  generalize evR (sl 1 r) t=S at *
  clear e2 e3 k1 em
  grind
 intro t
 -- off the roots of x,hence everywhere
 refine aF (nR (u:=t) (tt x) hx) fun s k pk k0 ek=>?_
 exact g6 (u:=t) (s:=s) (f:=fun s=>k s*((c3:Re)*c2)) (g:=fun s=>k s*((c2:Re)*(evR U s*evR h s)+evR W s*evR E s)) (pk.mul (PX.const _)) (pk.mul pz) (fun s'=>by
  have:=key s'
  rw[ek] at this
  rw[Jc,Jc] at this;exact this) |> ji k0
section
variable {sub:Nat->Nat->Bool}{P:List Fn}{n:Nat}{H:Hp}{Q:V->Hp->Prop}{X:Nat->Hp->Prop}
theorem uC:∀ {d x y x' y':Nat},x<=x'->y<=y'->pl x y d<=pl x' y' d
 |0,_,_,_,_,_,h=>h
 |d+1,x,y,x',y',h1,h2=>by rw[plC,plC];exact uC h2 (by exact oqz [x,y,x',y'] [] [(.le Y0 Y2),(.le Y1 Y3)] (.le (Y0+(Y1+1)+(Y1+1)) (Y2+(Y3+1)+(Y3+1))) [211] rfl h1 h2)
theorem yP:∀ {d x y:Nat},x<=y->pl x y d<=pl x y (d+1)
 |0,x,y,h=>by rw[plC];show y<=x+(y+1)+(y+1);exact oqz [y,x] [] [] (.le Y0 (Y1+(Y0+1)+(Y0+1))) [1] rfl
 |d+1,x,y,h=>by rw[plC,plC x y (d+1)];exact yP (by exact oqz [y,x] [] [] (.le Y0 (Y1+(Y0+1)+(Y0+1))) [1] rfl)
theorem DD{K n:Nat}(hn:n<=12)(hK:K<=1000):pl K (64+K) n<=60000000:=by
 have h1:∀k,pl K (64+K) n<=pl K (64+K) (n+k):=fun k=>by
  induction k with
  |zero=>exact GU _
  |succ k ih=>exact GP ih (yP (by exact oqz [K] [] [] (.le Y0 (64+Y0)) [1] rfl))
 have h2:=h1 (12-n)
 rw[show n+(12-n)=12 by exact oqz [n,12-n] [] [(.le Y0 12),(osb 12 Y0 Y1)] (.eq (Y0+Y1) 12) [1001,101,10001,1011] rfl hn (am (12) (n))] at h2
 exact GP h2 (GP (uC hK (show 64+K<=1064 by exact oqz [K] [] [(.le Y0 1000)] (.le (64+Y0) 1064) [11] rfl hK)) (by decide))
theorem yO{K:Nat}:∀ (r:List Int) (k:Int),0<=k->k+r.length<=1000->AllSm K r->AllSm (64+K) (sl k r)
 | [],_,_,_,_=>.nil
 |y::w,k,h0,h1,h2=>by
  rw[List.length_cons] at h1
  exact .cons ((fD ⟨h0,by exact oqz [w.length] [k] [(.il (.a Y0 (.c (Y0+1))) 1000)] (.il Y0 1000000) [11] rfl h1⟩).mul h2.hd) (yO w (k+1) (by exact oqz [] [k] [(.il 0 Y0)] (.il 0 (Y0+1)) [11] rfl h0) (by exact oqz [w.length] [k] [(.il (.a Y0 (.c (Y0+1))) 1000)] (.il (.a (Y0+1) (.c Y0)) 1000) [11] rfl h1) h2.tl)
theorem xy(zT:TT P)
  {v:V}{row:List Int}{l:Int}{g:Re}{K:Nat} (hv:items H v=some (row.map .int)) (la:row.getLast?=some l) (l0:l≠0) (sm:AllSm K row) (hn:2<=row.length) (h5:row.length<=13) (hg:evR row g=0) (hK:K<=1000)
  (hQ:∀H' i R F,H<+:H'->H'[i]?=some (R.map .int)->PlG (K+172) row.length g R->(Tr F/\br F 0=1/\F.length<=13/\AllSm K F/\evR F g=0)->Q (.lst i) H'):ag sub P (n+5) 14 [v] H Q X:=by
 have hmem:=Hd la
 refine ao zT.a14 rfl ?_
 dsimp only[qG]
 generalize hT:qt 8 13 12 9=T
 dsimp only[qS1,qS2,qS3,bw,vq,qE1,qE5,bx,aM,b6,aA,az,aD,aB,ay,ax,aO,aC,aq,aa,af,aH,Nat.reduceSub]
 refine rC zT hv fun ys j' hz ty=>?_
 have hys:ys=row:=gP ty (.inr ⟨l,la,l0⟩) fun t=>(tY hz t).symm
 clear hz
 subst hys
 refine ifSome.mk (ai _ _ _) ?_
 dsimp only[fh,aN,aa]
 rw[GO,decide_eq_false (by exact oqz [ys.length] [] [(.le 2 Y0)] (.no (.il (.a (.c Y0) 1) 2)) [11] rfl hn)]
 subst hT
 dsimp only[qt,qS1,qS2,qS3,qS9,qE5,aM,aA,az,aR,aa,af,aH]
 refine iV (n:=n+3) (ng:=ngQ) kK zT.a8 (fun a b H' Z X' hz=>fo zT.a0 hz) (v:=.lst H.length) (ai _ _ _) la l0 (by exact owk (by decide) h5) ?_
 generalize hH1:H++[ys.map V.int]=H1
 have hp1:H<+:H1:=by rw[<- hH1];exact aj _ _
 clear hH1
 have g0:=fX (fU hmem l0)
 have hgF:evR (cv ys l) g=0:=bY (x:=((gOf ys l:Int):Re)) (by rw[<- bG,fG,hg]) g0
 have la':=bT la
 have l0':=cL hmem l0
 have one':=eI hmem l0
 have sm':=fV hmem l0 sm
 have ln':=@cV ys l
 generalize cv ys l=F at *
 generalize l.fdiv (gOf ys l)=lF at *
 clear la l0 sm hv hmem g0 ty hg
 cases F with
 |nil=>cases la'
 |cons c r =>
  have tF:Tr (c::r):=⟨lF,la',GY l0'⟩
  have tr':Tr r:=by
   cases r with
   |nil=>rw[G8] at ln';omega
   |cons y w=>exact tF.tl
  have hrl:r.length<=12:=by rw[List.length_cons] at ln';exact oqz [r.length,ys.length] [] [(.le Y1 13),(.eq (Y0+1) Y1)] (.le Y0 12) [111] rfl h5 ln'
  refine A3 zT (c:=c) (r:=r) (ai _ _ _) (by exact owk (by decide) hrl) ?_
  generalize hH2:H1++[(c::r).map V.int]=H2
  have hk1:H2[H1.length]?=some ((c::r).map V.int):=by rw[<- hH2];exact ai _ _ _
  have hp2:H1<+:H2:=by rw[<- hH2];exact aj _ _
  clear hH2
  have ssl:AllSm (64+K) (sl 1 r):=yO r 1 (by decide) (by exact oqz [r.length] [] [(.le Y0 12)] (.il (.a 1 (.c Y0)) 1000) [11] rfl hrl) sm'.tl
  have tsl:=Ba (k:=1) (by decide) tr'
  have hlen:(c::r).length=r.length+1:=rfl
  refine vd zT (A:=c::r) (B:=sl 1 r) (K:=K) (L:=64+K) (Z:=60000000) (v:=.lst H1.length) (w:=.lst H2.length) (av (aj _ _) hk1) (ai _ _ _) tF (.inr tsl) (by rw[rU];exact Ia _) (by exact oqz [r.length] [] [(.le Y0 12)] (.le (Y0+1) 600) [11] rfl hrl) sm' ssl (by exact oqz [K] [] [] (.le Y0 (64+Y0)) [1] rfl) (DD hrl hK) (by decide) fun H3 i x lx hp3 hi hx sx=>?_
  refine ae (mP hx.one one' hx.last la' (GY hx.pos) (GY l0') hx.d1) fun h th eh=>?_
  have tx:Tr x:=⟨lx,hx.last,GY hx.pos⟩
  have em:c::r=cx x h:=gP (.inr tF) (.inr (j9 tx th)) fun t=>by rw[eh,cM]
  have eR:∀s,evR (c::r) s=evR x s*evR h s:=fun s=>by rw[em,d8]
  have q1:=dM tx.ne th.ne
  rw[<- em] at q1
  have hx1:=HA.mpr tx.ne
  obtain ⟨r1,r2⟩:=rK hx eR hgF
  have sh:=vV (A:=h) (h:=x) tF (by exact oqz [r.length] [] [(.le Y0 12)] (.le (Y0+1) 13) [11] rfl hrl) sm' (by exact oqz [h.length,r.length,x.length] [] [(.eq (Y1+1+1) (Y2+Y0)),(.le (0+1) Y2)] (.le Y0 (Y1+1)) [1101] rfl q1 hx1) fun t=>by rw[eh,HS]
  have hk3:H3[H1.length]?=some ((c::r).map V.int):=av hp3 (av (aj _ _) hk1)
  refine ae (id th) fun lh lah lh0=>?_
  have mh:=Hd lah
  refine Do zT (v:=.lst H1.length) (w:=.lst i) hk3 hi hx.last (GY hx.pos) eh q1 (by exact oqz [r.length] [] [(.le Y0 12)] (.le (Y0+1) 800) [11] rfl hrl) sx sh (by exact oqz [K] [] [(.le Y0 1000)] (.le (Y0+172+60000000) 134217728) [11] rfl hK) fun H4 i4 hp4 hi4=>?_
  refine iV (n:=n+3) (ng:=ngQ) kK zT.a8 (fun a b H' Z X' hz=>fo zT.a0 hz) (v:=.lst i4) hi4 lah lh0 (by exact oqz [h.length,r.length,x.length] [] [(.le Y1 12),(.eq (Y1+1+1) (Y2+Y0))] (.le Y0 1000) [1011] rfl hrl q1) ?_
  have hpp:H<+:H4:=ah hp1 (ah hp2 (ah (aj _ _) (ah hp3 hp4)))
  have gh:=fX (fU mh lh0)
  have he:∀t,evR h t=((gOf h lh:Int):Re)*evR (cv h lh) t:=fun t=>by rw[<- bG,fG]
  refine hQ _ _ _ (c::r) (ah hpp (aj _ _)) (ai _ _ _) ⟨⟨_,bT lah,cL mh lh0⟩,eI mh lh0,by rw[cV];exact oqz [h.length,ys.length,r.length,x.length] [] [(.eq (Y2+1) Y1),(.eq (Y2+1+1) (Y3+Y0)),(.le (0+1) Y3)] (.le Y0 Y1) [110011] rfl ln' q1 hx1,fV mh lh0 sh,bY (x:=((gOf h lh:Int):Re)) (by rw[<- he,r1]) gh,fun hd=>r2 ?_⟩ ⟨tF,one',by exact oqz [r.length] [] [(.le Y0 12)] (.le (Y0+1) 13) [11] rfl hrl,sm',hgF⟩
  have dd:=Dr.uniq (gZ h) ((((show Dr (fun _=>((gOf h lh:Int):Re)) fun _=>0 from ⟨fun _ _=>0,fun _=>PX.const 0,fun t s=>by grind⟩)).mul (gZ (cv h lh))).of (fun t=>(he t).symm) fun _=>rfl) g
  rw[dd,hd];grind
end
end Mine
namespace Mine
open Re
theorem DN{b D n:Nat}(hD:D<=12)(hn:n<=11)(hb:b<=1236):(2^b)^D*((n+1)*((2*(3*2^b)^D+1)^n*(2^50)^(n+1)))<=2^180000:=by
 have h3:3*2^b<=2^(b+2):=by rw[IW];exact oqz [2^b] [] [] (.le (.m 3 Y0) (.r Y0 4)) [1] rfl
 have h4:(3*2^b)^D<=2^((b+2)*D):=by rw[Nat.pow_mul];exact IS h3 D
 have h5:2*(3*2^b)^D+1<=2^((b+2)*D+2):=by rw[IW];have:=I9 ((b+2)*D);exact oqz [(3*2^b)^D,2^((b+2)*D)] [] [(.le Y0 Y1),(.le (0+1) Y1)] (.le (.a (.m 2 Y0) 1) (.r Y1 4)) [221] rfl h4 this
 have h6:(2*(3*2^b)^D+1)^n<=2^(((b+2)*D+2)*n):=by rw[Nat.pow_mul];exact IS h5 n
 have h7:n+1<=2^4:=by rw[show (2:Nat)^4=16 by decide];exact oqz [n] [] [(.le Y0 11)] (.le (Y0+1) 16) [11] rfl hn
 rw[<- Nat.pow_mul,<- Nat.pow_mul]
 refine GP (Hu _ (HP h7 (HM _ h6))) ?_
 rw[<- IW,<- IW,<- IW]
 refine HL (by decide) ?_
 have a1:b*D<=1236*12:=HP hb hD
 have a2:(b+2)*D<=1238*12:=HP (by exact oqz [b] [] [(.le Y0 1236)] (.le (Y0+2) 1238) [11] rfl hb) hD
 have a3:((b+2)*D+2)*n<=(1238*12+2)*11:=HP (by exact oqz [(b+2)*D] [] [(.le Y0 14856)] (.le (Y0+2) 14858) [11] rfl a2) hn
 exact om [b*D,((b+2)*D+2)*n,n] [] [(.le Y2 11),(.le Y0 14832),(.le Y1 163438)] (.le (.a Y0 (.a 4 (.a Y1 (.m 50 (Y2+1))))) 180000) [[1,50,1,1]] rfl hn a1 a3
theorem tZ{t:Re}{Z W:Nat}(h:1<=((Z:Int):Re)*t)(h0:0<=t)(hZ:Z<=W):1<=((W:Int):Re)*t:=by
 have:=ac (cH (aZ (Il.mpr hZ))) h0
 grind
theorem Fa{R:List Int}{l:Int}{g:Re}(hl:R.getLast?=some l)(l0:l≠0)(r:evR R g=0):2<=R.length:=by
 rcases R with _ | ⟨x,_ | ⟨y,s⟩⟩
 ·cases hl
 ·cases hl
  rw[aP,dE] at r
  exact absurd (fQ (show (x:Re)=((0:Int):Re) by rw[aE];grind)) l0
 ·simp
theorem An{F R:List Int}{g:Re}{K n:Nat}(hF:Tr F/\br F 0=1/\F.length<=13/\AllSm K F/\evR F g=0)(hR:PlG (K+172) n g R)(hn:n<=13)(hK:K<=1000)(hg:ab g<=(((2^50:Nat):Int):Re)):1<=(((2^180000:Nat):Int):Re)*ab (dR R g):=by
 refine t6 (hF) fun tF oF lF sF' rF=>?_
 refine cr (AC tF rF) fun K1 tK1 rK1 mK1=>?_
 -- in its lowest form
 refine ae (id tK1) fun l1 hl1 h1=>?_
 have m1:=Hd hl1
 have g1:=fX (fU m1 h1)
 have rK0:evR (cv K1 l1) g=0:=bY (x:=((gOf K1 l1:Int):Re)) (by rw[<- bG,fG,rK1]) g1
 have la0:=bT hl1
 have l00:=cL m1 h1
 have one0:=eI m1 h1
 rw[<- @cV K1 l1] at mK1
 generalize cv K1 l1=K0 at *
 generalize l1.fdiv (gOf K1 l1)=l at *
 clear tK1 rK1 hl1 h1 m1 g1
 have l0:l≠0:=GY l00
 refine ae (id tF) fun lf hlf lf0=>?_
 have dv:=Ar (F:=F) la0 l0 rF rK0 mK1
 refine ae (mP one0 oF la0 hlf l0 lf0 dv) fun h th eh=>?_
 have tK0:Tr K0:=⟨l,la0,l0⟩
 have eml:F=cx K0 h:=gP (.inr tF) (.inr (j9 tK0 th)) fun t=>by rw[eh,cM]
 have ql:=dM tK0.ne th.ne
 rw[<- eml] at ql
 have hh1:=HA.mpr th.ne
 have s0:=vV (A:=K0) (h:=h) tF lF sF' (by exact oqz [K0.length,F.length,h.length] [] [(.eq (Y1+1) (Y0+Y2)),(.le (0+1) Y2)] (.le Y0 Y1) [1101] rfl ql hh1) eh
 -- the parts of the qb row
 have hk2:2<=K0.length:=Fa la0 l0 rK0
 obtain ⟨m,hm⟩:∃m,K0.length=m+2:=⟨K0.length-2,by exact oqz [K0.length,K0.length-2] [] [(.le 2 Y0),(osb Y0 2 Y1)] (.eq Y0 (Y1+2)) [10001,1011,1001,101] rfl hk2 (am (K0.length) (2))⟩
 have eK:K0=(List.range (m+2)).map fun i=>K0.getD i 0:=by
  refine List.ext_getElem (by rw[GO,Jb,hm]) fun i h1 h2=>?_
  rw[List.getElem_map,List.getElem_range,G7,G2 h1];rfl
 have hlast:K0.getD (m+1) 0=l:=by
  rw[Iq,hm] at la0
  rw[G7]
  show (K0[m+1]?).getD 0=l
  rw[show m+1=m+2-1 from rfl,la0];rfl
 have hv:vF (m+1) (fun i=>K0.getD i 0) g+(l:Re)*g^(m+1)=0:=by
  have:=Bx g (m+2) (fun i=>K0.getD i 0)
  rw[<- eK,rK0,vFC,hlast] at this
  exact this
 have bd:∀ {xs:List Int},AllSm (K+236) xs->∀x∈xs,x.natAbs<=2^(K+236):=fun hs x hx=>Ji (hs x hx)
 have bl:=bd (s0.mono (by exact oqz [K] [] [] (.le (Y0+172) (Y0+236)) [1] rfl)) l (Hd la0)
 have bk:∀i,i<=m->(K0.getD i 0).natAbs<=2^(K+236):=fun i hi=>by
  have hi':i<K0.length:=oqz [i,K0.length,m] [] [(.eq Y1 (Y2+2)),(.le Y0 Y2)] (.le (Y0+1) Y1) [1101] rfl hm hi
  rw[G7,G2 hi']
  exact bd (s0.mono (by exact oqz [K] [] [] (.le (Y0+172) (Y0+236)) [1] rfl)) _ (List.getElem_mem hi')
 -- the slope
 cases hR':R with
 |nil=>rw[hR'] at hR;refine ae (hR.la) fun l h _=>?_;cases h
 |cons c r =>
  rw[hR'] at hR
  have hrl:=hR.ln
  rw[List.length_cons] at hrl
  have sP:=yO r 1 (by decide) (by exact oqz [r.length,n] [] [(.le Y1 13),(.le (Y0+1) Y1)] (.il (.a 1 (.c Y0)) 1000) [111] rfl hn hrl) hR.sm.tl
  have hP0:evR (sl 1 r) g≠0:=by rw[wF (c:=c)];exact hR.d0
  have k:=Gl hv l0 (fun xs hx=>mK1 xs (by exact oqz [xs.length,K0.length,m] [] [(.eq Y1 (Y2+2)),(.le Y0 (Y2+1))] (.le (Y0+1) Y1) [1101] rfl hm hx)) (Nat.one_le_two_pow) bl bk (bd (sP.mono (by exact oqz [K] [] [] (.le (64+(Y0+172)) (Y0+236)) [1] rfl))) (Nat.one_le_two_pow) hg hP0
  rw[rU] at k
  rw[wF (c:=c)] at k
  exact tZ k (aI _) (DN (by exact oqz [r.length,n] [] [(.le Y1 13),(.le (Y0+1) Y1)] (.le Y0 12) [111] rfl hn hrl) (by exact oqz [m,F.length,K0.length,h.length] [] [(.le Y1 13),(.eq (Y1+1) (Y2+Y3)),(.le (0+1) Y3),(.eq Y2 (Y0+2))] (.le Y0 11) [1011011] rfl lF ql hh1 hm) (by exact oqz [K] [] [(.le Y0 1000)] (.le (Y0+236) 1236) [11] rfl hK))
theorem BS{w:Re}{C:Int}(h0:0<=w)(h1:w<=1)(hC:0<=C):∀ {r:List Re},(∀y∈r,ab y<=(C:Re))->zz w r<=(((r.length:Int)*C:Int):Re)
 | [],_=>by show (0:Re)<=_;rw[List.length_nil];show (0:Re)<=((0*C:Int):Re);rw[HO,aE];exact Ha _
 |c::r,h=>by
  have ih:=BS h0 h1 hC (r:=r) fun y hy=>h y (G3 _ hy)
  have hc:=h c GW
  have:=ac (cH h1) (pX h0 r)
  rw[zzC,List.length_cons,show (((r.length+1:Nat):Int)*C:Int)=(r.length:Int)*C+C by rw[Int.natCast_succ];grind,ba]
  grind
theorem Cg{A w:Re}(hA:((1:Int):Re)<=A)(hw:A*w<=1)(w0:0<w):w<=1:=by
 have one:((1:Int):Re)=1:=rfl
 rw[one] at hA
 have:=ac (cH hA) (G4 w0)
 grind
theorem DM{A C D E N z T w:Re}(w0:0<w)(zn:0<=z)(hN:N<=D)(z2:z<=C)(pA:0<A)(pC:0<C)(pN:0<D)(p157:4<=E)(L:1<=A*T)(hw:A*(C*(D*E))*w<=1):N*(w*z)+N*(w*z)<T:=by
 have k1:=ac (ac (G4 w0) zn) (cH hN)
 have k2:=ac (ac (G4 w0) (G4 pN)) (cH z2)
 have k3:=mul_pos (mul_pos pA (mul_pos pC pN)) w0
 have k4:=ac (G4 k3) (cH p157)
 refine Jx.mp fun hn=>?_
 have k5:=ac (G4 pA) (cH hn)
 have k6:=ac (G4 pA) k1
 have k7:=ac (G4 pA) k2
 clear k1 k2 hn zn hN z2 p157
 grind
theorem Gr{K n B M:Nat}(hB:1+B<=2^M)(hK:K<=1000)(hn:n<=13):(2^(K+172)*(1+(B:Int))^n:Int)<=((2^(1172+M*13):Nat):Int):=by
 have e1:(1+(B:Int))=((1+B:Nat):Int):=(Int.natCast_add 1 B).symm
 have e2:((2:Int)^(K+172))=((2^(K+172):Nat):Int):=(IF 2 _).symm
 rw[e1,<- IF,e2,<- HQ]
 refine Il.mpr ?_
 rw[IW 2 1172,Nat.pow_mul]
 exact HP (HL (by decide) (by exact oqz [K] [] [(.le Y0 1000)] (.le (Y0+172) 1172) [11] rfl hK)) (GP (IS hB _) (HL (I9 M) hn))
theorem vu{F R:List Int}{g lo hi:Re}{K n:Nat}{p1 q1 p2 q2:Int}(hF:Tr F/\br F 0=1/\F.length<=13/\AllSm K F/\evR F g=0)(hR:PlG (K+172) n g R)(hn:n<=13)(hK:K<=1000)(hg:ab g<=(((2^50:Nat):Int):Re))(h1:0<q1)(h2:0<q2)(e1:(q1:Re)*lo=p1)(e2:(q2:Re)*hi=p2)(lt:lo<g)(gt:g<hi)
  (hw:(((2^182000:Nat):Int):Re)*(hi-lo)<=1):Aln R p1 q1 p2 q2:=by
 have L:=An hF hR hn hK hg
 have w0:0<hi-lo:=by grind
 rcases R with _ | ⟨c,_ | ⟨d,r⟩⟩
 ·refine ae (hR.la) fun l h _=>?_;cases h
 ·exact absurd (by rw[jF,dE,BQ];grind) hR.d0
 ·obtain ⟨r2,e⟩:=tU g r c d
  have tl:=iu g (c::d::r)
  rw[e] at tl
  have hl:=hR.ln
  have hr2:r2.length<=11:=by simp at tl hl;exact oqz [r2.length,n,r.length] [] [(.le Y1 13),(.le (Y2+1+1) Y1),(.eq Y0 Y2)] (.le Y0 11) [1111] rfl hn hl tl
  have tb:=wi (B:=((2^50:Nat):Int)) hg (by exact oqz [] [] [] (.il 0 (.c 1125899906842624)) [1] rfl) hR.sm
  rw[e] at tb
  rw[hR.rt] at e
  have w1:hi-lo<=1:=Cg (aZ (Il.mpr (Nat.one_le_two_pow (n:=182000)))) hw w0
  -- C bounds the numbers of the row about g
  have hC:=Gr (K:=K) (n:=(c::d::r).length) (B:=2^50) (M:=51) (by decide) hK (GP hl hn)
  have z1:=BS (C:=((2^(1172+51*13):Nat):Int)) (G4 w0) w1 (HW _) (r:=r2) fun y hy=>ku (tb y (G3 _ (G3 _ hy))) hC
  have z2:zz (hi-lo) r2<=(((2^(1172+51*13+4):Nat):Int):Re):=by
   refine bU z1 (aZ ?_)
   rw[<- HQ]
   refine Il.mpr ?_
   rw[IW 2 (1172+51*13),IY]
   exact Hu _ (show r2.length<=2^4 by rw[show (2:Nat)^4=16 by decide];exact owk (by decide) hr2)
  have hN:(((r2.length:Int)+1:Int):Re)<=(((2^4:Nat):Int):Re):=aZ (by show _<=(16:Int);exact oqz [r2.length] [] [(.le Y0 11)] (.il (.a (.c Y0) 1) 16) [11] rfl hr2)
  have zn:=pX (G4 w0) r2
  have key:(((r2.length:Int)+1:Int):Re)*((hi-lo)*zz (hi-lo) r2)+(((r2.length:Int)+1:Int):Re)*((hi-lo)*zz (hi-lo) r2)<ab (dR (c::d::r) g):=by
   have p182:(((2^182000:Nat):Int):Re)=(((2^180000:Nat):Int):Re)*((((2^(1172+51*13+4):Nat):Int):Re)*((((2^4:Nat):Int):Re)*(((2^157:Nat):Int):Re))):=by
    rw[<- au,<- au,<- au,<- HQ,<- HQ,<- HQ,<- IW,<- IW,<- IW]
   have p157:(4:Re)<=(((2^157:Nat):Int):Re):=aZ (x:=4) (Il.mpr (show 4<=2^157 by decide))
   have pA:0<(((2^180000:Nat):Int):Re):=bD (IR.mpr (I9 _))
   have pC:0<(((2^(1172+51*13+4):Nat):Int):Re):=bD (IR.mpr (I9 _))
   have pN:0<(((2^4:Nat):Int):Re):=bD (by decide)
   rw[p182] at hw
   exact DM w0 zn hN z2 pA pC pN p157 L hw
  rcases f7 (dR (c::d::r) g) with hh|hh
  ·exact jN (σ:=1) (.inl rfl) e h1 h2 e1 e2 lt gt (by rw[hh] at key;show _<(1:Re)*_;rw[fF];exact key)
  ·exact jN (σ:=-1) (.inr rfl) e h1 h2 e1 e2 lt gt (by rw[hh] at key;show _<(-1:Re)*_;rw[show (-1:Re)*dR (c::d::r) g=-dR (c::d::r) g by grind];exact key)
end Mine
namespace Mine
open PySem Re
theorem qn{p1 q1 p2 q2 p q:Int}{x y:Re}(h1:0<q1)(h2:0<q2)(e1:(q1:Re)*x=p1)(e2:(q2:Re)*y=p2)(e:p*(q1*q2)=(p1*p2)*q):(q:Re)*(x*y)=p:=by
 have:=congrArg (fun n:Int=>(n:Re)) e
 simp only[au] at this
 rw[<- e1,<- e2] at this
 exact ji (dO (dt h1) (dt h2)) (by grind)
section
variable {H:Hp}{Q:V->Hp->Prop}
theorem jS{vs:List V}{a:Nat}{k:Int}{v:V}{H:Hp}{Q:V->Prop}(ha:H[a]?=some vs)(hk:0<=k)(hv:vs[k.toNat]?=some v)(hQ:Q v):ifSome H[a]? fun xs=>ifSome (cD xs.length k) fun i=>ifSome xs[i]? fun v=>Q v:=by
 have hl:=(GX.mp hv).1
 refine ifSome.mk ha (ifSome.mk (v:=k.toNat) ?_ (ifSome.mk hv hQ))
 unfold cD;rw[if_pos hk,if_pos (by exact oqz [vs.length,k.toNat] [k] [(.le (Y1+1) Y0),(.il Y0 (.c Y1))] (.il (Y0+1) (.c Y0)) [111] rfl hl (Int.self_le_toNat (k)))]
end
section
end
end Mine
namespace Mine
open PySem
noncomputable def Fr(D n:Int)(v:V):Prop:=∃p q:Int,v=pt p q/\(0<q/\p.gcd q=1)/\p*D=n*q
theorem Fr.low{k:Nat}{D n:Int}{v:V}(h:Fr D n v)(hD:0<D)(sD:Sm k D)(sn:Sm k n):∃p q,v=pt p q/\Low k p q/\p*D=n*q:=by
 refine aF (h) fun p q e zq1 h3=>?_;obtain ⟨h1,h2⟩:=zq1
 exact ⟨p,q,e,tn h2 h1 hD h3 sn sD,h3⟩
theorem Fr.whole(c:Int):Fr 1 c (pt c 1):=⟨c,1,rfl,⟨by decide,Int.gcd_one⟩,rfl⟩
theorem Fr.scale{D n:Int}{v:V}(c:Int)(h:Fr D n v):Fr (D*c) (n*c) v:=by
 refine aF (h) fun p q e h1 h3=>?_
 exact ⟨p,q,e,h1,by rw[<- HJ,h3,IL]⟩
theorem Fr.eq{D n D' n':Int}{v:V}(h:Fr D n v)(e:D=D')(e':n=n'):Fr D' n' v:=e ▸ e' ▸ h
theorem CB{p1 q1 p2 q2 p q D n m:Int}(h1:0<q1)(h2:0<q2)(e1:p1*D=n*q1)(e2:p2*D=m*q2)(e:p*(q1*q2)=(p1*q2+p2*q1)*q):p*D=(n+m)*q:=by
 refine IE (GY (Hb h1 h2)) ?_
 have k1:q1*q2*(p*D)=(p*(q1*q2))*D:=by rw[HS,IL]
 have k2:(p1*q2+p2*q1)*q*D=((p1*D)*q2+(p2*D)*q1)*q:=by grind
 rw[k1,e,k2,e1,e2];grind
theorem AH{p1 q1 p2 q2 p q D E n m:Int}(h1:0<q1)(h2:0<q2)(e1:p1*D=n*q1)(e2:p2*E=m*q2)(e:p*(q1*q2)=(p1*p2)*q):p*(D*E)=(n*m)*q:=by
 refine IE (GY (Hb h1 h2)) ?_
 have k1:q1*q2*(p*(D*E))=(p*(q1*q2))*(D*E):=by rw[HS,IL]
 have k2:(p1*p2)*q*(D*E)=((p1*D)*(p2*E))*q:=by grind
 rw[k1,e,k2,e1,e2];grind
section
variable {sub:Nat->Nat->Bool}{P:List Fn}{n:Nat}{H:Hp}{Q:V->Hp->Prop}{X:Nat->Hp->Prop}
theorem sU(zT:TT P){k:Nat}{D x y:Int}{v w:V}(a1:Fr D x v)(a2:Fr D y w)(hD:0<D)(sD:Sm k D)(sx:Sm k x)(sy:Sm k y)(hk:k+k+1<=100000)
  (hQ:∀u,Fr D (x+y) u->Q u H):ag sub P (n+3) 3 [v,w] H Q X:=by
 refine aF (a1.low hD sD sx) fun p1 q1 zq L1 e1=>?_;subst zq
 refine aF (a2.low hD sD sy) fun p2 q2 zq L2 e2=>?_;subst zq
 exact oz zT.a3 zT.a1 zT.a0 L1 L2 (GP hk (by decide)) fun p q L hp=>hQ _ ⟨p,q,rfl,⟨L.pos,L.one⟩,CB L1.pos L2.pos e1 e2 hp⟩
theorem lX(zT:TT P){k:Nat}{D E x y:Int}{v w:V}(a1:Fr D x v)(a2:Fr E y w)(hD:0<D)(hE:0<E)(sD:Sm k D)(sE:Sm k E)(sx:Sm k x)(sy:Sm k y)(hk:k+k+1<=100000)
  (hQ:∀u,Fr (D*E) (x*y) u->Q u H):ag sub P (n+3) 4 [v,w] H Q X:=by
 refine aF (a1.low hD sD sx) fun p1 q1 zq L1 e1=>?_;subst zq
 refine aF (a2.low hE sE sy) fun p2 q2 zq L2 e2=>?_;subst zq
 exact pW zT L1.top L1.bot L1.pos L2.top L2.bot L2.pos (GP (HT hk) (by decide)) fun p q L hp=>hQ _ ⟨p,q,rfl,⟨L.pos,L.one⟩,AH L1.pos L2.pos e1 e2 hp⟩
end
noncomputable def FrL(D x:Nat->Int)(m:Nat)(vs:List V):Prop:=vs.length=m/\∀i,i<m->∃v,vs[i]?=some v/\Fr (D i) (x i) v
theorem FrL.snoc{D x:Nat->Int}{m:Nat}{vs:List V}{v:V}(h:FrL D x m vs)(hv:Fr (D m) (x m) v):FrL D x (m+1) (vs++[v]):=by
 obtain ⟨h1,h2⟩:=h
 refine ⟨by rw[GR,h1];rfl,fun i hi=>?_⟩
 rcases Jk (IB hi) with g|g
 ·refine ae (h2 i g) fun w hw p=>?_
  exact ⟨w,av (aj _ _) hw,p⟩
 ·subst g;exact ⟨v,by rw[<- h1];exact ai _ _ _,hv⟩
noncomputable def tP(c:Nat->Int)(l:Int)(P:Nat->Int)(w:Nat):Nat->Int
 |0=>0
 |m+1=>tP c l P w m+(if m+1=w then (w:Int)*c w*l^m else c (m+1)*l^m*P (w-(m+1)))
theorem oL(c:Nat->Int)(l:Int)(P:Nat->Int)(w m:Nat):tP c l P w (m+1)=tP c l P w m+(if m+1=w then (w:Int)*c w*l^m else c (m+1)*l^m*P (w-(m+1))):=rfl
theorem Fh(c:Nat->Int)(l:Int)(P:Nat->Int)(w:Nat):tP c l P w 0=0:=rfl
structure NwP (c:Nat->Int)(l:Int)(n:Nat)(P:Nat->Int):Prop where
 p0:P 0=n
 ps:∀w,P (w+1)=-(tP c l P (w+1) (min (w+1) n))
structure SzP (c:Nat->Int)(l:Int)(n:Nat)(P:Nat->Int)(k N:Nat):Prop where
 l0:0<l
 n1:1<=n
 n9:n<=100
 N9:N<=100
 k9:k<=20000
 k8:8<=k
 sl:∀w,w<=N->Sm k (l^w)
 sc:∀j,j<=n->Sm k (c j)
 sp:∀w,w<=N->Sm k (P w)
 st:∀w m,w<=N->m<=min w n->Sm k (tP c l P w m)
 su:∀w m,w<=N->m+1<=min w n->Sm k (if m+1=w then (w:Int)*c w*l^m else c (m+1)*l^m*P (w-(m+1)))
theorem As{row:List Int}{k:Int}{i:Nat}{x:Int}{H:Hp}{Q:V->Hp->Prop}(hx:row[i]?=some x)(hk:k=(i:Int))(hQ:Q (.int x) H):dX (.tup (row.map .int)) (.int k) H Q:=by
 have hl:=(GX.mp hx).1
 subst hk
 show ifSome (some (row.map V.int)) fun xs=>ifSome (cD xs.length (i:Int)) fun i=>ifSome xs[i]? fun v=>Q v H
 exact ix3 (v:=.int x) rfl (aG (by rw[GO];exact hl)) (by rw[Hj,hx];rfl) hQ
noncomputable def u8(row:List Int)(n:Nat)(c:Nat->Int):Prop:=row.length=n+1/\∀j,j<=n->row[n-j]?=some (c j)
theorem DB{w:Nat}{m:Nat}{l:Int}(h:m+1<=w):(1:Int)*l^(w-(m+1))*l^m=l^(w-1):=by
 rw[Hs,<- IZ];congr 1;exact oqz [w-(m+1),w,m,w-1] [] [(.le (Y2+1) Y1),(osb Y1 (Y2+1) Y0),(osb Y1 1 Y3)] (.eq (Y0+Y2) Y3) [10001001,10000101,1010001,110001,1001011,101011] rfl h (am (w) (m+1)) (am (w) (1))
section
variable {sub:Nat->Nat->Bool}{P:List Fn}{n ps:Nat}{H:Hp}{Q:V->Hp->Prop}{X:Nat->Hp->Prop}{W:Nat->Prop}{NN:Loc->Hp->Prop}{R:V->Hp->Prop}{Y:Nat->Hp->Prop}
theorem Ag(zT:TT P){row:List Int}{c P':Nat->Int}{l:Int}{d k N w i m:Nat}{o1:Option V}{t:V}{vs:List V}(hr:u8 row d c)(z:SzP c l d P' k N)(hwN:w<=N)(hi:H[i]?=some vs)(hv:FrL (fun j=>l^j) P' w vs)(m1:m+1<=w)(m2:m+1<=d)(ht:Fr (l^(w-1)) (tP c l P' w m) t)
  (hN:∀t,Fr (l^(w-1)) (tP c l P' w (m+1)) t->NN [some (.tup (row.map .int)),o1,some (.int d),some (.lst i),some (.int w),some t,some (.int (1+(m:Int)))] H) :
  wpS sub (ag sub P (n+3)) W (oy 3 4) [some (.tup (row.map .int)),o1,some (.int d),some (.lst i),some (.int w),some t,some (.int (1+(m:Int)))] H NN R Y:=by
 have l0:=z.l0
 have k9:k+k+1<=100000:=by have:=z.k9;exact oqz [k] [] [(.le Y0 20000)] (.le (Y0+Y0+1) 100000) [21] rfl this
 have D0:0<l^(w-1):=Ho l0
 have sD:=z.sl (w-1) (by exact oqz [w-1,w,N] [] [(.le Y1 Y2),(.an (.le Y1 (Y0+1)) (.le Y0 Y1))] (.le Y0 Y2) [1011] rfl hwN (aV (w) (1)))
 have m3:m+1<=min w d:=Nat.le_min.mpr ⟨m1,m2⟩
 have st:=z.st w m hwN (HT m3)
 have su:=z.su w m hwN m3
 have hx:=hr.2 (m+1) m2
 have hx':(d:Int)-(1+(m:Int))=((d-(m+1):Nat):Int):=oqz [d,m,d-(m+1)] [] [(.le (Y1+1) Y0),(osb Y0 (Y1+1) Y2)] (.ie (.s (.c Y0) (.a 1 (.c Y1))) (.c Y2)) [10001,1011,1001,101] rfl m2 (am (d) (m+1))
 rw[oL] at hN
 dsimp only[oy,qS1,qS2,qS3,bw,qE1,qE5,qE8,bx,aM,aU,dN,aA,az,e6,dQ,cu,aN,aa,af,aH]
 by_cases hc:m+1=w
 ·rw[decide_eq_true (show 1+(m:Int)=(w:Int) by exact oqz [m,w] [] [(.eq (Y0+1) Y1)] (.ie (.a 1 (.c Y0)) (.c Y1)) [101,11] rfl hc)]
  dsimp only[aX]
  rw[if_pos hc] at hN su
  refine As hx hx' ?_
  refine ⟨IntMulOk.left (fD ⟨by exact oqz [w] [] [] (.il 0 (.c Y0)) [1] rfl,by have:=z.N9;exact oqz [w,N] [] [(.le Y0 Y1),(.le Y1 100)] (.il (.c Y0) 1000000) [111] rfl hwN this⟩),?_⟩
  have f2:=(Fr.whole ((w:Int)*c (m+1))).scale (l^m)
  rw[Hs,show l^m=l^(w-1) by rw[<- hc];rfl,show c (m+1)=c w by rw[hc]] at f2
  rw[show l^m=l^(w-1) by rw[<- hc];rfl] at hN su
  rw[show c (m+1)=c w by rw[hc]]
  exact sU zT ht f2 D0 sD st su k9 hN
 ·rw[decide_eq_false (show ¬ 1+(m:Int)=(w:Int) by exact oqz [m,w] [] [(.no (.eq (Y0+1) Y1))] (.no (.ie (.a 1 (.c Y0)) (.c Y1))) [110,101] rfl hc)]
  dsimp only[aR]
  rw[if_neg hc,IL] at hN su
  refine As hx hx' ?_
  refine ae (hv.2 (w-(m+1)) (by exact oqz [w-(m+1),w,m] [] [(.le (Y2+1) Y1),(osb Y1 (Y2+1) Y0)] (.le (Y0+1) Y1) [10001,1011] rfl m1 (am (w) (m+1)))) fun v hv1 hv2=>?_
  refine jS hi (k:=(w:Int)-(1+(m:Int))) (by exact oqz [w,m] [] [(.le (Y1+1) Y0)] (.il 0 (.s (.c Y0) (.a 1 (.c Y1)))) [11] rfl m1) (by rw[show ((w:Int)-(1+(m:Int))).toNat=w-(m+1) by exact oqz [((↑w:Int)-(1+(↑m:Int))).toNat,w,m,w-(m+1)] [] [(otn (.s (.c Y1) (.a 1 (.c Y2))) Y0),(osb Y1 (Y2+1) Y3)] (.eq Y0 Y3) [1001001,100001,1000011,100101,10101,101] rfl (aQ ((↑w:Int)-(1+(↑m:Int)))) (am (w) (m+1))];exact hv1) ?_
  have s1:Sm k 1:=Sm.mono (k:=1) (by unfold Sm;decide) (GP (by decide) z.k8)
  refine lX zT (Fr.whole (c (m+1))) hv2 (by decide) (Ho l0) s1 (z.sl _ (by exact oqz [w-(m+1),w,m,N] [] [(.le Y1 Y3),(.an (.le Y1 (Y0+(Y2+1))) (.le Y0 Y1))] (.le Y0 Y3) [1011] rfl hwN (aV (w) (m+1)))) (z.sc (m+1) m2) (z.sp _ (by exact oqz [w-(m+1),w,m,N] [] [(.le Y1 Y3),(.an (.le Y1 (Y0+(Y2+1))) (.le Y0 Y1))] (.le Y0 Y3) [1011] rfl hwN (aV (w) (m+1)))) k9 fun t1 h1=>?_
  have f2:=h1.scale (l^m)
  rw[DB m1] at f2
  exact sU zT ht f2 D0 sD st su k9 hN
theorem Bh(zT:TT P){row:List Int}{c P':Nat->Int}{l:Int}{d k N w i:Nat}{o1:Option V}{vs:List V}(hr:u8 row d c)(z:SzP c l d P' k N)(hwN:w<=N)(hi:H[i]?=some vs)(hv:FrL (fun j=>l^j) P' w vs)
  (hN:∀t o6,Fr (l^(w-1)) (tP c l P' w (min w d)) t->NN [some (.tup (row.map .int)),o1,some (.int d),some (.lst i),some (.int w),some t,o6] H):∀ (r m:Nat) (t:V) (o6:Option V),m+r=min w d->Fr (l^(w-1)) (tP c l P' w m) t ->
  cU (fun ρ2 H2 k=>wpS sub (ag sub P (n+3)) W (oy 3 4) ρ2 H2 k R Y) 6 ((List.range' m r).map fun (i:Nat)=>V.int (1+(i:Int))) [some (.tup (row.map .int)),o1,some (.int d),some (.lst i),some (.int w),some t,o6] H NN
 |0,m,t,o6,hm,ht=>by
  obtain rfl:m=min w d:=hm
  exact hN t o6 ht
 |r+1,m,t,o6,hm,ht=>Ag zT hr z hwN hi hv (GP (by rw[<- hm];exact Ih (Jn 1 r) m) (Jm w d)) (GP (by rw[<- hm];exact Ih (Jn 1 r) m) (JR w d)) ht fun t' h' =>
   Bh zT hr z hwN hi hv hN r (m+1) t' _ (by rw[<- hm,JH,Ig]) h'
theorem DS(zT:TT P){row:List Int}{c P':Nat->Int}{l:Int}{d k N w i:Nat}{o1 o5 o6:Option V}{vs:List V}(hr:u8 row d c)(z:SzP c l d P' k N)(hp:NwP c l d P')(hl:c 0=l)(hw1:1<=w)(hwN:w<=N)(hi:H[i]?=some vs)(hW:W i)(hv:FrL (fun j=>l^j) P' w vs)
  (hN:∀vs' o5 o6,FrL (fun j=>l^j) P' (w+1) vs'->NN [some (.tup (row.map .int)),o1,some (.int d),some (.lst i),some (.int w),o5,o6] (H.set i vs')) :
  wpS sub (ag sub P (n+3)) W (oV 1 3 4) [some (.tup (row.map .int)),o1,some (.int d),some (.lst i),some (.int w),o5,o6] H NN R Y:=by
 have N9:=z.N9
 have n9:=z.n9
 have emin:(if (d:Int)<(w:Int) then (d:Int) else (w:Int))=((min w d:Nat):Int):=by
  by_cases h:(d:Int)<(w:Int)
  ·rw[if_pos h,Je (Il.mp (Hn h))]
  ·rw[if_neg h,Jl (Il.mp (Iv.mp h))]
 dsimp only[oV]
 generalize hT:wA 1 4=T
 generalize hB:oy 3 4=B
 dsimp only[qS2,qS3,dp,qE1,qE5,qE7,qE8,b6,aA,az,qI3,cO,Fx,aa,af,aH]
 subst hT hB
 rw[emin]
 have nought:Fr (l^(w-1)) (tP c l P' w 0) (pt 0 1):=((Fr.whole 0).scale (l^(w-1))).eq (Hs _) (HO _)
 refine uE (aK (by decide) (by decide)) (aK (by exact oqz [min w d] [] [] (.il (.g 1000000) (.a (.c Y0) 1)) [1] rfl) (by exact oqz [min w d,w,d] [] [(.le Y2 100),(.an (.le Y0 Y1) (.le Y0 Y2))] (.il (.a (.c Y0) 1) 1000000) [1011] rfl n9 (Mine.kD (w) (d)))) ?_
 rw[show (((min w d:Nat):Int)+1-1).toNat=min w d by exact oqz [((↑(min w d):Int)+1-1).toNat,min w d] [] [(otn (.s (.a (.c Y1) 1) 1) Y0)] (.eq Y0 Y1) [1001,11,101] rfl (aQ ((↑(min w d):Int)+1-1))]
 refine Bh zT hr z hwN hi hv (fun t o6 ht=>?_) (min w d) 0 _ _ (Ie _) nought
 dsimp only[wA,qS1,qS2,qS6,qE1,qE5,qE9,aM,aU,aA,az,aa,bO,af]
 refine ⟨hW,?_⟩
 have hx:=hr.2 0 (Hl _)
 rw[hl] at hx
 refine As hx rfl ?_
 have l0:=z.l0
 have sl1:=z.sl 1 (by exact oqz [N,w] [] [(.le 1 Y1),(.le Y1 Y0)] (.le 1 Y0) [111] rfl hw1 hwN)
 rw[Hr,HH,Hs] at sl1
 have s1:Sm k (-1):=Sm.mono (k:=1) (by unfold Sm;decide) (GP (by decide) z.k8)
 have k9:k+k+1<=100000:=by have:=z.k9;exact oqz [k] [] [(.le Y0 20000)] (.le (Y0+Y0+1) 100000) [21] rfl this
 refine xF zT.a1 zT.a0 l0 (k:=k) s1 sl1 (by exact oqz [k] [] [(.le (Y0+Y0+1) 100000)] (.le Y0 60000000) [12] rfl k9) fun p q L hp'=>?_
 refine lX zT ht ⟨p,q,rfl,⟨L.pos,L.one⟩,hp'⟩ (Ho l0) l0 (z.sl _ (by exact oqz [w-1,w,N] [] [(.le Y1 Y2),(.an (.le Y1 (Y0+1)) (.le Y0 Y1))] (.le Y0 Y2) [1011] rfl hwN (aV (w) (1)))) sl1 (z.st w _ hwN (GU _)) s1 k9 fun t1 h1=>?_
 refine ifSome.mk hi ⟨by rw[hv.1];unfold lim;exact oqz [w,N] [] [(.le Y0 Y1),(.le Y1 100)] (.le (Y0+1) 1000000) [111] rfl hwN N9,hN _ _ _ (hv.snoc (h1.eq ?_ ?_))⟩
 ·rw[<- Hr];congr 1;exact oqz [w-1,w] [] [(.le 1 Y1),(osb Y1 1 Y0)] (.eq (Y0+1) Y1) [1001,101,10001,1011] rfl hw1 (am (w) (1))
 ·obtain ⟨w',rfl⟩:∃w',w=w'+1:=⟨w-1,by exact oqz [w,w-1] [] [(.le 1 Y0),(osb Y0 1 Y1)] (.eq Y0 (Y1+1)) [10001,1011,1001,101] rfl hw1 (am (w) (1))⟩
  rw[hp.ps,Int.mul_neg,H7]
theorem xN(zT:TT P){row:List Int}{c P':Nat->Int}{l:Int}{d k N:Nat}{K:Hp}{o1:Option V}(hr:u8 row d c)(z:SzP c l d P' k N)(hp:NwP c l d P')(hl:c 0=l)(hW:W K.length)
  (hN:∀vs o4 o5 o6,FrL (fun j=>l^j) P' (N+1) vs->NN [some (.tup (row.map .int)),o1,some (.int d),some (.lst K.length),o4,o5,o6] (K++[vs])):∀ (r w:Nat) (vs:List V) (o4 o5 o6:Option V),1+w+r=N+1->FrL (fun j=>l^j) P' (1+w) vs ->
  cU (fun ρ2 H2 k=>wpS sub (ag sub P (n+3)) W (oV 1 3 4) ρ2 H2 k R Y) 4 ((List.range' w r).map fun (i:Nat)=>V.int (1+(i:Int))) [some (.tup (row.map .int)),o1,some (.int d),some (.lst K.length),o4,o5,o6] (K++[vs]) NN
 |0,w,vs,o4,o5,o6,hw,hv=>hN vs o4 o5 o6 (hw ▸ hv)
 |r+1,w,vs,o4,o5,o6,hw,hv=>DS zT (w:=1+w) hr z hp hl (Io 1 w) (Ip (Nat.le_of_add_right_le (HZ (by rw[<- hw,Ig (1+w),Id 1 r]:1+w+1+r=N+1)))) (ai _ _ _) hW hv fun vs' o5' o6' h'=>by
   rw[cy]
   exact xN zT hr z hp hl hW hN r (w+1) vs' _ _ _ (by rw[<- hw,Id r 1,<- Ig 1 w 1,Ig]) h'
theorem n7(zT:TT P){row:List Int}{c P':Nat->Int}{l:Int}{d k N:Nat}(hr:u8 row d c)(z:SzP c l d P' k N)(hp:NwP c l d P')(hl:c 0=l)
  (hQ:∀vs,FrL (fun j=>l^j) P' (N+1) vs->Q (.lst H.length) (H++[vs])):ag sub P (n+4) 25 [.tup (row.map .int),.int N] H Q X:=by
 have N9:=z.N9
 have n9:=z.n9
 refine ao zT.a25 rfl ?_
 dsimp only[Da]
 generalize hB:oV 1 3 4=B
 dsimp only[qS1,qS2,qS3,qS9,dp,qE1,qE5,qE8,aM,b6,fY,aA,az,qI3,cO,e6,eF,aD,aB,ay,ax,aO,aC,aq,aa,af,aH,Nat.reduceSub]
 subst hB
 rw[GO,hr.1,show ((d+1:Nat):Int)-1=(d:Int) by exact oqz [d] [] [] (.ie (.s (.c (Y0+1)) 1) (.c Y0)) [1] rfl]
 refine xF zT.a1 zT.a0 (by decide) (k:=64) (fD ⟨by exact oqz [d] [] [] (.il 0 (.c Y0)) [1] rfl,by exact oqz [d] [] [(.le Y0 100)] (.il (.c Y0) 1000000) [11] rfl n9⟩) (by unfold Sm;decide) (by decide) fun p q L hp'=>?_
 refine uE (aK (by decide) (by decide)) (aK (by exact oqz [N] [] [] (.il (.g 1000000) (.a (.c Y0) 1)) [1] rfl) (by exact oqz [N] [] [(.le Y0 100)] (.il (.a (.c Y0) 1) 1000000) [11] rfl N9)) ?_
 rw[show ((N:Int)+1-1).toNat=N by exact oqz [((↑N:Int)+1-1).toNat,N] [] [(otn (.s (.a (.c Y1) 1) 1) Y0)] (.eq Y0 Y1) [1001,11,101] rfl (aQ ((↑N:Int)+1-1))]
 have v0:FrL (fun j=>l^j) P' (1+0) [pt p q]:=⟨rfl,fun i hi=>by
  obtain rfl:i=0:=oqz [i] [] [(.le (Y0+1) 1)] (.eq Y0 0) [11] rfl hi
  exact ⟨_,rfl,p,q,rfl,⟨L.pos,L.one⟩,by rw[hp.p0];show p*l^0=_;rw[HH];exact hp'⟩⟩
 refine xN zT (K:=H) (W:=fun m=>H.length<=m/\some m≠none) hr z hp hl ⟨GU _,nofun⟩ (fun vs o4 o5 o6 h=>?_) N 0 _ _ _ _ (Id 1 N) v0
 dsimp only[aa,af]
 exact hQ vs h
end
end Mine
namespace Mine
open PySem
noncomputable def fk:Nat->Int
 |0=>1
 |n+1=>fk n*((n:Int)+1)
theorem fkC(n:Nat):fk (n+1)=fk n*((n:Int)+1):=rfl
theorem fN:∀n,0<fk n
 |0=>by decide
 |n+1=>Hb (fN n) (by exact oqz [n] [] [] (.il (0+1) (.a (.c Y0) 1)) [1] rfl)
noncomputable def ds(n:Nat):Nat->Int
 |0=>1
 |j+1=>ds n j*((n:Int)-j)
theorem dsC(n j:Nat):ds n (j+1)=ds n j*((n:Int)-j):=rfl
theorem yc(n:Nat):∀j,j<=n->fk (n-j)*ds n j=fk n
 |0,_=>H7 _
 |j+1,h=>by
  have:=yc n j (HT h)
  rw[show n-j=(n-(j+1))+1 by exact oqz [n-j,n,j,n-(j+1)] [] [(.le (Y2+1) Y1),(osb Y1 Y2 Y0),(osb Y1 (Y2+1) Y3)] (.eq Y0 (Y3+1)) [10001001,1001011,110,1010001,110001] rfl h (am (n) (j)) (am (n) (j+1)),fkC,show ((n-(j+1):Nat):Int)+1=(n:Int)-j by exact oqz [n-(j+1),n,j] [] [(.le (Y2+1) Y1),(osb Y1 (Y2+1) Y0)] (.ie (.a (.c Y0) 1) (.s (.c Y1) (.c Y2))) [1001,101,10001,1011] rfl h (am (n) (j+1))] at this
  rw[dsC,<- this,HJ,HS (ds n j)]
noncomputable def sgI(j:Nat)(x:Int):Int:=if j % 2=1 then -x else x
theorem iW(j:Nat)(x c:Int):sgI j x*c=sgI j (x*c):=by
 unfold sgI;split
 ·exact HC _ _
 ·rfl
theorem AX(j:Nat)(x c:Int):c*sgI j x=sgI j (c*x):=by
 unfold sgI;split
 ·exact Int.mul_neg _ _
 ·rfl
theorem Sm.sgI{k j:Nat}{x:Int}(h:Sm k x):Sm k (Mine.sgI j x):=by
 unfold Mine.sgI;split
 ·exact h.neg
 ·exact h
noncomputable def tE(S E:Nat->Int)(w:Nat):Nat->Int
 |0=>0
 |j+1=>tE S E w j+sgI j (E (w-(j+1))*S (j+1)*ds (w-1) j)
theorem tEC(S E:Nat->Int)(w j:Nat):tE S E w (j+1)=tE S E w j+sgI j (E (w-(j+1))*S (j+1)*ds (w-1) j):=rfl
structure NwE (S E:Nat->Int):Prop where
 e0:E 0=1
 es:∀w,E (w+1)=tE S E (w+1) (w+1)
structure SzE (L:Int)(S E:Nat->Int)(k N:Nat):Prop where
 l0:0<L
 N9:N<=100
 k9:k<=20000
 k8:8<=k
 sl:∀w,w<=N->Sm k (L^w)
 sd:∀w,w<=N->Sm k (fk w*L^w)
 sq:∀w,w+1<=N->Sm k (fk w*L^(w+1))
 ss:∀w,w<=N->Sm k (S w)
 se:∀w,w<=N->Sm k (E w)
 st:∀w j,w<=N->j<=w->Sm k (tE S E w j)
 su:∀w j,w<=N->j+1<=w->Sm k (E (w-(j+1))*S (j+1)*ds (w-1) j)
theorem Bw{j:Nat}{D x:Int}{p q:Int}(h:p*D=x*q):sgI j p*D=sgI j x*q:=by rw[iW,h,iW]
theorem Cm{j:Nat}{p q:Int}(h:p.gcd q=1):(sgI j p).gcd q=1:=by
 unfold sgI;split
 ·rw[Int.neg_gcd];exact h
 ·exact h
section
variable {sub:Nat->Nat->Bool}{P:List Fn}{n:Nat}{H:Hp}{Q:V->Hp->Prop}{X:Nat->Hp->Prop}{W:Nat->Prop}{NN:Loc->Hp->Prop}{R:V->Hp->Prop}{Y:Nat->Hp->Prop}
theorem BU(zT:TT P){j:Nat}{p q i:Int}(hi:i=(j:Int))(hQ:Q (pt (sgI j p) q) H):ag sub P (n+2) 26 [pt p q,.int i] H Q X:=by
 subst hi
 have hm:(j:Int).fmod 2=((j % 2:Nat):Int):=by rw[Int.fmod_eq_emod_of_nonneg _ (by decide)];rfl
 refine ao zT.a26 rfl ?_
 dsimp only[DE,qS1,qS2,qS9,bw,qE1,qE5,qE8,bx,aM,aA,az,ub,dQ,aN,aD,aB,ay,ax,aC,aq,aa,af,Nat.reduceSub]
 refine ⟨by decide,?_⟩
 rw[hm]
 unfold sgI at hQ
 by_cases h:j % 2=1
 ·rw[if_pos h] at hQ
  rw[decide_eq_true (show ((j % 2:Nat):Int)=1 by rw[h];rfl)]
  exact uU zT.a5 hQ
 ·rw[if_neg h] at hQ
  rw[decide_eq_false (show ¬ ((j % 2:Nat):Int)=1 from fun g=>h (Int.ofNat_inj.mp g))]
  exact hQ
theorem AF(zT:TT P){L:Int}{S E:Nat->Int}{k N w j a m:Nat}{o1 o6 o7 o8 o9:Option V}{t:V}{us vs:List V}(z:SzE L S E k N)(hw:w<=N)(hj:j+1<=w)(ha:H[a]?=some us)(hm:H[m]?=some vs)(hu:FrL (fun i=>L^i) S (N+1) us)(hv:FrL (fun i=>fk i*L^i) E w vs)
  (ht:Fr (fk (w-1)*L^w) (tE S E w j) t) (hN:∀t,Fr (fk (w-1)*L^w) (tE S E w (j+1)) t->NN [some (.lst a),o1,some (.lst m),some (.int w),some t,some (.int (1+(j:Int))),o6,o7,o8,o9] H) :
  wpS sub (ag sub P (n+3)) W (yR 3 4 26) [some (.lst a),o1,some (.lst m),some (.int w),some t,some (.int (1+(j:Int))),o6,o7,o8,o9] H NN R Y:=by
 have l0:=z.l0
 have k9:k+k+1<=100000:=by have:=z.k9;exact oqz [k] [] [(.le Y0 20000)] (.le (Y0+Y0+1) 100000) [21] rfl this
 refine ae (hv.2 (w-(j+1)) (by exact oqz [w-(j+1),w,j] [] [(.le (Y2+1) Y1),(osb Y1 (Y2+1) Y0)] (.le (Y0+1) Y1) [10001,1011] rfl hj (am (w) (j+1)))) fun v hv1 hv2=>?_
 refine ae (hu.2 (j+1) (by exact oqz [j,N,w] [] [(.le Y2 Y1),(.le (Y0+1) Y2)] (.le (Y0+1+1) (Y1+1)) [111] rfl hw hj)) fun u hu1 hu2=>?_
 have D0:0<fk (w-1)*L^w:=Hb (fN _) (Ho l0)
 have hsz:=z.sq (w-1) (by exact oqz [w-1,w,N,j] [] [(.le Y1 Y2),(.le (Y3+1) Y1),(osb Y1 1 Y0)] (.le (Y0+1) Y2) [100011,10111] rfl hw hj (am (w) (1)))
 rw[show w-1+1=w by exact oqz [w-1,w,j] [] [(.le (Y2+1) Y1),(osb Y1 1 Y0)] (.eq (Y0+1) Y1) [1001,101,10001,1011] rfl hj (am (w) (1))] at hsz
 dsimp only[yR,qS1,qS2,qS3,qE1,qE5,qE8,aM,aU,aA,az,e6,cu,aa,af,aH]
 refine jS hm (k:=(w:Int)-(1+(j:Int))) (by exact oqz [w,j] [] [(.le (Y1+1) Y0)] (.il 0 (.s (.c Y0) (.a 1 (.c Y1)))) [11] rfl hj) (by rw[show ((w:Int)-(1+(j:Int))).toNat=w-(j+1) by exact oqz [((↑w:Int)-(1+(↑j:Int))).toNat,w,j,w-(j+1)] [] [(otn (.s (.c Y1) (.a 1 (.c Y2))) Y0),(osb Y1 (Y2+1) Y3)] (.eq Y0 Y3) [1001001,100001,1000011,100101,10101,101] rfl (aQ ((↑w:Int)-(1+(↑j:Int)))) (am (w) (j+1))];exact hv1) ?_
 refine jS ha (k:=1+(j:Int)) (by exact oqz [j] [] [] (.il 0 (.a 1 (.c Y0))) [1] rfl) (by rw[show (1+(j:Int)).toNat=j+1 by exact oqz [(1+(↑j:Int)).toNat,j] [] [(otn (.a 1 (.c Y1)) Y0)] (.eq Y0 (Y1+1)) [1001,10,101] rfl (aQ (1+(↑j:Int)))];exact hu1) ?_
 refine lX zT hv2 hu2 (Hb (fN _) (Ho l0)) (Ho l0) (z.sd _ (by exact oqz [w-(j+1),w,j,N] [] [(.le Y1 Y3),(.an (.le Y1 (Y0+(Y2+1))) (.le Y0 Y1))] (.le Y0 Y3) [1011] rfl hw (aV (w) (j+1)))) (z.sl _ (by exact oqz [j,N,w] [] [(.le Y2 Y1),(.le (Y0+1) Y2)] (.le (Y0+1) Y1) [111] rfl hw hj)) (z.se _ (by exact oqz [w-(j+1),w,j,N] [] [(.le Y1 Y3),(.an (.le Y1 (Y0+(Y2+1))) (.le Y0 Y1))] (.le Y0 Y3) [1011] rfl hw (aV (w) (j+1)))) (z.ss _ (by exact oqz [j,N,w] [] [(.le Y2 Y1),(.le (Y0+1) Y2)] (.le (Y0+1) Y1) [111] rfl hw hj)) k9 fun t1 h1=>?_
 have h2:=h1.scale (ds (w-1) j)
 have eD:fk (w-(j+1))*L^(w-(j+1))*L^(j+1)*ds (w-1) j=fk (w-1)*L^w:=by
  rw[HJ (fk _),<- IZ,show w-(j+1)+(j+1)=w by exact oqz [w-(j+1),w,j] [] [(.le (Y2+1) Y1),(osb Y1 (Y2+1) Y0)] (.eq (Y0+(Y2+1)) Y1) [1001,101,10001,1011] rfl hj (am (w) (j+1)),IL,show w-(j+1)=w-1-j by exact oqz [w-(j+1),w,j,w-1-j,w-1] [] [(osb Y1 (Y2+1) Y0),(osb Y1 1 Y4),(osb Y4 Y2 Y3)] (.eq Y0 Y3) [1001000101,100000001,1000100001,1001000011,100101001,10101001,11001,101] rfl (am (w) (j+1)) (am (w) (1)) (am (w-1) (j)),yc _ _ (by exact oqz [j,w-1,w] [] [(.le (Y0+1) Y2),(.an (.le Y2 (Y1+1)) (.le Y1 Y2))] (.le Y0 Y1) [111] rfl hj (aV (w) (1)))]
 rw[eD] at h2
 refine aF (h2) fun p q zq2 zq3 h3=>?_;subst zq2;obtain ⟨hq,hg⟩:=zq3
 refine BU zT (j:=j) (by exact oqz [j] [] [] (.ie (.s (.a 1 (.c Y0)) 1) (.c Y0)) [1] rfl) ?_
 rw[tEC] at hN
 exact sU zT ht ⟨_,q,rfl,⟨hq,Cm hg⟩,Bw h3⟩ D0 hsz (z.st w j hw (by exact oqz [j,w] [] [(.le (Y0+1) Y1)] (.le Y0 Y1) [11] rfl hj)) (z.su w j hw hj).sgI k9 hN
theorem Bs(zT:TT P){L:Int}{S E:Nat->Int}{k N w a m:Nat}{o1 o6 o7 o8 o9:Option V}{us vs:List V}(z:SzE L S E k N)(hw:w<=N)(ha:H[a]?=some us)(hm:H[m]?=some vs)(hu:FrL (fun i=>L^i) S (N+1) us)(hv:FrL (fun i=>fk i*L^i) E w vs)
  (hN:∀t o5,Fr (fk (w-1)*L^w) (tE S E w w) t->NN [some (.lst a),o1,some (.lst m),some (.int w),some t,o5,o6,o7,o8,o9] H):∀ (r j:Nat) (t:V) (o5:Option V),j+r=w->Fr (fk (w-1)*L^w) (tE S E w j) t ->
  cU (fun ρ2 H2 k=>wpS sub (ag sub P (n+3)) W (yR 3 4 26) ρ2 H2 k R Y) 5 ((List.range' j r).map fun (i:Nat)=>V.int (1+(i:Int))) [some (.lst a),o1,some (.lst m),some (.int w),some t,o5,o6,o7,o8,o9] H NN
 |0,j,t,o5,hj,ht=>hN t o5 (hj ▸ ht)
 |r+1,j,t,o5,hj,ht=>AF zT z hw (by rw[<- hj];exact Ih (Jn 1 r) j) ha hm hu hv ht fun t' h' =>
   Bs zT z hw ha hm hu hv hN r (j+1) t' _ (by rw[<- hj,JH,Ig]) h'
theorem DJ(zT:TT P){L:Int}{S E:Nat->Int}{k N w a m:Nat}{o1 o4 o5 o6 o7 o8 o9:Option V}{us vs:List V}(z:SzE L S E k N)(hE:NwE S E)(hw1:1<=w)(hw:w<=N)(ha:H[a]?=some us)(hm:H[m]?=some vs)(hW:W m)(hu:FrL (fun i=>L^i) S (N+1) us)(hv:FrL (fun i=>fk i*L^i) E w vs)
  (hN:∀vs' o4 o5,FrL (fun i=>fk i*L^i) E (w+1) vs'->NN [some (.lst a),o1,some (.lst m),some (.int w),o4,o5,o6,o7,o8,o9] (H.set m vs')) :
  wpS sub (ag sub P (n+3)) W (yb 3 4 26) [some (.lst a),o1,some (.lst m),some (.int w),o4,o5,o6,o7,o8,o9] H NN R Y:=by
 have N9:=z.N9
 have l0:=z.l0
 have k9:k+k+1<=100000:=by have:=z.k9;exact oqz [k] [] [(.le Y0 20000)] (.le (Y0+Y0+1) 100000) [21] rfl this
 dsimp only[yb]
 generalize hT:Ee 4=T
 generalize hB:yR 3 4 26=B
 dsimp only[qS2,qS3,dp,qE1,qE5,qE7,qE8,aA,az,qI3,cO,aa,af,aH]
 subst hT hB
 have nought:Fr (fk (w-1)*L^w) (tE S E w 0) (pt 0 1):=((Fr.whole 0).scale (fk (w-1)*L^w)).eq (Hs _) (HO _)
 refine uE (aK (by decide) (by decide)) (aK (by exact oqz [w] [] [] (.il (.g 1000000) (.a (.c Y0) 1)) [1] rfl) (by exact oqz [w,N] [] [(.le Y0 Y1),(.le Y1 100)] (.il (.a (.c Y0) 1) 1000000) [111] rfl hw N9)) ?_
 rw[show ((w:Int)+1-1).toNat=w by exact oqz [((↑w:Int)+1-1).toNat,w] [] [(otn (.s (.a (.c Y1) 1) 1) Y0)] (.eq Y0 Y1) [1001,11,101] rfl (aQ ((↑w:Int)+1-1))]
 refine Bs zT z hw ha hm hu hv (fun t o5 ht=>?_) w 0 _ _ (Ie _) nought
 dsimp only[Ee,qS1,qS2,qS6,qE1,qE5,aM,dN,aA,az,aa,bO,af]
 refine ⟨hW,?_⟩
 have w0:0<(w:Int):=oqz [w] [] [(.le 1 Y0)] (.il (0+1) (.c Y0)) [11] rfl hw1
 have sw:Sm k (w:Int):=Sm.mono (k:=8) (by unfold Sm;rw[show (2:Nat)^8=256 by decide];exact oqz [(↑w:Int).natAbs,w,N] [] [(.le Y1 Y2),(.le Y2 100),(ona (.c Y1) Y0)] (.le (Y0+1) 256) [10111] rfl hw N9 (bn ((↑w:Int)))) z.k8
 have s1:Sm k 1:=Sm.mono (k:=1) (by unfold Sm;decide) (GP (by decide) z.k8)
 have hsz:=z.sq (w-1) (by exact oqz [w-1,w,N] [] [(.le 1 Y1),(.le Y1 Y2),(osb Y1 1 Y0)] (.le (Y0+1) Y2) [100101,10111] rfl hw1 hw (am (w) (1)))
 rw[show w-1+1=w by exact oqz [w-1,w] [] [(.le 1 Y1),(osb Y1 1 Y0)] (.eq (Y0+1) Y1) [1001,101,10001,1011] rfl hw1 (am (w) (1))] at hsz
 refine lX zT ht ⟨1,w,rfl,⟨w0,Int.one_gcd⟩,rfl⟩ (Hb (fN _) (Ho l0)) w0 hsz sw (z.st w w hw (GU _)) s1 k9 fun t1 h1=>?_
 refine ifSome.mk hm ⟨by rw[hv.1];unfold lim;exact oqz [w,N] [] [(.le Y0 Y1),(.le Y1 100)] (.le (Y0+1) 1000000) [111] rfl hw N9,hN _ _ _ (hv.snoc (h1.eq ?_ ?_))⟩
 ·obtain ⟨v,rfl⟩:∃v,w=v+1:=⟨w-1,by exact oqz [w,w-1] [] [(.le 1 Y0),(osb Y0 1 Y1)] (.eq Y0 (Y1+1)) [10001,1011,1001,101] rfl hw1 (am (w) (1))⟩
  rw[fkC,IL];rfl
 ·obtain ⟨v,rfl⟩:∃v,w=v+1:=⟨w-1,by exact oqz [w,w-1] [] [(.le 1 Y0),(osb Y0 1 Y1)] (.eq Y0 (Y1+1)) [10001,1011,1001,101] rfl hw1 (am (w) (1))⟩
  rw[hE.es,H7]
theorem yl(zT:TT P){L:Int}{S E:Nat->Int}{k N a:Nat}{K:Hp}{o1 o6 o7 o8 o9:Option V}{us:List V}(z:SzE L S E k N)(hE:NwE S E)(ha:K[a]?=some us)(hW:W K.length)(hu:FrL (fun i=>L^i) S (N+1) us)
  (hN:∀vs o3 o4 o5,FrL (fun i=>fk i*L^i) E (N+1) vs->NN [some (.lst a),o1,some (.lst K.length),o3,o4,o5,o6,o7,o8,o9] (K++[vs])):∀ (r w:Nat) (vs:List V) (o3 o4 o5:Option V),1+w+r=N+1->FrL (fun i=>fk i*L^i) E (1+w) vs ->
  cU (fun ρ2 H2 k=>wpS sub (ag sub P (n+3)) W (yb 3 4 26) ρ2 H2 k R Y) 3 ((List.range' w r).map fun (i:Nat)=>V.int (1+(i:Int))) [some (.lst a),o1,some (.lst K.length),o3,o4,o5,o6,o7,o8,o9] (K++[vs]) NN
 |0,w,vs,o3,o4,o5,hw,hv=>hN vs o3 o4 o5 (hw ▸ hv)
 |r+1,w,vs,o3,o4,o5,hw,hv=>DJ zT (w:=1+w) z hE (Io 1 w) (Ip (Nat.le_of_add_right_le (HZ (by rw[<- hw,Ig (1+w),Id 1 r]:1+w+1+r=N+1)))) (av (aj _ _) ha) (ai _ _ _) hW hu hv fun vs' o4' o5' h'=>by
   rw[cy]
   exact yl zT z hE ha hW hu hN r (w+1) vs' _ _ _ (by rw[<- hw,Id r 1,<- Ig 1 w 1,Ig]) h'
end
end Mine
namespace Mine
open PySem
theorem Cn{s q Δ:Int}(hs:0<s)(hq:0<q)(h1:s ∣ Δ)(h2:q ∣ Δ):0<(s*q).fdiv ((s.gcd q:Nat):Int)/\s ∣ (s*q).fdiv ((s.gcd q:Nat):Int)/\q ∣ (s*q).fdiv ((s.gcd q:Nat):Int)/\(s*q).fdiv ((s.gcd q:Nat):Int) ∣ Δ:=by
 have hg:0<((s.gcd q:Nat):Int):=IR.mpr (Int.gcd_pos_of_ne_zero_left q (GY hs))
 have e:(s*q).fdiv ((s.gcd q:Nat):Int)=((s.lcm q:Nat):Int):=by
  have h:((s.gcd q:Nat):Int)*((s.lcm q:Nat):Int)=s*q:=by
   rw[<- HQ,Int.gcd_mul_lcm,HQ,Int.natAbs_of_nonneg (Hn hs),Int.natAbs_of_nonneg (Hn hq)]
  rw[<- h,Int.mul_fdiv_cancel_left _ (GY hg)]
 rw[e]
 exact ⟨IR.mpr (Int.lcm_pos (GY hs) (GY hq)),Int.dvd_lcm_left ..,Int.dvd_lcm_right ..,Int.coe_lcm_dvd h1 h2⟩
noncomputable def Sc(L:Int)(E:Nat->Int)(Δ:Int)(vs:List V)(j:Nat)(s:Int):Prop:=(0<s/\s ∣ Δ)/\∀i,i<j->∃p q:Int,vs[i]?=some (pt p q)/\(0<q/\q ∣ s)/\p*(fk i*L^i)=E i*q
theorem xL{p q D n:Int}(hq:0<q)(hg:p.gcd q=1)(hD:0<D)(e:p*D=n*q):q ∣ D:=by
 obtain ⟨g,_,h,_⟩:=xj hg hq hD e
 exact ⟨g,h⟩
theorem CU{L:Int}{N:Nat}:∀ {i:Nat},i<=N->fk i*L^i ∣ fk N*L^N:=by
 induction N with
 |zero=>intro i h;rw[JW.mp h];exact Int.dvd_refl _
 |succ N ih =>
  intro i h
  rcases Jk h with g|g
  ·refine Int.dvd_trans (ih (IB g)) ⟨((N:Int)+1)*L,?_⟩
   rw[fkC,Hr];grind
  ·rw[g];exact Int.dvd_refl _
theorem i8{k:Nat}{s Δ:Int}(h0:0<Δ)(h:s ∣ Δ)(hs:Sm k Δ):Sm k s:=hs.of_le (Nat.le_of_dvd (Jf.mpr (GY h0)) (Iu.mpr h))
section
variable {sub:Nat->Nat->Bool}{P:List Fn}{n:Nat}{H:Hp}{Q:V->Hp->Prop}{X:Nat->Hp->Prop}{W:Nat->Prop}{NN:Loc->Hp->Prop}{R:V->Hp->Prop}{Y:Nat->Hp->Prop}
theorem Ej(zT:TT P){o0 o1 o2 o3 o4 o5 o8 o9:Option V}{L Δ s:Int}{E:Nat->Int}{vs:List V}{k j:Nat}{v:V}(l0:0<L)(d0:0<Δ)(sd:Sm k Δ)(hk:k<=20000)(hdv:fk j*L^j ∣ Δ)(hu:vs[j]?=some v)(hF:Fr (fk j*L^j) (E j) v)(hs:Sc L E Δ vs j s)
  (hN:∀s',Sc L E Δ vs (j+1) s'->NN [o0,o1,o2,o3,o4,o5,some (.int s'),some v,o8,o9] H) :
  wpS sub (ag sub P (n+1)) W (vU 0) [o0,o1,o2,o3,o4,o5,some (.int s),some v,o8,o9] H NN R Y:=by
 obtain ⟨p,q,rfl,⟨q0,hg⟩,hF⟩:=hF
 obtain ⟨⟨h0,h1⟩,h2⟩:=hs
 have hq:q ∣ Δ:=Int.dvd_trans (xL q0 hg (Hb (fN _) (Ho l0)) hF) hdv
 dsimp only[vU,qS1,qS2,qS3,qE1,qE5,qE8,aM,aU,aA,az,dm,bS,aa,af,aH]
 refine ⟨IntMulOk.sm (i8 d0 h1 sd) (i8 d0 hq sd) (by exact owk (by decide) hk) (by exact owk (by decide) hk),?_⟩
 refine fo zT.a0 ?_
 refine ⟨GY (IR.mpr (Int.gcd_pos_of_ne_zero_left q (GY h0))),?_⟩
 refine g7 (Cn h0 q0 h1 hq) fun k1 k2 k3 k4=>?_
 refine hN _ ⟨⟨k1,k4⟩,fun i hi=>?_⟩
 rcases Jk (IB hi) with g|g
 ·refine aF (h2 i g) fun p' q' a1 zq5 a4=>?_;obtain ⟨a2,a3⟩:=zq5
  exact ⟨p',q',a1,⟨a2,Int.dvd_trans a3 k2⟩,a4⟩
 ·subst g;exact ⟨p,q,hu,⟨q0,k3⟩,hF⟩
theorem wC(zT:TT P){o0 o1 o2 o3 o4 o5 o8 o9:Option V}{L:Int}{E:Nat->Int}{vs:List V}{k N:Nat}(l0:0<L)(sd:Sm k (fk N*L^N))(hk:k<=20000)(hv:FrL (fun i=>fk i*L^i) E (N+1) vs)
  (hN:∀s o7,Sc L E (fk N*L^N) vs (N+1) s->NN [o0,o1,o2,o3,o4,o5,some (.int s),o7,o8,o9] H):∀ (rest:List V) (j:Nat) (s:Int) (o7:Option V),rest=vs.drop j->j+rest.length=N+1->Sc L E (fk N*L^N) vs j s ->
  cU (fun ρ2 H2 k=>wpS sub (ag sub P (n+1)) W (vU 0) ρ2 H2 k R Y) 7 rest [o0,o1,o2,o3,o4,o5,some (.int s),o7,o8,o9] H NN
 | [],j,s,o7,_,hj,hs=>hN s o7 (by obtain rfl:j=N+1:=hj;exact hs)
 |v::rest,j,s,o7,hr,hj,hs=>by
  rw[List.length_cons] at hj
  refine ae (hv.2 j (by exact oqz [j,N,rest.length] [] [(.eq (Y0+(Y2+1)) (Y1+1))] (.le (Y0+1) (Y1+1)) [11] rfl hj)) fun u hu hF=>?_
  have hd:vs.drop j=u::vs.drop (j+1):=List.drop_eq_getElem?_toList_append.trans (by rw[hu];rfl)
  rw[hd] at hr
  obtain ⟨hv1,hr2⟩:=List.cons.inj hr
  subst hv1
  exact Ej zT l0 (Hb (fN _) (Ho l0)) sd hk (CU (by exact oqz [j,N,rest.length] [] [(.eq (Y0+(Y2+1)) (Y1+1))] (.le Y0 Y1) [11] rfl hj)) hu hF hs fun s' h' =>
   wC zT l0 sd hk hv hN rest (j+1) s' _ hr2 (by exact oqz [j,rest.length,N] [] [(.eq (Y0+(Y1+1)) (Y2+1))] (.eq (Y0+1+Y1) (Y2+1)) [101,11] rfl hj) h'
noncomputable def RwU(L:Int)(E:Nat->Int)(s:Int)(i:Nat)(u:Int):Prop:=u*(fk i*L^i)=s*sgI i (E i)
theorem Cz(zT:TT P){o0 o1 o3 o4 o7 o9:Option V}{L Δ s:Int}{E:Nat->Int}{vs xs:List V}{m b i k k' N:Nat}(hi:i<N)(N9:N<=101)(l0:0<L)(d0:0<Δ)(sd:Sm k' Δ)(se:Sm k (E i))(hk:k<=20000)(hk':k'<=20000)(hm:H[m]?=some vs)(hb:H[b]?=some xs)(hW:W b)(hx:xs.length<=101)(hs:Sc L E Δ vs N s)
  (hN:∀ (u:Int) o9,RwU L E s i u->Sm (k+k') u->NN [o0,o1,some (.lst m),o3,o4,some (.int i),some (.int s),o7,some (.lst b),o9] (H.set b (xs++[.int u]))) :
  wpS sub (ag sub P (n+2)) W (yI 26) [o0,o1,some (.lst m),o3,o4,some (.int i),some (.int s),o7,some (.lst b),o9] H NN R Y:=by
 obtain ⟨⟨h0,h1⟩,h2⟩:=hs
 refine aF (h2 i hi) fun p q hv zq4 hF=>?_;obtain ⟨q0,c,hc⟩:=zq4
 have D0:0<fk i*L^i:=Hb (fN _) (Ho l0)
 have sc:Sm k' c:=i8 h0 ⟨q,by rw[hc,HS]⟩ (i8 d0 h1 sd)
 have hd:s.fdiv q=c:=by rw[hc,Int.mul_fdiv_cancel_left _ (GY q0)]
 have sp:Sm (k+k') (p*c):=by
  have e2:(p*c)*(fk i*L^i)=E i*s:=by rw[IL,hF,hc,HJ]
  refine (se.mul (i8 d0 h1 sd)).of_le ?_
  rw[<- e2,HU (p*c)]
  exact HN _ (Jf.mpr (GY D0))
 have sp':Sm (k+k') p\/c=0:=by
  by_cases h:c=0
  ·exact .inr h
  ·exact .inl (sp.of_le (by rw[HU];exact HN _ (Jf.mpr h)))
 have c0:c≠0:=fun h=>by rw[h,Hh] at hc;exact GY h0 hc
 have spp:=sp'.resolve_right c0
 dsimp only[yI,qS1,qS2,qS3,qS6,qE1,qE5,qE8,aM,aU,aA,az,cu,aa,bO,af,aH]
 refine jS hm (k:=(i:Int)) (HW i) hv ?_
 refine BU zT (j:=i) rfl ?_
 dsimp only[dm,nU,bu,bS]
 rw[hd]
 refine ⟨hW,GY q0,IntMulOk.sm (Sm.sgI spp) sc (by exact oqz [k,k'] [] [(.le Y0 20000),(.le Y1 20000)] (.le (Y0+Y1) 67108864) [111] rfl hk hk') (by exact owk (by decide) hk'),?_⟩
 refine ifSome.mk hb ⟨by unfold lim;exact oqz [xs.length] [] [(.le Y0 101)] (.le (Y0+1) 1000000) [11] rfl hx,hN _ _ ?_ (by rw[iW];exact sp.sgI)⟩
 unfold RwU
 rw[AX,IL,Bw hF,HJ,iW,<- hc,HS]
noncomputable def RwL(L:Int)(E:Nat->Int)(s:Int)(k N j:Nat)(xs:List Int):Prop:=xs.length+j=N+1/\AllSm k xs/\∀i,i<=N->j<=i->∃u,xs[N-i]?=some u/\RwU L E s i u
theorem yJ(zT:TT P){o0 o1 o3 o4 o7:Option V}{L s:Int}{E:Nat->Int}{vs:List V}{K:Hp}{m k k' N:Nat}(N9:N<=100)(l0:0<L)(sd:Sm k' (fk N*L^N))(se:∀i,i<=N->Sm k (E i))(hk:k<=20000)(hk':k'<=20000)(hm:K[m]?=some vs)(hW:W K.length)(hs:Sc L E (fk N*L^N) vs (N+1) s)
  (hN:∀ (xs:List Int) o5 o9,RwL L E s (k+k') N 0 xs->NN [o0,o1,some (.lst m),o3,o4,o5,some (.int s),o7,some (.lst K.length),o9] (K++[xs.map .int])):∀ (j:Nat) (xs:List Int) (o5 o9:Option V),RwL L E s (k+k') N j xs ->
  cU (fun ρ2 H2 k=>wpS sub (ag sub P (n+2)) W (yI 26) ρ2 H2 k R Y) 5 ((List.range j).reverse.map fun (i:Nat)=>V.int (i:Int)) [o0,o1,some (.lst m),o3,o4,o5,some (.int s),o7,some (.lst K.length),o9] (K++[xs.map .int]) NN
 |0,xs,o5,o9,h=>hN xs o5 o9 h
 |j+1,xs,o5,o9,⟨h1,h2,h3⟩=>by
  rw[List.range_succ,JY,List.reverse_singleton,List.singleton_append,G1]
  refine Cz zT (i:=j) (N:=N+1) (by exact oqz [j,N,xs.length] [] [(.eq (Y2+(Y0+1)) (Y1+1))] (.le (Y0+1) (Y1+1)) [11] rfl h1) (by exact oqz [N] [] [(.le Y0 100)] (.le (Y0+1) 101) [11] rfl N9) l0 (Hb (fN _) (Ho l0)) sd (se j (by exact oqz [j,N,xs.length] [] [(.eq (Y2+(Y0+1)) (Y1+1))] (.le Y0 Y1) [11] rfl h1)) hk hk' (av (aj _ _) hm) (ai _ _ _) hW (by rw[GO];exact oqz [xs.length,N,j] [] [(.le Y1 100),(.eq (Y0+(Y2+1)) (Y1+1))] (.le Y0 101) [111] rfl N9 h1) hs fun u o9' hu su=>?_
  rw[cy,show xs.map V.int++[V.int u]=(xs++[u]).map V.int by rw[G9];rfl]
  refine yJ zT N9 l0 sd se hk hk' hm hW hs hN j (xs++[u]) _ _ ⟨by rw[GR,G8];exact oqz [xs.length,j,N] [] [(.eq (Y0+(Y1+1)) (Y2+1))] (.eq (Y0+1+Y1) (Y2+1)) [101,11] rfl h1,fun x hx=>?_,fun i hi hj=>?_⟩
  ·rcases Hy.mp hx with g|g
   ·exact h2 x g
   ·rw[He.mp g];exact su
  ·rcases Jk hj with g|g
   ·refine ae (h3 i hi g) fun v hv hu'=>?_
    exact ⟨v,av (aj _ _) hv,hu'⟩
   ·subst g
    refine ⟨u,?_,hu⟩
    rw[show N-j=xs.length by exact oqz [N-j,N,j,xs.length] [] [(.eq (Y3+(Y2+1)) (Y1+1)),(osb Y1 Y2 Y0)] (.eq Y0 Y3) [10011,1011,100101,10001] rfl h1 (am (N) (j))];exact ai _ _ _
theorem vM(zT:TT P){L:Int}{S E:Nat->Int}{k ke kd N a:Nat}{us:List V}(z:SzE L S E k N)(sE:∀i,i<=N->Sm ke (E i))(sD:Sm kd (fk N*L^N))(he:ke<=20000)(hd:kd<=20000)(hE:NwE S E)(ha:H[a]?=some us)(hu:FrL (fun i=>L^i) S (N+1) us)
  (hQ:∀ (s:Int) (xs:List Int) H',H<+:H'->0<s->RwL L E s (ke+kd) N 0 xs->ag sub P (n+5) 14 [.lst H'.length] (H'++[xs.map .int]) Q fun _ _=>False):ag sub P (n+6) 27 [.lst a] H Q X:=by
 have N9:=z.N9
 refine ao zT.a27 rfl ?_
 dsimp only[bRo]
 generalize hT:D7 0 26 14=T
 generalize hB:yb 3 4 26=B
 dsimp only[qS2,qS3,dp,qE1,qE5,qE7,qE8,b6,fY,aA,az,qI3,cO,e6,cJ,aD,aB,ay,ax,aO,aC,aq,aa,af,aH,Nat.reduceSub]
 refine ifSome.mk ha ?_
 rw[hu.1,show ((N+1:Nat):Int)-1=(N:Int) by exact oqz [N] [] [] (.ie (.s (.c (Y0+1)) 1) (.c Y0)) [1] rfl]
 have v0:FrL (fun i=>fk i*L^i) E (1+0) [pt 1 1]:=⟨rfl,fun i hi=>by
  obtain rfl:i=0:=oqz [i] [] [(.le (Y0+1) 1)] (.eq Y0 0) [11] rfl hi
  refine ⟨_,rfl,1,1,rfl,⟨by decide,by decide⟩,?_⟩
  rw[hE.e0];show 1*(1*L^0)=1*1;rw[HH];rfl⟩
 refine uE (aK (by decide) (by decide)) (aK (by exact oqz [N] [] [] (.il (.g 1000000) (.a (.c Y0) 1)) [1] rfl) (by exact oqz [N] [] [(.le Y0 100)] (.il (.a (.c Y0) 1) 1000000) [11] rfl N9)) ?_
 rw[show ((N:Int)+1-1).toNat=N by exact oqz [((↑N:Int)+1-1).toNat,N] [] [(otn (.s (.a (.c Y1) 1) 1) Y0)] (.eq Y0 Y1) [1001,11,101] rfl (aQ ((↑N:Int)+1-1))]
 subst hB
 refine yl zT (n:=n+2) (K:=H) (W:=fun m=>H.length<=m/\some m≠none) z hE ha ⟨GU _,nofun⟩ hu (fun vs o3 o4 o5 hv=>?_) N 0 _ _ _ _ (Id 1 N) v0
 subst hT
 dsimp only[D7]
 generalize hT:Dh 26 14=T
 generalize hB:vU 0=B
 dsimp only[qS2,qS3,dp,qE1,qE5,qI1,dc,jx,aa,af,aH]
 refine ifSome.mk (ai _ _ _) ?_
 subst hB
 refine wC zT (n:=n+4) z.l0 (z.sd N (GU _)) z.k9 hv (fun s o7 hs=>?_) vs 0 1 _ rfl (by rw[hv.1,Ie]) ⟨⟨by decide,Int.one_dvd _⟩,fun i hi=>nomatch hi⟩
 subst hT
 dsimp only[Dh]
 generalize hB:yI 26=B
 dsimp only[qS1,qS2,qS3,qS9,dp,qE1,qE5,qE9,aM,fY,aA,az,qI3,aa,af,aH]
 subst hB
 rw[show (N:Int)=((N+1:Nat):Int)-1 by exact oqz [N] [] [] (.ie (.c Y0) (.s (.c (Y0+1)) 1)) [1] rfl]
 refine Fw (by exact oqz [N] [] [(.le Y0 100)] (.le (Y0+1) 900) [11] rfl N9) ?_
 refine yJ zT (n:=n+3) (K:=H++[vs]) (W:=fun m=>H.length<=m/\some m≠none) N9 z.l0 sD sE he hd (ai _ _ _) ⟨(aj _ _).length_le,nofun⟩ hs (fun xs o5 o9 hx=>?_) (N+1) [] _ _ ⟨Ie _,.nil,fun i h1 h2=>absurd h1 (by exact oqz [i,N] [] [(.le (Y1+1) Y0)] (.no (.le Y0 Y1)) [11] rfl h2)⟩
 dsimp only[aa,af]
 exact hQ s xs _ (aj _ _) hs.1.1 hx
end
end Mine
namespace Mine
open PySem
noncomputable def tS(l1 l2:Int)(P1 P2:Nat->Int)(w:Nat):Nat->Int
 |0=>0
 |j+1=>tS l1 l2 P1 P2 w j+bnm w j*(P1 j*P2 (w-j))*(l1^(w-j)*l2^j)
theorem tSC(l1 l2:Int)(P1 P2:Nat->Int)(w j:Nat):tS l1 l2 P1 P2 w (j+1)=tS l1 l2 P1 P2 w j+bnm w j*(P1 j*P2 (w-j))*(l1^(w-j)*l2^j):=rfl
structure SzS (l1 l2:Int)(P1 P2:Nat->Int)(k N:Nat):Prop where
 a0:0<l1
 b0:0<l2
 N9:N<=100
 k9:k<=20000
 k8:8<=k
 s1:∀w,w<=N->Sm k (l1^w)/\Sm k (P1 w)
 s2:∀w,w<=N->Sm k (l2^w)/\Sm k (P2 w)
 sb:∀w j,w<=N->j<=w->Sm k (bnm w j)/\Sm k (P1 j*P2 (w-j))/\Sm k (l1^j*l2^(w-j))
 sl:∀w,w<=N->Sm k ((l1*l2)^w)
 st:∀w j,w<=N->j<=w->Sm k (tS l1 l2 P1 P2 w j)
 su:∀w j,w<=N->j<=w->Sm k (bnm w j*(P1 j*P2 (w-j))*(l1^(w-j)*l2^j))
noncomputable def oP(m:Nat):List Int:=(List.range' 0 (m+1)).map (bnm m)
theorem pP:∀m,bnm m m=1
 |0=>rfl
 |m+1=>by rw[kM,pP m,eE (Ia m)];rfl
theorem wQ(m:Nat):[1]++(List.range' 0 m).map (fun i=>bnm m i+bnm m (i+1))++[1]=oP (m+1):=by
 have h:(List.range' 0 (m+1)).map (fun i=>bnm m i+bnm m (i+1))=(List.range' 0 m).map (fun i=>bnm m i+bnm m (i+1))++[1]:=by
  rw[List.range'_concat,G9,Ie,Nat.one_mul,List.map_singleton,pP,eE (Ia m)];rfl
 unfold oP
 rw[JT,G1,jV,G0,<- h]
 show _=1::(List.range' (0+1) (m+1)).map (bnm (m+1))
 rw[List.range'_eq_map_range,List.range'_eq_map_range,Hw,Hw]
 show 1::_=1::_
 congr 1
 refine ID fun i _=>?_
 show bnm m (0+i)+bnm m (0+i+1)=bnm (m+1) (0+1+i)
 rw[Ie,Ie,Id 1 i,kM]
theorem kH{m k:Nat}(h:k<=m):((oP m).map V.int)[k]?=some (.int (bnm m k)):=by
 unfold oP;rw[Hw,Hj,List.getElem?_range' (by exact oqz [k,m] [] [(.le Y0 Y1)] (.le (Y0+1) (Y1+1)) [11] rfl h)];simp
theorem mT{j r N:Nat}(h:j+(r+1)=N+1):j<=N:=oqz [j,N,r] [] [(.eq (Y0+(Y2+1)) (Y1+1))] (.le Y0 Y1) [11] rfl h
theorem De{H H':Hp}{s:Nat}{xs:List V}(h:H<+:H')(hs:H.length<=s):H<+:H'.set s xs:=by
 obtain ⟨K,rfl⟩:=h
 rw[JO _ _ hs];exact aj _ _
section
variable {sub:Nat->Nat->Bool}{P:List Fn}{n:Nat}{H:Hp}{Q:V->Hp->Prop}{W:Nat->Prop}{NN:Loc->Hp->Prop}{R:V->Hp->Prop}{Y:Nat->Hp->Prop}{l1 l2:Int}{P1 P2:Nat->Int}{k N:Nat}
structure AdH (l1 l2:Int)(P1 P2:Nat->Int)(N:Nat)(H:Hp)(i j c m:Nat):Prop where
 l:∃ls,H[i]?=some ls/\FrL (fun i=>l1^i) P1 (N+1) ls
 r:∃rs,H[j]?=some rs/\FrL (fun i=>l2^i) P2 (N+1) rs
 c:H[c]?=some ((oP m).map V.int)
theorem Cs(zT:TT P){o0 o1 o2 o5 o10:Option V}{i j c m d:Nat}{t:V}(z:SzS l1 l2 P1 P2 k N)(hm:m<=N)(hd:d<=m)(h:AdH l1 l2 P1 P2 N H i j c m)(ht:Fr ((l1*l2)^m) (tS l1 l2 P1 P2 m d) t)
  (hN:∀t o10,Fr ((l1*l2)^m) (tS l1 l2 P1 P2 m (d+1)) t->NN [o0,o1,o2,some (.lst i),some (.lst j),o5,some (.lst c),some (.int m),some t,some (.int d),o10] H) :
  wpS sub (ag sub P (n+3)) W (qf 3 4) [o0,o1,o2,some (.lst i),some (.lst j),o5,some (.lst c),some (.int m),some t,some (.int d),o10] H NN R Y:=by
 refine ae (h.l) fun ls hl pl=>?_
 refine ae (h.r) fun rs hr pr'=>?_
 refine ae (pl.2 d (by exact oqz [d,N,m] [] [(.le Y2 Y1),(.le Y0 Y2)] (.le (Y0+1) (Y1+1)) [111] rfl hm hd)) fun u hu1 hu2=>?_
 refine ae (pr'.2 (m-d) (by exact oqz [m-d,m,d,N] [] [(.le Y1 Y3),(.an (.le Y1 (Y0+Y2)) (.le Y0 Y1))] (.le (Y0+1) (Y3+1)) [1011] rfl hm (aV (m) (d)))) fun v hv1 hv2=>?_
 have k9:k+k+1<=100000:=by have:=z.k9;exact oqz [k] [] [(.le Y0 20000)] (.le (Y0+Y0+1) 100000) [21] rfl this
 have s1:Sm k 1:=Sm.mono (k:=1) (by unfold Sm;decide) (GP (by decide) z.k8)
 refine lc (z.sb m d hm hd) fun b1 b2 b3=>?_
 have p1:0<l1^d:=Ho z.a0
 have p2:0<l2^(m-d):=Ho z.b0
 rw[tSC] at hN
 dsimp only[qf,qS1,qS2,qS3,qE1,qE5,qE8,aM,aU,dN,aA,az,e6,cu,aa,af,aH]
 refine jS hl (k:=(d:Int)) (HW d) hu1 ?_
 refine jS hr (k:=(m:Int)-(d:Int)) (by exact oqz [m,d] [] [(.le Y1 Y0)] (.il 0 (.s (.c Y0) (.c Y1))) [11] rfl hd) (by rw[show ((m:Int)-(d:Int)).toNat=m-d by exact oqz [((↑m:Int)-(↑d:Int)).toNat,m,d,m-d] [] [(otn (.s (.c Y1) (.c Y2)) Y0),(osb Y1 Y2 Y3)] (.eq Y0 Y3) [1001001,100001,1000011,100101,10101,101] rfl (aQ ((↑m:Int)-(↑d:Int))) (am (m) (d))];exact hv1) ?_
 refine lX zT hu2 hv2 p1 p2 (z.s1 d (by exact oqz [d,N,m] [] [(.le Y2 Y1),(.le Y0 Y2)] (.le Y0 Y1) [111] rfl hm hd)).1 (z.s2 _ (by exact oqz [m-d,m,d,N] [] [(.le Y1 Y3),(.an (.le Y1 (Y0+Y2)) (.le Y0 Y1))] (.le Y0 Y3) [1011] rfl hm (aV (m) (d)))).1 (z.s1 d (by exact oqz [d,N,m] [] [(.le Y2 Y1),(.le Y0 Y2)] (.le Y0 Y1) [111] rfl hm hd)).2 (z.s2 _ (by exact oqz [m-d,m,d,N] [] [(.le Y1 Y3),(.an (.le Y1 (Y0+Y2)) (.le Y0 Y1))] (.le Y0 Y3) [1011] rfl hm (aV (m) (d)))).2 k9 fun t1 h1=>?_
 refine jS h.c (k:=(d:Int)) (HW d) (kH hd) ?_
 refine lX zT (Fr.whole (bnm m d)) h1 (by decide) (Hb p1 p2) s1 b3 b1 b2 k9 fun t2 h2=>?_
 have h3:=h2.scale (l1^(m-d)*l2^d)
 have eD:1*(l1^d*l2^(m-d))*(l1^(m-d)*l2^d)=(l1*l2)^m:=by
  have e1:l1^m=l1^d*l1^(m-d):=by rw[<- IZ,Nat.add_sub_cancel' hd]
  have e2:l2^m=l2^(m-d)*l2^d:=by rw[<- IZ,JE hd]
  rw[Int.mul_pow,e1,e2];grind
 rw[eD] at h3
 exact sU zT ht h3 (Ho (Hb z.a0 z.b0)) (z.sl m hm) (z.st m d hm hd) (z.su m d hm hd) k9 fun u hu=>hN u _ hu
theorem A8(zT:TT P){o0 o1 o2 o5:Option V}{i j c m:Nat}(z:SzS l1 l2 P1 P2 k N)(hm:m<=N)(h:AdH l1 l2 P1 P2 N H i j c m)
  (hN:∀t o9 o10,Fr ((l1*l2)^m) (tS l1 l2 P1 P2 m (m+1)) t->NN [o0,o1,o2,some (.lst i),some (.lst j),o5,some (.lst c),some (.int m),some t,o9,o10] H):∀ (r d:Nat) (t:V) (o9 o10:Option V),d+r=m+1->Fr ((l1*l2)^m) (tS l1 l2 P1 P2 m d) t ->
  cU (fun ρ2 H2 k=>wpS sub (ag sub P (n+3)) W (qf 3 4) ρ2 H2 k R Y) 9 ((List.range' d r).map fun (i:Nat)=>V.int (i:Int)) [o0,o1,o2,some (.lst i),some (.lst j),o5,some (.lst c),some (.int m),some t,o9,o10] H NN
 |0,d,t,o9,o10,hd,ht=>hN t o9 o10 (by obtain rfl:d=m+1:=hd;exact ht)
 |r+1,d,t,o9,o10,hd,ht=>Cs zT z hm (mT hd) h ht fun t' o10' h' =>
   A8 zT z hm h hN r (d+1) t' _ _ (by rw[<- hd,JH,Ig]) h'
theorem Av(zT:TT P){o0 o1 o2 o8 o9 o10:Option V}{ss:List V}{i j c s m:Nat}(z:SzS l1 l2 P1 P2 k N)(hm:m<=N)(h:AdH l1 l2 P1 P2 N H i j c m)(hs:H[s]?=some ss)(hsi:s≠i)(hsj:s≠j)(hsc:s≠c)(hW:W s)(ps':FrL (fun i=>(l1*l2)^i) (fun i=>tS l1 l2 P1 P2 i (i+1)) m ss)
  (hN:∀ss' c' H' o8 o9 o10,FrL (fun i=>(l1*l2)^i) (fun i=>tS l1 l2 P1 P2 i (i+1)) (m+1) ss'->H.set s ss'<+:H'->H'[s]?=some ss'->s≠c'->AdH l1 l2 P1 P2 N H' i j c' (m+1)->NN [o0,o1,o2,some (.lst i),some (.lst j),some (.lst s),some (.lst c'),some (.int m),o8,o9,o10] H') :
  wpS sub (ag sub P (n+3)) W (pj 3 4) [o0,o1,o2,some (.lst i),some (.lst j),some (.lst s),some (.lst c),some (.int m),o8,o9,o10] H NN R Y:=by
 have N9:=z.N9
 have nought:Fr ((l1*l2)^m) (tS l1 l2 P1 P2 m 0) (pt 0 1):=((Fr.whole 0).scale ((l1*l2)^m)).eq (Hs _) (HO _)
 dsimp only[pj]
 generalize hT:yN=T
 generalize hB:qf 3 4=B
 dsimp only[qS2,qS3,dp,qE1,qE5,qE7,qE8,aA,az,qI3,cO,aa,af,aH]
 subst hB
 refine iC (aK (by exact oqz [m] [] [] (.il (.g 1000000) (.a (.c Y0) 1)) [1] rfl) (by exact oqz [m,N] [] [(.le Y0 Y1),(.le Y1 100)] (.il (.a (.c Y0) 1) 1000000) [111] rfl hm N9)) ?_
 rw[show ((m:Int)+1).toNat=m+1 by exact oqz [((↑m:Int)+1).toNat,m] [] [(otn (.a (.c Y1) 1) Y0)] (.eq Y0 (Y1+1)) [1001,10,101] rfl (aQ ((↑m:Int)+1))]
 refine A8 zT z hm h (fun t o9 o10 ht=>?_) (m+1) 0 _ _ _ (Ie _) nought
 have sl:=(GX.mp hs).1
 have ps2:=ps'.snoc ht
 refine ae (h.l) fun ls hl pl=>?_
 refine ae (h.r) fun rs hr pr'=>?_
 subst hT
 dsimp only[yN,qS1,qS2,qS3,qS6,qE1,qE5,qE8,fY,f9,aA,az,qO1,qI3,Cd,cg,ay,ax,aX,aa,bO,af,aH]
 refine ⟨hW,ifSome.mk hs ⟨by rw[ps'.1];unfold lim;clear hN;exact oqz [m,N] [] [(.le Y0 Y1),(.le Y1 100)] (.le (Y0+1) 1000000) [111] rfl hm N9,?_⟩⟩
 have g1:(H.set s (ss++[t]))[s]?=some (ss++[t]):=List.getElem?_set_self sl
 have g2:(H.set s (ss++[t]))[i]?=some ls:=by rw[Ju hsi];exact hl
 have g3:(H.set s (ss++[t]))[j]?=some rs:=by rw[Ju hsj];exact hr
 have g4:(H.set s (ss++[t]))[c]?=some ((oP m).map V.int):=by rw[Ju hsc];exact h.c
 have sl':=(GX.mp g1).1
 have hN':=hN (ss++[t])
 generalize hH1:H.set s (ss++[t])=H1 at *
 clear hN h hs hl hr
 refine iC (aK (by exact oqz [m] [] [] (.il (.g 1000000) (.c Y0)) [1] rfl) (by exact oqz [m,N] [] [(.le Y0 Y1),(.le Y1 100)] (.il (.c Y0) 1000000) [111] rfl hm N9)) ?_
 rw[show ((m:Nat):Int).toNat=m from rfl]
 refine ⟨by rw[GO,H9];unfold lim;exact oqz [m,N] [] [(.le Y0 Y1),(.le Y1 100)] (.le Y0 1000000) [111] rfl hm N9,?_⟩
 refine eP (g:=fun i=>V.int (bnm m i+bnm m (i+1))) (fun k hk Z hZ=>?_) ?_
 ·dsimp only[Fz,qE1,qE5,qE8,aU,cO,aa,af]
  refine jS (av (aj _ _) g4) (k:=(k:Int)) (by exact oqz [k] [] [] (.il 0 (.c Y0)) [1] rfl) (kH (by exact oqz [(↑k:Int).toNat,k,m] [] [(.le (Y1+1) (0+Y2)),(otn (.c Y1) Y0)] (.le Y0 Y2) [1011] rfl hk (aQ ((↑k:Int))))) ?_
  refine jS (av (aj _ _) g4) (k:=(k:Int)+1) (by exact oqz [k] [] [] (.il 0 (.a (.c Y0) 1)) [1] rfl) (by rw[show ((k:Int)+1).toNat=k+1 by exact oqz [((↑k:Int)+1).toNat,k] [] [(otn (.a (.c Y1) 1) Y0)] (.eq Y0 (Y1+1)) [1001,10,101] rfl (aQ ((↑k:Int)+1))];exact kH (by exact oqz [k,m] [] [(.le (Y0+1) (0+Y1))] (.le (Y0+1) Y1) [11] rfl hk)) ?_
  exact hZ
 ·refine ifSome.mk (v:=[V.int 1]) (av (aj _ _) (ai _ _ _)) (ifSome.mk (ai _ _ _) ⟨by rw[GO,H9];unfold lim;show 1+m<=_;exact oqz [m,N] [] [(.le Y0 Y1),(.le Y1 100)] (.le (1+Y0) 1000000) [111] rfl hm N9,?_⟩)
  refine ifSome.mk (av (aj _ _) (ai _ _ _)) (ifSome.mk (ai _ _ _) ⟨by rw[GR,GO,H9];unfold lim;show 1+m+1<=_;exact oqz [m,N] [] [(.le Y0 Y1),(.le Y1 100)] (.le (1+Y0+1) 1000000) [111] rfl hm N9,?_⟩)
  have pn:[V.int 1]++(List.range' 0 m).map (fun i=>V.int (bnm m i+bnm m (i+1)))++[V.int 1]=(oP (m+1)).map V.int:=by
   rw[<- wQ m,G9,G9,Hw];rfl
  rw[pn]
  generalize hK:H1++[[V.int 1]]++[(List.range' 0 m).map fun i=>V.int (bnm m i+bnm m (i+1))]++[[V.int 1]++(List.range' 0 m).map fun i=>V.int (bnm m i+bnm m (i+1))]++[[V.int 1]]=H2
  have hpre:H1<+:H2:=by rw[<- hK];exact ah (aj _ _) (ah (aj _ _) (ah (aj _ _) (aj _ _)))
  have hle:=List.IsPrefix.length_le hpre
  have hp3:H1<+:H2++[(oP (m+1)).map V.int]:=ah hpre (aj _ _)
  exact hN' _ _ _ _ _ ps2 hp3 (av hp3 g1) (by exact oqz [s,H2.length,H1.length] [] [(.le (Y0+1) Y2),(.le Y2 Y1)] (.no (.eq Y0 Y1)) [1110] rfl sl' hle) ⟨⟨ls,av hp3 g2,pl⟩,⟨rs,av hp3 g3,pr'⟩,ai _ _ _⟩
theorem sK(zT:TT P){H0:Hp}{o0 o1 o2:Option V}{i j s:Nat}(z:SzS l1 l2 P1 P2 k N)(hsi:s≠i)(hsj:s≠j)(hW:W s)(h0:H0.length<=s)
  (hN:∀ss H' o6 o7 o8 o9 o10,FrL (fun i=>(l1*l2)^i) (fun i=>tS l1 l2 P1 P2 i (i+1)) (N+1) ss->H0<+:H'->H'[s]?=some ss->NN [o0,o1,o2,some (.lst i),some (.lst j),some (.lst s),o6,o7,o8,o9,o10] H'):∀ (r m:Nat) (ss:List V) (c:Nat) (H:Hp) (o7 o8 o9 o10:Option V),m+r=N+1->H0<+:H->H[s]?=some ss->s≠c->FrL (fun i=>(l1*l2)^i) (fun i=>tS l1 l2 P1 P2 i (i+1)) m ss->AdH l1 l2 P1 P2 N H i j c m ->
  cU (fun ρ2 H2 k=>wpS sub (ag sub P (n+3)) W (pj 3 4) ρ2 H2 k R Y) 7 ((List.range' m r).map fun (i:Nat)=>V.int (i:Int)) [o0,o1,o2,some (.lst i),some (.lst j),some (.lst s),some (.lst c),o7,o8,o9,o10] H NN
 |0,m,ss,c,H,o7,o8,o9,o10,hm,hp,hs,_,ps',_=>hN ss H _ o7 o8 o9 o10 (by obtain rfl:m=N+1:=hm;exact ps') hp hs
 |r+1,m,ss,c,H,o7,o8,o9,o10,hm,hp,hs,hsc,ps',h =>
  Av zT z (mT hm) h hs hsi hsj hsc hW ps' fun ss' c' H' o8 o9 o10 k1 k2 k3 k4 k5 =>
   sK zT z hsi hsj hW h0 hN r (m+1) ss' c' H' _ _ _ _ (by rw[<- hm,JH,Ig]) (ah (De hp h0) k2) k3 k4 k1 k5
theorem Ey(zT:TT P){ls rs':List V}{l m j:Nat}(z:SzS l1 l2 P1 P2 k N)(hls:H[l]?=some ls)(hrs:H[m]?=some rs')(hl:FrL (fun i=>l1^i) P1 (N+1) ls)(hr:FrL (fun i=>l2^i) P2 (N+1) rs')(hj:j<=N)
  (hQ:∀u,Fr ((l1*l2)^j) (P1 j*P2 j) u->Q u H):wpE sub (ag sub P (n+3)) (yz 4) [some (.int j),some (V.lst l),some (V.lst m)] H Q:=by
 refine ae (hl.2 j (Nat.lt_succ_of_le hj)) fun u hu1 hu2=>?_
 refine ae (hr.2 j (Nat.lt_succ_of_le hj)) fun v hv1 hv2=>?_
 have k9:k+k+1<=100000:=by have:=z.k9;exact oqz [k] [] [(.le Y0 20000)] (.le (Y0+Y0+1) 100000) [21] rfl this
 dsimp only[yz,qE5,aM,aU,aA,az,cu,aa,af]
 refine jS hls (k:=(j:Int)) (HW j) hu1 ?_
 refine jS hrs (k:=(j:Int)) (HW j) hv1 ?_
 exact lX zT hu2 hv2 (Ho z.a0) (Ho z.b0) (z.s1 j hj).1 (z.s2 j hj).1 (z.s1 j hj).2 (z.s2 j hj).2 k9 fun u hu=>hQ u (hu.eq (Int.mul_pow ..).symm rfl)
theorem Bd(zT:TT P){ls rs':List V}{l m:Nat}(z:SzS l1 l2 P1 P2 k N)(hls:H[l]?=some ls)(hrs:H[m]?=some rs')(hl:FrL (fun i=>l1^i) P1 (N+1) ls)(hr:FrL (fun i=>l2^i) P2 (N+1) rs') :
  ∀ (r j:Nat) (acc:List V) (Q:List V->Hp->Prop),j+r=N+1->FrL (fun i=>(l1*l2)^i) (fun i=>P1 i*P2 i) j acc->(∀ys,FrL (fun i=>(l1*l2)^i) (fun i=>P1 i*P2 i) (N+1) (acc++ys)->Q ys H) ->
   cZ (fun x H2 k=>wpE sub (ag sub P (n+3)) (yz 4) [some x,some (V.lst l),some (V.lst m)] H2 fun y H4=>k (some y) H4) (List.map (fun i:Nat=>V.int (i:Int)) (List.range' j r)) H Q
 |0,j,acc,Q,hj,ha,hq=>hq [] (by obtain rfl:j=N+1:=hj;rw[List.append_nil];exact ha)
 |r+1,j,acc,Q,hj,ha,hq=>Ey zT z hls hrs hl hr (mT hj) fun u hu =>
   Bd zT z hls hrs hl hr r (j+1) (acc++[u]) _ (by rw[<- hj,JH,Ig]) (ha.snoc hu) fun ys hys=>hq _ (by rw[G0] at hys;exact hys)
end
end Mine
namespace Mine
open PySem Re
noncomputable def SgP(row:List Int)(lo hi al:Re)(σ:Int):Prop:=∀ (x:Re) (p q:Int),0<q->(q:Re)*x=p->lo<=x->x<=hi->rsg (evR row x)=σ*rsg (x-al)
structure PG (row:List Int)(N:Int)(al lo hi:Re)(p1 q1 p2 q2:Int)(j:Nat):Prop where
 sg:∃σ,(σ=1\/σ=-1)/\SgP row lo hi al σ
 l:lo<al
 u:al<hi
 rt:evR row al=0
 ne:row≠[]
 ln:row.length<=13
 sm:AllSm 1000 row
 n0:0<N
 n1:Sm 600 N
 a1:Pt (N*8^j) lo p1 q1
 a2:Pt (N*8^j) hi p2 q2
 wd:((2^j:Int):Re)*(hi-lo)<=((2^450:Int):Re)
 b1:-((2^200:Int):Re)<=lo
 b2:hi<=((2^200:Int):Re)
section
variable {row:List Int}{N:Int}{al lo hi:Re}{p1 q1 p2 q2:Int}{j:Nat}
theorem PG.dpos(d:PG row N al lo hi p1 q1 p2 q2 j):0<N*8^j:=Hb d.n0 (cG (by decide) j)
theorem PG.big(d:PG row N al lo hi p1 q1 p2 q2 j)(hj:j<=182700):Sm 732000 (8*(N*8^j)*2^200):=by
 have h8:Sm 4 (8:Int):=by unfold Sm;decide
 have hB:Sm 201 ((2:Int)^200):=by unfold Sm;decide
 exact ((h8.mul (d.n1.mul (h8.pow j))).mul hB).mono (by exact oqz [j] [] [(.le Y0 182700)] (.le (.a (.a 4 (.a 600 (.a (.m 4 Y0) 1))) 201) 732000) [41] rfl hj)
theorem PG.lh(d:PG row N al lo hi p1 q1 p2 q2 j):lo<hi:=fj d.l d.u
theorem PG.low1(d:PG row N al lo hi p1 q1 p2 q2 j)(hj:j<=182700):Low 732000 p1 q1:=
 (d.a1.scale 8).low (B:=2^200) (Hb (by decide) d.dpos) (by decide) d.b1 (bU (bM d.lh) d.b2) (d.big hj)
theorem PG.low2(d:PG row N al lo hi p1 q1 p2 q2 j)(hj:j<=182700):Low 732000 p2 q2:=
 (d.a2.scale 8).low (B:=2^200) (Hb (by decide) d.dpos) (by decide) (bU d.b1 (bM d.lh)) d.b2 (d.big hj)
theorem nl{z w w' C:Re}(hz:0<=z)(h6:z*w<=C)(h5:2*w'<=w):z*2*w'<=C:=by
 have:=ac hz (show 0<=w-2*w' by grind)
 grind
theorem PG.step(d:PG row N al lo hi p1 q1 p2 q2 j){lo' hi':Re}{x1 y1 x2 y2:Int}(o:jM (N*8^j) al lo hi lo' hi' x1 y1 x2 y2):PG row N al lo' hi' x1 y1 x2 y2 (j+1):=by
 have e:N*8^(j+1)=8*(N*8^j):=by rw[Hr,<- HJ,HS]
 obtain ⟨σ,hσ,sg⟩:=d.sg
 refine ⟨⟨σ,hσ,fun x p q hq hx h1 h2=>sg x p q hq hx (bU o.l1 h1) (bU h2 o.u2)⟩,o.l2,o.u1,d.rt,d.ne,d.ln,d.sm,d.n0,d.n1,by rw[e];exact o.a1,by rw[e];exact o.a2,?_,bU d.b1 o.l1,bU o.u2 d.b2⟩
 rw[Hr,au]
 exact nl (G4 (bD (cG (by decide) j))) d.wd o.wd
end
structure NB (row:List Int)(al lo hi:Re)(p1 q1 p2 q2:Int)(L:Nat):Prop where
 sg:∃σ,(σ=1\/σ=-1)/\SgP row lo hi al σ
 l:lo<al
 u:al<hi
 ne:row≠[]
 ln:row.length<=13
 sm:AllSm 1172 row
 l1:Low L p1 q1
 l2:Low L p2 q2
 v1:(q1:Re)*lo=p1
 v2:(q2:Re)*hi=p2
 hL:L<=3000000
theorem zN{row:List Int}{al lo hi:Re}{p1 q1 p2 q2:Int}{L:Nat}{m:Re}{m1 m2:Int}(d:NB row al lo hi p1 q1 p2 q2 L)(hm:0<m2)(em:(m2:Re)*m=m1)(h1:lo<m)(h2:m<hi):(rsg (evR row m)=0 ↔ m=al)/\(rsg (evR row m)=rsg (evR row lo) ↔ m<al):=by
 obtain ⟨σ,hσ,e⟩:=d.sg
 have e1:=e m m1 m2 hm em (bM h1) (bM h2)
 have e2:=e lo p1 q1 d.l1.pos d.v1 (Ha _) (bM (fj d.l d.u))
 rw[bh (Ay d.l)] at e2
 constructor
 ·rw[e1]
  constructor
  ·intro h0
   have:rsg (m-al)=0:=by rcases hσ with rfl|rfl <;> omega
   exact Gi (rsg_is0.mp this)
  ·intro h0
   rw[rsg_is0.mpr (Gp h0),Hh]
 ·rw[e1,e2]
  constructor
  ·intro h0
   have:rsg (m-al)=-1:=by rcases hσ with rfl|rfl <;> omega
   exact Gy (rsg_is.mp this)
  ·intro h0
   rw[rsg_is.mpr (Ay h0)]
theorem PG.nb{row:List Int}{N:Int}{al lo hi:Re}{p1 q1 p2 q2:Int}{j:Nat}(d:PG row N al lo hi p1 q1 p2 q2 j)(hj:j<=182700):NB row al lo hi p1 q1 p2 q2 732000:=
 ⟨d.sg,d.l,d.u,d.ne,d.ln,d.sm.mono (by decide),d.low1 hj,d.low2 hj,d.a1.val,d.a2.val,by decide⟩
section
variable {sub:Nat->Nat->Bool}{P:List Fn}{n dv pa be ps ta ha:Nat}{H:Hp}{Q:V->Hp->Prop}{X:Nat->Hp->Prop}{W:Nat->Prop}{NN:Loc->Hp->Prop}{R:V->Hp->Prop}{Y:Nat->Hp->Prop}
theorem vD{row:List Int}(h:row.length<=13):1000+1+(row.length+1)*(732000+2)<=60000000:=om [row.length] [] [(.le Y0 13)] (.le (.a 1001 (.r (Y0+1) 732002)) 60000000) [[1,732002]] rfl h
theorem n4{row:List Int}{L:Nat}(h:row.length<=13)(hL:L<=3000000):1172+1+(row.length+1)*(L+2)<=60000000:=by
 have:=HP (Nat.add_le_add_right h 1) (Nat.add_le_add_right hL 2)
 exact oqz [(row.length+1)*(L+2)] [] [(.le Y0 42000028)] (.le (1173+Y0) 60000000) [11] rfl this
theorem okN{x y:Int}{k l:Nat}(h1:Sm k x)(h2:Sm l y)(hk:k<=3000000)(hl:l<=3000000):IntMulOk x y:=IntMulOk.sm h1 h2 (GP hk (by decide)) (GP hl (by decide))
theorem qo{lo hi m:Re}(e:2*m=lo+hi)(h:lo<hi):lo<m:=by grind
theorem pV{lo hi m:Re}(e:2*m=lo+hi)(h:lo<hi):m<hi:=by grind
theorem yq{lo hi m:Re}(e:2*m=lo+hi):2*(hi-m)<=hi-lo:=by grind
theorem yf{lo hi m:Re}(e:2*m=lo+hi):2*(m-lo)<=hi-lo:=by grind
theorem nr(eb:P[be]?=some ⟨2,2,eT⟩)(es:P[ps]?=some ⟨2,2,jO pa⟩)(et:P[ta]?=some ⟨1,1,ul⟩)(ep:P[pa]?=some ⟨2,3,gW dv⟩)(ed:P[dv]?=some ⟨2,3,lq⟩){o0 o2 o5 o6 o7:Option V}{wp wq p1 q1 p2 q2:Int}{wr lo hi:Re}{L:Nat}{Z:V->Hp->Prop}
  (w:Low 1500000 wp wq) (hw:(wq:Re)*wr=wp) (hL:L<=3000000) (L1:Low L p1 q1) (L2:Low L p2 q2) (v1:(q1:Re)*lo=p1) (v2:(q2:Re)*hi=p2) (hZ:∀b,(b=true ↔ wr<hi+-lo)->Z (.bool b) H) :
  wpE sub (ag sub P (n+3)) (qe be ps ta) [o0,some (pt wp wq),o2,some (pt p1 q1),some (pt p2 q2),o5,o6,o7] H Z:=by
 dsimp only[qe,qE5,aM,aA,az,aa,af]
 have L1:=L1.mono hL
 have L2:=L2.mono hL
 refine uU et ?_
 refine oz es ep ed L2 L1.neg (by decide) fun d1 d2 Dd hd=>?_
 refine oq eb (IntMulOk.sm w.top Dd.bot (by decide) (by decide)) (IntMulOk.sm Dd.top w.bot (by decide) (by decide)) ?_
 exact hZ _ (by rw[decide_eq_true_iff];exact jf w.pos Dd.pos hw (eZ L2.pos L1.pos v2 (iK v1) hd))
theorem xT(zT:TT P)
  {v:V}{o0 o5 o6 o7:Option V}{row:List Int}{p1 q1 p2 q2 wp wq:Int}{al lo hi wr:Re}{L:Nat} (hv:items H v=some (row.map .int)) (d:NB row al lo hi p1 q1 p2 q2 L) (w:Low 1500000 wp wq) (hw:(wq:Re)*wr=wp)
  (hM:∀m m1 m2 K,2*m=lo+hi->Low K m1 m2->(m2:Re)*m=m1->Low L m1 m2)
  (hR:∀m s z1 w1 z2 w2 K,2*m=lo+hi->4*s=wr->m=al->Low K z1 w1->(w1:Re)*(m+-s)=z1->Low K z2 w2->(w2:Re)*(m+s)=z2->R (.tup [v,pt z1 w1,pt z2 w2]) H)
  (hN1:∀m m1 m2 o5 o6,2*m=lo+hi->Low L m1 m2->(m2:Re)*m=m1->m<al->NN [o0,some (pt wp wq),some v,some (pt m1 m2),some (pt p2 q2),o5,o6,o7] H)
  (hN2:∀m m1 m2 o5 o6,2*m=lo+hi->Low L m1 m2->(m2:Re)*m=m1->al<m->NN [o0,some (pt wp wq),some v,some (pt p1 q1),some (pt m1 m2),o5,o6,o7] H) :
  wpS sub (ag sub P (n+3)) W (mO 3 4 5 6) [o0,some (pt wp wq),some v,some (pt p1 q1),some (pt p2 q2),o5,o6,o7] H NN R Y:=by
 have L1:=d.l1
 have L2:=d.l2
 have hB3:=n4 d.ln d.hL
 have hlh:=fj d.l d.u
 dsimp only[mO]
 generalize hT:qs 6=T
 dsimp only[qS1,qS2,qS3,qS9,bw,qE1,qE5,qE7,bx,aM,dN,aA,az,aa,af,aH]
 refine oz zT.a3 zT.a1 zT.a0 (L1.mono d.hL) (L2.mono d.hL) (by decide) fun s1 s2 S hs=>?_
 refine pW zT (l:=3) S.top S.bot S.pos (by unfold Sm;decide) (by unfold Sm;decide) (by decide) (by decide) fun m1 m2 M hm=>?_
 have em:2*rq m1 m2=lo+hi:=rj (n:=2) S.pos M.pos (eZ L1.pos L2.pos d.v1 d.v2 hs) hm
 have vm:=dw (p:=m1) (GY M.pos)
 generalize rq m1 m2=m at *
 have i1:lo<m:=qo em hlh
 have i2:m<hi:=pV em hlh
 have LM:Low L m1 m2:=hM m m1 m2 _ em M vm
 obtain ⟨g1,g2⟩:=zN d M.pos vm i1 i2
 clear hs hm S
 refine gg zT hv d.sm LM.top LM.bot hB3 ?_
 dsimp only[dQ,aN,aa]
 rw[eJ d.ne M.pos vm]
 by_cases hz:rsg (evR row m)=0
 ·rw[decide_eq_true hz]
  dsimp only[aX]
  refine pW zT (l:=3) w.top w.bot w.pos (by unfold Sm;decide) (by unfold Sm;decide) (by decide) (by decide) fun t1 t2 T ht=>?_
  have et4:4*rq t1 t2=wr:=rj (n:=4) w.pos T.pos hw ht
  have vt:=dw (p:=t1) (GY T.pos)
  generalize rq t1 t2=s at *
  refine uU zT.a5 ?_
  refine oz zT.a3 zT.a1 zT.a0 (LM.mono d.hL) T.neg (by decide) fun z1 w1 Z1 hz1=>?_
  refine oz zT.a3 zT.a1 zT.a0 (LM.mono d.hL) T (by decide) fun z2 w2 Z2 hz2=>?_
  exact hR m s z1 w1 z2 w2 _ em et4 (g1.mp hz) Z1 (eZ M.pos T.pos vm (iK vt) hz1) Z2 (eZ M.pos T.pos vm vt hz2)
 ·rw[decide_eq_false hz]
  subst hT
  dsimp only[qs,qS1,qS2,qS3,bw,qE5,bx,aM,aA,az,aR,aa,af,aH]
  refine gg zT hv d.sm L1.top L1.bot hB3 ?_
  dsimp only[dQ,aN,aa]
  rw[eJ d.ne L1.pos d.v1]
  by_cases hs':rsg (evR row m)=rsg (evR row lo)
  ·rw[decide_eq_true hs']
   exact hN1 m m1 m2 _ _ em LM vm (g2.mp hs')
  ·rw[decide_eq_false hs']
   have hma:al<m:=Jx.mp fun h=>by
    rcases Std.le_iff_lt_or_eq.mp h with k|k
    ·exact hs' (g2.mpr k)
    ·exact hz (g1.mpr k)
   exact hN2 m m1 m2 _ _ em LM vm hma
theorem zi(zT:TT P)
  {v:V}{o0 o5 o6 o7:Option V}{row:List Int}{N p1 q1 p2 q2 wp wq:Int}{al lo hi wr:Re}{j:Nat} (hv:items H v=some (row.map .int)) (d:PG row N al lo hi p1 q1 p2 q2 j) (hj:j<=182700) (w:Low 1500000 wp wq) (hw:(wq:Re)*wr=wp) (hw2:2*wr=hi-lo)
  (hR:∀lo' hi' x1 y1 x2 y2,jM (N*8^j) al lo hi lo' hi' x1 y1 x2 y2->R (.tup [v,pt x1 y1,pt x2 y2]) H)
  (hN:∀lo' hi' x1 y1 x2 y2 o5 o6,jM (N*8^j) al lo hi lo' hi' x1 y1 x2 y2->NN [o0,some (pt wp wq),some v,some (pt x1 y1),some (pt x2 y2),o5,o6,o7] H) :
  wpS sub (ag sub P (n+3)) W (mO 3 4 5 6) [o0,some (pt wp wq),some v,some (pt p1 q1),some (pt p2 q2),o5,o6,o7] H NN R Y:=by
 have hlh:=d.lh
 have hD8:0<8*(N*8^j):=Hb (by decide) d.dpos
 obtain ⟨a,ha⟩:=d.a1.un
 obtain ⟨b,hb⟩:=d.a2.un
 have PM:∀ {m m1 m2 K},2*m=lo+hi->Low K m1 m2->(m2:Re)*m=m1->Pt (8*(N*8^j)) m m1 m2:=fun em M vm=>Pt.of_low M vm ⟨_,wj em ha hb⟩
 refine xT zT hv (d.nb hj) w hw (fun m m1 m2 K em M vm=>?_) (fun m s z1 w1 z2 w2 K em e4 ea Z1 h1 Z2 h2=>?_) (fun m m1 m2 o5 o6 em M vm h=>?_) fun m m1 m2 o5 o6 em M vm h=>?_
 ·refine g7 (Ep em hlh d.b1 d.b2) fun i1 i2 i3 i4=>?_
  exact (PM em M vm).low hD8 (by decide) i3 i4 (d.big hj)
 ·have e8:8*s=hi-lo:=by rw[<- hw2,<- e4];grind
  obtain ⟨u1,u2⟩:=Ed em e8 ha hb
  refine t6 (DQ em e8 hlh ea) fun k1 k2 k3 k4 k5=>?_
  exact hR _ _ _ _ _ _ ⟨Pt.of_low Z1 h1 ⟨_,u1⟩,Pt.of_low Z2 h2 ⟨_,u2⟩,k1,k2,k3,k4,k5⟩
 ·exact hN m hi _ _ _ _ _ _ ⟨PM em M vm,d.a2.scale 8,bM (qo em hlh),h,d.u,Ha _,yq em⟩
 ·exact hN lo m _ _ _ _ _ _ ⟨d.a1.scale 8,PM em M vm,Ha _,d.l,h,bM (pV em hlh),yf em⟩
theorem xk{row:List Int}{N p1 q1 p2 q2 x1 y1 x2 y2:Int}{al lo hi lo' hi':Re}{j:Nat}(d:PG row N al lo hi p1 q1 p2 q2 j)(hj:j<=182700)(O:jM (N*8^j) al lo hi lo' hi' x1 y1 x2 y2):Low 732000 x1 y1/\Low 732000 x2 y2:=by
 have hD8:0<8*(N*8^j):=Hb (by decide) d.dpos
 have k:=fj O.l2 O.u1
 exact ⟨O.a1.low hD8 (by decide) (bU d.b1 O.l1) (bU (bU (bM k) O.u2) d.b2) (d.big hj),O.a2.low hD8 (by decide) (bU d.b1 (bU O.l1 (bM k))) (bU O.u2 d.b2) (d.big hj)⟩
theorem zk(zT:TT P)
  {v:V}{row:List Int}{N p1 q1 p2 q2 wp wq:Int}{al lo hi wr:Re}{j:Nat} (hv:items H v=some (row.map .int)) (d:PG row N al lo hi p1 q1 p2 q2 j) (hj:j<=182700) (w:Low 1500000 wp wq) (hw:(wq:Re)*wr=wp) (hw2:2*wr=hi-lo)
  (hQ:∀lo' hi' x1 y1 x2 y2,jM (N*8^j) al lo hi lo' hi' x1 y1 x2 y2->Q (.tup [v,pt x1 y1,pt x2 y2]) H) :
  ag sub P (n+4) 20 [.tup [v,pt p1 q1,pt p2 q2],pt wp wq] H Q X:=by
 have hw0:0<wp:=by
  refine jt ?_
  rw[<- hw,aE]
  refine mul_pos (bD w.pos) ?_
  have:=d.lh
  grind
 refine ao zT.a20 rfl ?_
 dsimp only[oe]
 generalize hC:qe 2 3 5=CC
 generalize hB:mO 3 4 5 6=BB
 dsimp only[qS1,qS2,qS4,qS9,bw,jW,vq,qE1,qE5,bx,aU,dN,aA,az,yY,bu,aN,aD,aB,ay,ax,aO,aC,aq,fq,aa,fy,af,aH,iz,Nat.reduceSub,Nat.reduceAdd,List.length_nil]
 rw[decide_eq_false (IM.mpr hw0)]
 dsimp only[aR]
 subst hC hB
 refine ⟨rfl,fun ρ H'=>∃n,mD H (.tup [v,pt p1 q1,pt p2 q2]) (pt wp wq) v (N*8^j) al lo hi p1 q1 p2 q2 n ρ H',muI (mD H (.tup [v,pt p1 q1,pt p2 q2]) (pt wp wq) v (N*8^j) al lo hi p1 q1 p2 q2),⟨1,rfl,p1,q1,p2,q2,_,_,_,rfl,.inl ⟨rfl,rfl,rfl,rfl,rfl⟩⟩,?_⟩
 intro ρ H' hex
 have hI:=nC hex
 have hle:∀ {n ρ H'},mD H (.tup [v,pt p1 q1,pt p2 q2]) (pt wp wq) v (N*8^j) al lo hi p1 q1 p2 q2 n ρ H'->muI (mD H (.tup [v,pt p1 q1,pt p2 q2]) (pt wp wq) v (N*8^j) al lo hi p1 q1 p2 q2) ρ H'<=n:=fun h=>nO h
 generalize muI (mD H (.tup [v,pt p1 q1,pt p2 q2]) (pt wp wq) v (N*8^j) al lo hi p1 q1 p2 q2)=μ at *
 generalize μ ρ H'=nn at *
 obtain ⟨rfl,x1,y1,x2,y2,o5,o6,o7,rfl,hc⟩:=hI
 rcases hc with ⟨rfl,rfl,rfl,rfl,rfl⟩ | ⟨rfl,lo',hi',O⟩
 ·refine nr zT.a2 zT.a3 zT.a5 zT.a1 zT.a0 w hw (by decide) (d.low1 hj) (d.low2 hj) d.a1.val d.a2.val fun b hb=>?_
  rw[hb.mpr (C8 hw2 d.l d.u)]
  dsimp only[aN,aX,aa,af]
  refine zi zT hv d hj w hw hw2 hQ fun lo' hi' z1 w1 z2 w2 o5 o6 O=>?_
  have hN:mD H' (.tup [v,pt x1 y1,pt x2 y2]) (pt wp wq) v (N*8^j) al lo hi x1 y1 x2 y2 0 [some (.tup [v,pt x1 y1,pt x2 y2]),some (pt wp wq),some v,some (pt z1 w1),some (pt z2 w2),o5,o6,o7] H':=⟨rfl,_,_,_,_,_,_,_,rfl,.inr ⟨rfl,lo',hi',O⟩⟩
  exact ⟨⟨_,hN⟩,Hx (hle hN) (by decide)⟩
 ·obtain ⟨L1,L2⟩:=xk d hj O
  refine nr zT.a2 zT.a3 zT.a5 zT.a1 zT.a0 w hw (by decide) L1 L2 O.a1.val O.a2.val fun b hb=>?_
  have hbf:b=false:=by
   cases b with
   |false=>rfl
   |true=>exact absurd (hb.mp rfl) (Et hw2 O.wd)
  rw[hbf]
  exact hQ _ _ _ _ _ _ O
theorem mv(zT:TT P)
  {v:V}{row:List Int}{p1 q1 p2 q2 N:Int}{al lo hi:Re}{j:Nat} (hv:items H v=some (row.map .int)) (d:PG row N al lo hi p1 q1 p2 q2 j) (hj:j<=182700)
  (hQ:∀lo' hi' x1 y1 x2 y2,jM (N*8^j) al lo hi lo' hi' x1 y1 x2 y2->Q (.tup [v,pt x1 y1,pt x2 y2]) H) :
  ag sub P (n+5) 21 [.tup [v,pt p1 q1,pt p2 q2]] H Q X:=by
 have L1:=d.low1 hj
 have L2:=d.low2 hj
 refine ao zT.a21 rfl ?_
 dsimp only[yy,qS1,qS2,qS9,qE5,qE7,aM,aA,az,aD,aB,ay,ax,aC,aq,aa,af,Nat.reduceSub]
 refine ao zT.a19 rfl ?_
 dsimp only[CX,qS1,qS2,qS9,qE1,qE5,aM,aU,aA,az,bJ,bI,aD,aB,ay,ax,aC,aq,aa,af,Nat.reduceSub]
 refine uU zT.a5 ?_
 refine oz zT.a3 zT.a1 zT.a0 L2 L1.neg (by decide) fun d1 d2 Dd hd=>?_
 refine pW zT (l:=3) Dd.top Dd.bot Dd.pos (by unfold Sm;decide) (by unfold Sm;decide) (by decide) (by decide) fun w1 w2 W hw=>?_
 have ew2:2*rq w1 w2=hi+-lo:=rj (n:=2) Dd.pos W.pos (eZ d.a2.pos d.a1.pos d.a2.val (iK d.a1.val) hd) hw
 have vw:=dw (p:=w1) (GY W.pos)
 generalize rq w1 w2=wr at *
 exact zk zT hv d hj (W.mono (by decide)) vw (by rw[ew2];grind) hQ
theorem uZ(zT:TT P)
  {v:V}{row:List Int}{p1 q1 p2 q2 N:Int}{al lo hi:Re}{j:Nat} (hv:items H v=some (row.map .int)) (d:PG row N al lo hi p1 q1 p2 q2 j) (hj:j<=182700)
  (hQ:∀lo' hi' x1 y1 x2 y2,PG row N al lo' hi' x1 y1 x2 y2 (j+1)->Q (.tup [v,pt x1 y1,pt x2 y2]) H) :
  ag sub P (n+5) 21 [.tup [v,pt p1 q1,pt p2 q2]] H Q X:=mv zT hv d hj fun lo' hi' x1 y1 x2 y2 O=>hQ _ _ _ _ _ _ (d.step O)
end
end Mine
namespace Mine
open Re
theorem gY{x y:Re}(hx:0<=x)(hy:0<=y):0<=x*y:=Lean.Grind.OrderedRing.mul_nonneg hx hy
theorem gw{lo1 hi1 a lo2 hi2 b L:Re}(h1:lo1<a)(h2:a<hi1)(h3:lo2<b)(h4:b<hi2)(c1:L<=lo1*lo2)(c2:L<=lo1*hi2)(c3:L<=hi1*lo2)(c4:L<=hi1*hi2):L<a*b:=by
 refine HD fun hn=>?_
 have hn:a*b<=L:=by grind
 have p1:0<hi1-a:=by grind
 have p2:0<a-lo1:=by grind
 have q1:0<hi2-b:=by grind
 have q2:0<b-lo2:=by grind
 have w1:=mul_pos p1 q1
 have w2:=mul_pos p1 q2
 have w3:=mul_pos p2 q1
 have w4:=mul_pos p2 q2
 have t1:=gY (x:=(hi1-a)*(hi2-b)) (y:=lo1*lo2-L) (by grind) (by grind)
 have t2:=gY (x:=(hi1-a)*(b-lo2)) (y:=lo1*hi2-L) (by grind) (by grind)
 have t3:=gY (x:=(a-lo1)*(hi2-b)) (y:=hi1*lo2-L) (by grind) (by grind)
 have t4:=gY (x:=(a-lo1)*(b-lo2)) (y:=hi1*hi2-L) (by grind) (by grind)
 have ww:0<(hi1-lo1)*(hi2-lo2):=mul_pos (by grind) (by grind)
 have t0:=gY (x:=(hi1-lo1)*(hi2-lo2)) (y:=L-a*b) (by grind) (by grind)
 have e:(hi1-a)*(hi2-b)*(lo1*lo2-L)+(hi1-a)*(b-lo2)*(lo1*hi2-L)+(a-lo1)*(hi2-b)*(hi1*lo2-L)+(a-lo1)*(b-lo2)*(hi1*hi2-L)=-((hi1-lo1)*(hi2-lo2)*(L-a*b)):=by
  clear t0 t1 t2 t3 t4 w1 w2 w3 w4 ww;grind
 have ne:∀ {x:Re},0<x->x≠0:=fun h e=>by rw[e] at h;grind
 have z1:lo1*lo2-L=0:=bY (x:=(hi1-a)*(hi2-b)) (by grind) (ne w1)
 have z2:lo1*hi2-L=0:=bY (x:=(hi1-a)*(b-lo2)) (by grind) (ne w2)
 have z3:hi1*lo2-L=0:=bY (x:=(a-lo1)*(hi2-b)) (by grind) (ne w3)
 have z4:hi1*hi2-L=0:=bY (x:=(a-lo1)*(b-lo2)) (by grind) (ne w4)
 have d:hi2-lo2≠0:=ne (by grind)
 have l0:lo1=0:=bY (x:=hi2-lo2) (by clear t0 t1 t2 t3 t4 w1 w2 w3 w4 ww e;grind) d
 have h0:hi1=0:=bY (x:=hi2-lo2) (by clear t0 t1 t2 t3 t4 w1 w2 w3 w4 ww e;grind) d
 grind
theorem jc{lo1 hi1 a lo2 hi2 b U:Re}(h1:lo1<a)(h2:a<hi1)(h3:lo2<b)(h4:b<hi2)(c1:lo1*lo2<=U)(c2:lo1*hi2<=U)(c3:hi1*lo2<=U)(c4:hi1*hi2<=U):a*b<U:=by
 have:=gw (lo1:=-hi1) (hi1:=-lo1) (a:=-a) (L:=-U) (lo2:=lo2) (hi2:=hi2) (b:=b) (by grind) (by grind) h3 h4 (by grind) (by grind) (by grind) (by grind)
 grind
theorem Bn{u v B L:Re}(h1:u<=B)(h2:-B<=u)(g1:v<=L)(g2:-L<=v):u*v<=B*L:=by
 have a:=gY (x:=B-u) (y:=L+v) (by grind) (by grind)
 have b:=gY (x:=B+u) (y:=L-v) (by grind) (by grind)
 have e:(B-u)*(L+v)+(B+u)*(L-v)=2*(B*L-u*v):=by clear a b;grind
 grind
theorem CE{x1 x2 y1 y2 z B c:Re}(a1:x1<=B)(a2:-B<=x1)(b1:y2<=B)(b2:-B<=y2)(w1:z*(y1-y2)<=c)(w2:-c<=z*(y1-y2))(v1:z*(x1-x2)<=c)(v2:-c<=z*(x1-x2)):z*(x1*y1-x2*y2)<=B*c+B*c:=by
 have p:=Bn a1 a2 w1 w2
 have q:=Bn b1 b2 v1 v2
 have e:z*(x1*y1-x2*y2)=x1*(z*(y1-y2))+y2*(z*(x1-x2)):=by clear p q w1 w2 v1 v2;grind
 rw[e];grind
theorem wU{lo hi z c x y:Re}(z0:0<z)(o:lo<hi)(w:z*(hi-lo)<=c)(hx:x=lo\/x=hi)(hy:y=lo\/y=hi):z*(x-y)<=c/\-c<=z*(x-y):=by
 have p:0<z*(hi-lo):=mul_pos z0 (by grind)
 have e:z*(lo-hi)=-(z*(hi-lo)):=by grind
 have e0:∀t:Re,z*(t-t)=0:=fun t=>by grind
 rcases hx with rfl|rfl <;> rcases hy with rfl|rfl
 ·rw[e0];grind
 ·rw[e];grind
 ·grind
 ·rw[e0];grind
theorem ve{lo1 hi1 lo2 hi2 z xl xh B c:Re}(z0:0<z)(l1:-B<=lo1)(u1:hi1<=B)(o1:lo1<hi1)(l2:-B<=lo2)(u2:hi2<=B)(o2:lo2<hi2)(w1:z*(hi1-lo1)<=c)(w2:z*(hi2-lo2)<=c)
  (hl:xl=lo1*lo2\/xl=lo1*hi2\/xl=hi1*lo2\/xl=hi1*hi2) (hh:xh=lo1*lo2\/xh=lo1*hi2\/xh=hi1*lo2\/xh=hi1*hi2):z*(xh-xl)<=B*c+B*c:=by
 have S:∀ {x:Re},(x=lo1*lo2\/x=lo1*hi2\/x=hi1*lo2\/x=hi1*hi2)->∃p q,(p=lo1\/p=hi1)/\(q=lo2\/q=hi2)/\x=p*q:=fun h=>by
  rcases h with rfl|rfl|rfl|rfl
  ·exact ⟨_,_,.inl rfl,.inl rfl,rfl⟩
  ·exact ⟨_,_,.inl rfl,.inr rfl,rfl⟩
  ·exact ⟨_,_,.inr rfl,.inl rfl,rfl⟩
  ·exact ⟨_,_,.inr rfl,.inr rfl,rfl⟩
 refine aF (S hl) fun p q hp hq zq16=>?_;subst zq16
 refine aF (S hh) fun p' q' hp' hq' zq15=>?_;subst zq15
 have k1:=wU z0 o2 w2 hq' hq
 have k2:=wU z0 o1 w1 hp' hp
 refine CE ?_ ?_ ?_ ?_ k1.1 k1.2 k2.1 k2.2
 ·clear k1 k2 w1 w2;rcases hp' with rfl|rfl <;> grind
 ·clear k1 k2 w1 w2;rcases hp' with rfl|rfl <;> grind
 ·clear k1 k2 w1 w2;rcases hq with rfl|rfl <;> grind
 ·clear k1 k2 w1 w2;rcases hq with rfl|rfl <;> grind
end Mine
namespace Mine
open PySem Re
noncomputable abbrev pg (row:List Int) (p1 q1 p2 q2:Int):V:=.tup [.tup (row.map .int),pt p1 q1,pt p2 q2]
structure Ab (g lo hi:Re)(p1 q1 p2 q2:Int):Prop where
 l1:Low 1470000 p1 q1
 l2:Low 1470000 p2 q2
 v1:(q1:Re)*lo=p1
 v2:(q2:Re)*hi=p2
 lt:lo<g
 gt:g<hi
inductive gJ (A:List Int) (N:Int) (a:Re) (j:Nat) (u:V):Prop
 |mk (lo hi:Re) (p1 q1 p2 q2:Int) (c0:PG A N a lo hi p1 q1 p2 q2 j) (c1:u=pg A p1 q1 p2 q2)
structure Ff (K:Nat)(g:Re)(F R:List Int):Prop where
 F:Tr F/\br F 0=1/\F.length<=13/\AllSm K F/\evR F g=0
 R:PlG (K+172) 13 g R
 hK:K<=1000
 hg:ab g<=(((2^50:Nat):Int):Re)
theorem Ak{w:Re}{j:Nat}(hj:182660<=j)(w0:0<=w)(h:((2^j:Int):Re)*w<=((2^660:Int):Re)):(((2^182000:Nat):Int):Re)*w<=1:=by
 obtain ⟨d,rfl⟩:=Ik hj
 have e:((2^(182660+d):Int):Re)=(((2^182000:Nat):Int):Re)*(((2^660:Int):Re)*((2^d:Int):Re)):=by
  rw[<- au,<- au,IF,<- IZ,show ((2:Nat):Int)=2 from rfl,<- IZ,show 182000+(660+d)=182660+d by exact oqz [d] [] [] (.eq (182000+(660+Y0)) (182660+Y0)) [1] rfl]
 rw[e] at h
 have p1:(1:Re)<=((2^d:Int):Re):=aZ (show (1:Int)<=2^d from Ho (by decide))
 have p2:0<((2^660:Int):Re):=bD (cG (by decide) 660)
 have p3:0<=(((2^182000:Nat):Int):Re):=G4 (bD (IR.mpr (I9 _)))
 generalize (((2^182000:Nat):Int):Re)=A at *
 generalize ((2^660:Int):Re)=B at *
 generalize ((2^d:Int):Re)=D at *
 clear e
 have k1:=ac (ac (ac p3 w0) (G4 p2)) (cH p1)
 refine IN.mp fun hn=>?_
 have k2:=mul_pos p2 (eO hn)
 grind
theorem Dt{w C:Re}{j:Nat}(w0:0<=w)(h:((2^j:Int):Re)*w<=C):w<=C:=by
 have p1:(1:Re)<=((2^j:Int):Re):=aZ (show (1:Int)<=2^j from Ho (by decide))
 have k1:=ac w0 (cH p1)
 grind
theorem vC{K:Nat}{g lo hi:Re}{F R:List Int}{p1 q1 p2 q2:Int}{j:Nat}(r:Ff K g F R)(a:Ab g lo hi p1 q1 p2 q2)(w:((2^j:Int):Re)*(hi-lo)<=((2^660:Int):Re))(hn:¬ Aln R p1 q1 p2 q2):j<182660:=
 JU fun hj=>hn (vu r.F r.R (GU _) r.hK r.hg a.l1.pos a.l2.pos a.v1 a.v2 a.lt a.gt (Ak hj (bM (eO (fj a.lt a.gt))) w))
section
variable {sub:Nat->Nat->Bool}{P:List Fn}{n bd:Nat}{H:Hp}{Q:V->Hp->Prop}{X:Nat->Hp->Prop}
theorem F8{K n:Nat}(hK:K<=1172)(hn:n<=13):K+1+(n+1)*(1470000+2)<=60000000/\K+(1470000+1470000)+2+n*((1470000+1470000)+2)<=60000000:=by
 have:=HM 2940002 hn
 exact om [K,n] [] [(.le Y0 1172),(.le Y1 13)] (.an (.le (.a (Y0+1) (.r (Y1+1) 1470002)) 60000000) (.le (.a (Y0+2940000+2) (.r Y1 2940002)) 60000000)) [[1,1,2940002]] rfl hK hn
theorem wL(zT:TT P){i:Nat}{row:List Int}{p1 q1 p2 q2:Int}{K:Nat}(hv:H[i]?=some (row.map .int))(h0:row≠[])(hl:row.length<=13)(sm:AllSm K row)(hK:K<=1172)(l1:Low 1470000 p1 q1)(l2:Low 1470000 p2 q2)
  (hQ:∀ (b:Bool) H',H<+:H'->(b=true ↔ Aln row p1 q1 p2 q2)->Q (.bool b) H'):ag sub P (n+4) 18 [.lst i,pt p1 q1,pt p2 q2] H Q X:=by
 obtain ⟨B1,B2⟩:=F8 hK hl
 refine ao zT.a18 rfl ?_
 dsimp only[rR,qS1,qS2,qS9,qE1,qE5,bx,lZ,aM,aA,az,bX,aD,aB,ay,ax,aC,aq,aa,af,Nat.reduceSub]
 refine gg zT (v:=.lst i) hv sm l1.top l1.bot B1 ?_
 dsimp only[jR,aN,aa]
 by_cases h1:aw p1 q1 row=0
 ·rw[decide_eq_true (sgn_zero.mpr h1)]
  exact hQ false _ (JB _) ⟨nofun,fun a=>absurd h1 a.1⟩
 rw[decide_eq_false (fun h=>h1 (sgn_zero.mp h))]
 dsimp only[aX,CT]
 refine gg zT (v:=.lst i) hv sm l2.top l2.bot B1 ?_
 dsimp only[jR,aN,aa]
 by_cases h2:aw p2 q2 row=0
 ·rw[decide_eq_true (sgn_zero.mpr h2)]
  exact hQ false _ (JB _) ⟨nofun,fun a=>absurd h2 a.2.1⟩
 rw[decide_eq_false (fun h=>h2 (sgn_zero.mp h))]
 dsimp only[aX,CT]
 refine zg zT (m0:=i) hv h0 (GP hl (by decide)) sm (l1.top.mul l2.bot) (l2.top.mul l1.bot) (l1.bot.mul l2.bot) (okN l1.top l2.bot (by decide) (by decide)) (okN l2.top l1.bot (by decide) (by decide)) (okN l1.bot l2.bot (by decide) (by decide)) B2 fun H' hp=>?_
 dsimp only[dQ]
 exact hQ _ _ hp ⟨fun h=>⟨h1,h2,of_decide_eq_true h⟩,fun a=>decide_eq_true a.2.2⟩
inductive u5 (H:Hp) (A B R:List Int) (N M:Int) (a b g:Re) (i bd n:Nat) (ρ:Loc) (H':Hp):Prop
 |mk (j:Nat) (u v:V) (lo hi:Re) (p1 q1 p2 q2:Int) (c0:n+j=182700/\H<+:H'/\H'[i]?=some (R.map V.int)) (c1:gJ A N a j u/\gJ B M b j v) (c2:Ab g lo hi p1 q1 p2 q2) (c3:((2^j:Int):Re)*(hi-lo)<=((2^660:Int):Re)) (c4:ρ=[some (.lst i),some (.fn bd),some u,some v,some (pt p1 q1),some (pt p2 q2)])
theorem Df(zT:TT P)(hk:bd=29\/bd=29+1)
  {A B F R:List Int}{N M:Int}{a b g:Re}{K i:Nat}{u v:V}
  (hha:∀ (row:List Int) (N:Int) (al:Re) (u:V) (j:Nat) (H:Hp) (Q:V->Hp->Prop) (X:Nat->Hp->Prop),gJ row N al j u->j<=182700->(∀u',gJ row N al (j+1) u'->Q u' H)->ag sub P (n+5) 21 [u] H Q X)
  (hbd:∀ (j:Nat) (u v:V) (H:Hp) (Q:V->Hp->Prop) (X:Nat->Hp->Prop),j<=182700->gJ A N a j u->gJ B M b j v->(∀lo hi p1 q1 p2 q2 H',H<+:H'->Ab g lo hi p1 q1 p2 q2->((2^j:Int):Re)*(hi-lo)<=((2^660:Int):Re)->Q (.tup [pt p1 q1,pt p2 q2]) H')->ag sub P (n+5) bd [u,v] H Q X)
  (hi:H[i]?=some (R.map V.int)) (hR:Ff K g F R) (hu:gJ A N a 0 u) (hv:gJ B M b 0 v)
  (hQ:∀lo hi p1 q1 p2 q2 H',H<+:H'->Ab g lo hi p1 q1 p2 q2->hi-lo<=((2^660:Int):Re)->Aln R p1 q1 p2 q2->Q (pg R p1 q1 p2 q2) H'):ag sub P (n+6) 28 [.lst i,.fn bd,u,v] H Q X:=by
 have hne:R≠[]:=fun h=>by refine ae (hR.R.la) fun l h1 _=>?_;rw[h] at h1;cases h1
 have hK:=hR.hK
 refine ao zT.a28 rfl ?_
 dsimp only[Dk]
 generalize hT:En=T
 generalize hC:Ch 18=CC
 generalize hB:Dq 21 29=BB
 dsimp only[qS2,qS4,jW,qE5,Fk,aA,az,aD,aB,ay,ax,aO,aC,aq,aa,af,Nat.reduceSub]
 refine ⟨bd,hk,rfl,hbd 0 u v _ _ _ (by decide) hu hv fun lo hh p1 q1 p2 q2 H0 hp0 ab w=>?_⟩
 dsimp only[fq,fy,aH,iz,Nat.reduceAdd,List.length_nil]
 subst hT hC hB
 refine ⟨rfl,fun ρ H'=>∃n,u5 H A B R N M a b g i bd n ρ H',muI (u5 H A B R N M a b g i bd),⟨182700,0,u,v,lo,hh,p1,q1,p2,q2,⟨rfl,hp0,av hp0 hi⟩,⟨hu,hv⟩,ab,w,rfl⟩,?_⟩
 intro ρ H' hex
 have hI:=nC hex
 have hle:∀ {n ρ H'},u5 H A B R N M a b g i bd n ρ H'->muI (u5 H A B R N M a b g i bd) ρ H'<=n:=fun h=>nO h
 generalize muI (u5 H A B R N M a b g i bd)=μ at *
 generalize μ ρ H'=nn at *
 obtain ⟨j,u,v,lo,hh,p1,q1,p2,q2,zq17,zq18,ab,w,zq19⟩:=hI;obtain ⟨hj,hp1,hi'⟩:=zq17;obtain ⟨h1,h2⟩:=zq18;subst zq19
 dsimp only[Ch,qE5,jh,aM,aA,az,aN,aa,af]
 refine wL zT hi' hne hR.R.ln hR.R.sm (by exact oqz [K] [] [(.le Y0 1000)] (.le (Y0+172) 1172) [11] rfl hK) ab.l1 ab.l2 fun bb H1 hp2 hb=>?_
 cases bb with
 |true =>
  dsimp only[En,qS1,qS2,qS9,qE5,b6,dN,aA,az,kr,aN,dc,aR,gf,aa,af]
  refine ifSome.mk (av hp2 hi') ?_
  exact hQ lo hh _ _ _ _ _ (ah hp1 hp2) ab (Dt (bM (eO (fj ab.lt ab.gt))) w) (hb.mp rfl)
 |false =>
  have hjj:=vC hR ab w fun h=>GZ (hb.mpr h)
  dsimp only[Dq,qS1,qS2,qS3,qS4,qE5,aM,Fk,aA,az,aN,aX,CT,aa,af,aH]
  refine hha _ _ _ _ _ _ _ _ h1 (by exact oqz [j,nn] [] [(.eq (Y1+Y0) 182700)] (.le Y0 182700) [11] rfl hj) fun u' h1'=>?_
  refine hha _ _ _ _ _ _ _ _ h2 (by exact oqz [j,nn] [] [(.eq (Y1+Y0) 182700)] (.le Y0 182700) [11] rfl hj) fun v' h2'=>?_
  refine ⟨bd,hk,rfl,hbd (j+1) _ _ _ _ _ (by exact oqz [j] [] [(.le (Y0+1) 182660)] (.le (Y0+1) 182700) [11] rfl hjj) h1' h2' fun lo' hh' p1' q1' p2' q2' H2 hp3 ab' w'=>?_⟩
  dsimp only[fq,fy,aH,iz,Nat.reduceAdd,List.length_nil]
  have hN:u5 H A B R N M a b g i bd (nn-1) [some (.lst i),some (.fn bd),some u',some v',some (pt p1' q1'),some (pt p2' q2')] H2:=
   ⟨j+1,_,_,lo',hh',p1',q1',p2',q2',⟨by exact oqz [nn-1,nn,j] [] [(.eq (Y1+Y2) 182700),(.le (Y2+1) 182660),(osb Y1 1 Y0)] (.eq (Y0+(Y2+1)) 182700) [100101,11100,1000011] rfl hj hjj (am (nn) (1)),ah (ah hp1 hp2) hp3,av hp3 (av hp2 hi')⟩,⟨h1',h2'⟩,ab',w',rfl⟩
  exact ⟨rfl,⟨_,hN⟩,Hx (hle hN) (by exact oqz [nn-1,nn,j] [] [(.eq (Y1+Y2) 182700),(.le (Y2+1) 182660),(osb Y1 1 Y0)] (.le (Y0+1) Y1) [1000001,11100] rfl hj hjj (am (nn) (1)))⟩
end
end Mine
namespace Mine
theorem qk{c:Nat->Int}{l:Int}{P P':Nat->Int}{w:Nat}(h:∀i,i<w->P i=P' i):∀m,m<=w->tP c l P w m=tP c l P' w m
 |0,_=>rfl
 |m+1,hm=>by rw[oL,oL,qk h m (HT hm),h (w-(m+1)) (by exact oqz [w-(m+1),w,m] [] [(.le (Y2+1) Y1),(osb Y1 (Y2+1) Y0)] (.le (Y0+1) Y1) [10001,1011] rfl hm (am (w) (m+1)))]
noncomputable def psL(c:Nat->Int)(l:Int)(n:Nat):Nat->List Int
 |0=>[(n:Int)]
 |w+1=>(-(tP c l (fun i=>(psL c l n w).getD (w-i) 0) (w+1) (min (w+1) n)))::psL c l n w
theorem FT(c:Nat->Int)(l:Int)(n w:Nat):psL c l n (w+1)=(-(tP c l (fun i=>(psL c l n w).getD (w-i) 0) (w+1) (min (w+1) n)))::psL c l n w:=rfl
theorem tO{c:Nat->Int}{l:Int}{n:Nat}:∀ {w i:Nat},i<=w->(psL c l n w).getD (w-i) 0=(psL c l n i).getD 0 0
 |0,i,h=>by rw[JW.mp h]
 |w+1,i,h=>by
  rcases Jk h with g|g
  ·have:=@tO c l n w i (IB g)
   rw[FT,show w+1-i=(w-i)+1 by exact oqz [w+1-i,w,i,w-i] [] [(.le (Y2+1) (Y1+1)),(osb (Y1+1) Y2 Y0),(osb Y1 Y2 Y3)] (.eq Y0 (Y3+1)) [10001001,1001011,110,1010001,110001] rfl g (am (w+1) (i)) (am (w) (i)),JC,this]
  ·rw[g,Nat.sub_self]
theorem n5(c:Nat->Int)(l:Int)(n:Nat):∃P,NwP c l n P:=
 ⟨fun i=>(psL c l n i).getD 0 0,rfl,fun w=>by
  show (psL c l n (w+1)).getD 0 0=_
  rw[FT,Jd,qk (fun i hi=>tO (IB hi)) _ (Jm _ _)]⟩
theorem pU{S E E':Nat->Int}{w:Nat}(h:∀i,i<w->E i=E' i):∀m,m<=w->tE S E w m=tE S E' w m
 |0,_=>rfl
 |m+1,hm=>by rw[tEC,tEC,pU h m (HT hm),h (w-(m+1)) (by exact oqz [w-(m+1),w,m] [] [(.le (Y2+1) Y1),(osb Y1 (Y2+1) Y0)] (.le (Y0+1) Y1) [10001,1011] rfl hm (am (w) (m+1)))]
noncomputable def esL(S:Nat->Int):Nat->List Int
 |0=>[1]
 |w+1=>(tE S (fun i=>(esL S w).getD (w-i) 0) (w+1) (w+1))::esL S w
theorem F7(S:Nat->Int)(w:Nat):esL S (w+1)=(tE S (fun i=>(esL S w).getD (w-i) 0) (w+1) (w+1))::esL S w:=rfl
theorem tT{S:Nat->Int}:∀ {w i:Nat},i<=w->(esL S w).getD (w-i) 0=(esL S i).getD 0 0
 |0,i,h=>by rw[JW.mp h]
 |w+1,i,h=>by
  rcases Jk h with g|g
  ·have:=@tT S w i (IB g)
   rw[F7,show w+1-i=(w-i)+1 by exact oqz [w+1-i,w,i,w-i] [] [(.le (Y2+1) (Y1+1)),(osb (Y1+1) Y2 Y0),(osb Y1 Y2 Y3)] (.eq Y0 (Y3+1)) [10001001,1001011,110,1010001,110001] rfl g (am (w+1) (i)) (am (w) (i)),JC,this]
  ·rw[g,Nat.sub_self]
theorem yV(S:Nat->Int):∃E,NwE S E:=
 ⟨fun i=>(esL S i).getD 0 0,rfl,fun w=>by
  show (esL S (w+1)).getD 0 0=_
  rw[F7,Jd,pU (fun i hi=>tT (IB hi)) _ (GU _)]⟩
theorem sm4{x:Int}(h0:0<=x)(h:x<16):Sm 4 x:=by unfold Sm;rw[show (2:Nat)^4=16 by decide];exact oqz [x.natAbs] [x] [(.il 0 Y0),(.il (Y0+1) 16),(ona Y0 Y0)] (.le (Y0+1) 16) [10101,10011] rfl h0 h (bn (x))
structure Bas (c:Nat->Int)(l:Int)(n b:Nat):Prop where
 l0:0<l
 n1:1<=n
 n9:n<=12
 cl:c 0=l
 sc:∀j,j<=n->Sm b (c j)
section
variable {c P:Nat->Int}{l:Int}{n b:Nat}
theorem Bas.sl(h:Bas c l n b)(w:Nat):Sm (b*w+1) (l^w):=(h.cl ▸ h.sc 0 (Hl _)).pow w
theorem so(h:Bas c l n b){w m:Nat}(hw:w<=12)(hm:m+1<=min w n)(ih:∀i,i<w->Sm ((b+13)*i+4) (P i)) :
  Sm ((b+13)*w-8) (if m+1=w then (w:Int)*c w*l^m else c (m+1)*l^m*P (w-(m+1))):=by
 have m1:m+1<=w:=GP hm (Jm _ _)
 have m2:m+1<=n:=GP hm (JR _ _)
 split
 ·rename_i e
  refine (((sm4 (by exact oqz [w] [] [] (.il 0 (.c Y0)) [1] rfl) (by exact oqz [w] [] [(.le Y0 12)] (.il (.a (.c Y0) 1) 16) [11] rfl hw)).mul (e ▸ h.sc (m+1) m2)).mul (h.sl m)).mono ?_
  have:(b+13)*w=b*m+b+13*w:=by rw[<- e];grind
  exact om [b,b*m,(b+13)*w-8,(b+13)*w,w,m] [] [(.eq (Y5+1) Y4),(.eq Y3 (.a (Y1+Y0) (.m 13 Y4))),(.an (.le Y3 (Y2+8)) (.le Y2 Y3))] (.le (4+Y0+(Y1+1)) Y2) [[1,13,0,0,1,1]] rfl e this (aV ((b+13)*w) (8))
 ·refine (((h.sc (m+1) m2).mul (h.sl m)).mul (ih (w-(m+1)) (by exact oqz [w-(m+1),w,m] [] [(.le (Y2+1) Y1),(osb Y1 (Y2+1) Y0)] (.le (Y0+1) Y1) [10001,1011] rfl m1 (am (w) (m+1))))).mono ?_
  obtain ⟨d,rfl⟩:=Ik m1
  rw[Ib]
  have:(b+13)*(m+1+d)=b*m+b+(b+13)*d+13*m+13:=by grind
  exact oqz [b,b*m,(b+13)*d,(b+13)*(m+1+d)-8,(b+13)*(m+1+d),m] [] [(.eq Y4 (.a (.a (Y1+Y0+Y2) (.m 13 Y5)) 13)),(.an (.le Y4 (Y3+8)) (.le Y3 Y4))] (.le (Y0+(Y1+1)+(Y2+4)) Y3) [1101] rfl this (aV ((b+13)*(m+1+d)) (8))
theorem rM(h:Bas c l n b){w:Nat}(hw:w<=12)(ih:∀i,i<w->Sm ((b+13)*i+4) (P i)):∀m,m<=min w n->Sm ((b+13)*w-8+m) (tP c l P w m)
 |0,_=>Sm.zero
 |m+1,hm=>by rw[oL];exact (rM h hw ih m (HT hm)).add ((so h hw hm ih).mono (Io _ _))
theorem jG(h:Bas c l n b)(hP:NwP c l n P):∀ (N w:Nat),w<=N->N<=12->Sm ((b+13)*w+4) (P w):=by
 intro N
 induction N with
 |zero=>intro w hw _;rw[JW.mp hw,hP.p0,Nat.mul_zero];exact sm4 (by exact oqz [n] [] [] (.il 0 (.c Y0)) [1] rfl) (by have:=h.n9;exact oqz [n] [] [(.le Y0 12)] (.il (.a (.c Y0) 1) 16) [11] rfl this)
 |succ N ih =>
  intro w hw hN
  cases w with
  |zero=>rw[hP.p0,Nat.mul_zero];exact sm4 (by exact oqz [n] [] [] (.il 0 (.c Y0)) [1] rfl) (by have:=h.n9;exact oqz [n] [] [(.le Y0 12)] (.il (.a (.c Y0) 1) 16) [11] rfl this)
  |succ v =>
   rw[hP.ps]
   refine (rM h (w:=v+1) (by exact oqz [v,N] [] [(.le (Y1+1) 12),(.le (Y0+1) (Y1+1))] (.le (Y0+1) 12) [111] rfl hN hw) (fun i hi=>ih i (by exact oqz [i,N,v] [] [(.le (Y2+1) (Y1+1)),(.le (Y0+1) (Y2+1))] (.le Y0 Y1) [111] rfl hw hi) (by exact oqz [N] [] [(.le (Y0+1) 12)] (.le Y0 12) [11] rfl hN)) _ (GU _)).neg.mono ?_
   have:=Jm (v+1) n
   have:13<=(b+13)*(v+1):=by rw[Nat.mul_succ];exact oqz [(b+13)*v,b] [] [] (.le 13 (Y0+(Y1+13))) [1] rfl
   exact oqz [(b+13)*(v+1)-8,(b+13)*(v+1),min (v+1) n,v,n,N] [] [(.le (Y5+1) 12),(.le (Y3+1) (Y5+1)),(.le 13 Y1),(.an (.le Y2 (Y3+1)) (.le Y2 Y4)),(osb Y1 8 Y0)] (.le (Y0+Y2) (Y1+4)) [100010111,1001000] rfl hN hw this (Mine.kD (v+1) (n)) (am ((b+13)*(v+1)) (8))
theorem Bas.szP(h:Bas c l n b)(hP:NwP c l n P){k N:Nat}(hN1:1<=N)(hN:N<=12)(k9:k<=20000)(hk:(b+13)*N+20<=k):SzP c l n P k N:=by
 have mul:∀ {w},w<=N->(b+13)*w<=(b+13)*N:=fun hw=>Hu _ hw
 have ih:∀ {w},w<=N->∀i,i<w->Sm ((b+13)*i+4) (P i):=fun hw i hi=>jG h hP N i (by exact oqz [i,N,_] [] [(.le Y2 Y1),(.le (Y0+1) Y2)] (.le Y0 Y1) [111] rfl hw hi) hN
 have n9:=h.n9
 refine ⟨h.l0,h.n1,by exact owk (by decide) n9,by exact owk (by decide) hN,k9,by exact oqz [k,(b+13)*N] [] [(.le (Y1+20) Y0)] (.le 8 Y0) [11] rfl hk,fun w hw=>(h.sl w).mono ?_,fun j hj=>(h.sc j hj).mono ?_,fun w hw=>(jG h hP N w hw hN).mono ?_,fun w m hw hm=>(rM h (by exact oqz [w,N] [] [(.le Y1 12),(.le Y0 Y1)] (.le Y0 12) [111] rfl hN hw) (ih hw) m hm).mono ?_,fun w m hw hm=>(so h (by exact oqz [w,N] [] [(.le Y1 12),(.le Y0 Y1)] (.le Y0 12) [111] rfl hN hw) hm (ih hw)).mono ?_⟩
 ·have:=mul hw;rw[Hc] at this;exact oqz [b*w,k,(b+13)*N,w] [] [(.le (Y2+20) Y1),(.le (.a Y0 (.m 13 Y3)) Y2)] (.le (Y0+1) Y1) [111] rfl hk this
 ·cases N with
  |zero=>exact absurd hN1 (by exact oqz [] [] [] (.no (.le 1 0)) [1] rfl)
  |succ N=>rw[Nat.mul_succ] at hk;exact oqz [b,k,(b+13)*N] [] [(.le (Y2+(Y0+13)+20) Y1)] (.le Y0 Y1) [11] rfl hk
 ·have:=mul hw;exact oqz [(b+13)*w,k,(b+13)*N] [] [(.le (Y2+20) Y1),(.le Y0 Y2)] (.le (Y0+4) Y1) [111] rfl hk this
 ·have zt1:=mul hw;have zt2:=Jm w n;exact oqz [(b+13)*w-8,(b+13)*w,m,k,N,(b+13)*N,w,min w n] [] [(.le Y4 12),(.le (Y5+20) Y3),(.le Y6 Y4),(.le Y2 Y7),(.le Y1 Y5),(.le Y7 Y6),(.an (.le Y1 (Y0+8)) (.le Y0 Y1))] (.le (Y0+Y2) Y3) [101111111] rfl hN hk hw hm zt1 zt2 (aV ((b+13)*w) (8))
 ·have:=mul hw;exact oqz [(b+13)*w-8,(b+13)*w,k,(b+13)*N] [] [(.le (Y3+20) Y2),(.le Y1 Y3),(.an (.le Y1 (Y0+8)) (.le Y0 Y1))] (.le Y0 Y2) [10111] rfl hk this (aV ((b+13)*w) (8))
end
theorem qw:∀n k:Nat,0<=bnm n k/\bnm n k<=2^n
 |n,0=>by rw[jV];exact ⟨by decide,Ho (by decide)⟩
 |0,k+1=>by rw[yZ];decide
 |n+1,k+1=>by
  have h1:=qw n k
  have h2:=qw n (k+1)
  rw[kM,Hr]
  exact oqz [] [bnm n k,bnm n (k+1),2^n] [(.an (.il 0 Y0) (.il Y0 Y2)),(.an (.il 0 Y1) (.il Y1 Y2))] (.an (.il 0 (Y0+Y1)) (.il (Y0+Y1) (.r Y2 2))) [1011,10101] rfl h1 h2
theorem wx(n k:Nat):Sm (n+1) (bnm n k):=by
 have h:=qw n k
 have e:((2^n:Nat):Int)=(2:Int)^n:=IF 2 n
 unfold Sm
 rw[I8]
 have:0<(2:Nat)^n:=I9 n
 exact oqz [(bnm n k).natAbs,2^n] [bnm n k,2^n] [(.an (.il 0 Y0) (.il Y0 Y1)),(.ie (.c Y1) Y1),(.le (0+1) Y1),(ona Y0 Y0)] (.le (Y0+1) (.r Y1 2)) [10110101,10200011] rfl h e this (bn (bnm n k))
section
variable {c1 c2 P1 P2:Nat->Int}{l1 l2:Int}{n1 n2 b1 b2:Nat}
theorem ut(h1:Bas c1 l1 n1 b1)(h2:Bas c2 l2 n2 b2){w j:Nat}(hj:j<=w)(s1:Sm ((b1+13)*j+4) (P1 j))(s2:Sm ((b2+13)*(w-j)+4) (P2 (w-j))):Sm ((b1+b2+14)*w+11) (bnm w j*(P1 j*P2 (w-j))*(l1^(w-j)*l2^j)):=by
 refine (((wx w j).mul (s1.mul s2)).mul ((h1.sl (w-j)).mul (h2.sl j))).mono ?_
 obtain ⟨d,rfl⟩:=Ik hj
 rw[Ib]
 grind
theorem rV(h1:Bas c1 l1 n1 b1)(h2:Bas c2 l2 n2 b2){w:Nat}(s1:∀j,j<=w->Sm ((b1+13)*j+4) (P1 j))(s2:∀j,j<=w->Sm ((b2+13)*j+4) (P2 j)):∀j,j<=w+1->Sm ((b1+b2+14)*w+11+j) (tS l1 l2 P1 P2 w j)
 |0,_=>Sm.zero
 |j+1,hj=>by rw[tSC];exact (rV h1 h2 s1 s2 j (HT hj)).add ((ut h1 h2 (Ip hj) (s1 j (by exact oqz [j,w] [] [(.le (Y0+1) (Y1+1))] (.le Y0 Y1) [11] rfl hj)) (s2 (w-j) (by exact oqz [w-j,w,j] [] [(.an (.le Y1 (Y0+Y2)) (.le Y0 Y1))] (.le Y0 Y1) [101] rfl (aV (w) (j))))).mono (Io _ _))
theorem s7(h1:Bas c1 l1 n1 b1)(h2:Bas c2 l2 n2 b2)(hP1:NwP c1 l1 n1 P1)(hP2:NwP c2 l2 n2 P2){k N:Nat}(hN:N<=12)(k9:k<=20000)(hk:(b1+b2+26)*N+24<=k):SzS l1 l2 P1 P2 k N:=by
 have s1:∀j,j<=N->Sm ((b1+13)*j+4) (P1 j):=fun j hj=>jG h1 hP1 N j hj hN
 have s2:∀j,j<=N->Sm ((b2+13)*j+4) (P2 j):=fun j hj=>jG h2 hP2 N j hj hN
 rw[Hc,Hc] at hk
 have m1:∀ {w},w<=N->b1*w<=b1*N:=fun hw=>Hu _ hw
 have m2:∀ {w},w<=N->b2*w<=b2*N:=fun hw=>Hu _ hw
 have k1:∀ {w},w<=N->b1*w+1<=k/\(b1+13)*w+4<=k:=fun hw=>by have:=m1 hw;rw[Hc];exact om [_,k,_,N,b1*N,b2*N] [] [(.le (.a (.a (Y4+Y5) (.m 26 Y3)) 24) Y1),(.le Y2 Y3),(.le Y0 Y4)] (.an (.le (Y0+1) Y1) (.le (.a (.a Y0 (.m 13 Y2)) 4) Y1)) [[1,1,13,1]] rfl hk hw this
 have k2:∀ {w},w<=N->b2*w+1<=k/\(b2+13)*w+4<=k:=fun hw=>by have:=m2 hw;rw[Hc];exact om [_,k,_,N,b1*N,b2*N] [] [(.le (.a (.a (Y4+Y5) (.m 26 Y3)) 24) Y1),(.le Y2 Y3),(.le Y0 Y5)] (.an (.le (Y0+1) Y1) (.le (.a (.a Y0 (.m 13 Y2)) 4) Y1)) [[1,1,13,1]] rfl hk hw this
 have k3:∀ {w j},w<=N->j<=w->(b1+13)*j+4+((b2+13)*(w-j)+4)<=k/\b1*j+1+(b2*(w-j)+1)<=k:=fun {w j} hw hj=>by
  have zt1:=m1 (GP hj hw);have zt2:=m2 (GP (Nat.sub_le w j) hw);rw[Hc,Hc];exact om [b1*j,j,b2*(w-j),w-j,w,k,N,b1*N,b2*N] [] [(.le (.a (.a (Y7+Y8) (.m 26 Y6)) 24) Y5),(.le Y4 Y6),(.le Y1 Y4),(.le Y0 Y7),(.le Y2 Y8),(.an (.le Y4 (Y3+Y1)) (.le Y3 Y4))] (.an (.le (.a (.a (.a Y0 (.m 13 Y1)) 4) (.a (.a Y2 (.m 13 Y3)) 4)) Y5) (.le (Y0+1+(Y2+1)) Y5)) [[1,1,26,13,1,1,0,13]] rfl hk hw hj zt1 zt2 (aV (w) (j))
 have k4:∀ {w},w<=N->(b1+b2+14)*w+11+w<=k/\b1*w+1+(b2*w+1)<=k:=fun hw=>by have zt1:=m1 hw;have zt2:=m2 hw;rw[Hc,Hc];exact om [_,_,_,k,N,b1*N,b2*N] [] [(.le (.a (.a (Y5+Y6) (.m 26 Y4)) 24) Y3),(.le Y2 Y4),(.le Y0 Y5),(.le Y1 Y6)] (.an (.le (.a (.a (.a (Y0+Y1) (.m 14 Y2)) 11) Y2) Y3) (.le (Y0+1+(Y1+1)) Y3)) [[1,1,15,1,1]] rfl hk hw zt1 zt2
 exact ⟨h1.l0,h2.l0,by exact owk (by decide) hN,k9,by exact oqz [k,N,b1*N,b2*N] [] [(.le (.a (.a (Y2+Y3) (.m 26 Y1)) 24) Y0)] (.le 8 Y0) [11] rfl hk,fun w hw=>⟨(h1.sl w).mono (k1 hw).1,(s1 w hw).mono (k1 hw).2⟩,fun w hw=>⟨(h2.sl w).mono (k2 hw).1,(s2 w hw).mono (k2 hw).2⟩,
  fun w j hw hj=>⟨(wx w j).mono (by exact oqz [w,k,N,b1*N,b2*N] [] [(.le (.a (.a (Y3+Y4) (.m 26 Y2)) 24) Y1),(.le Y0 Y2)] (.le (Y0+1) Y1) [111] rfl hk hw),((s1 j (GP hj hw)).mul (s2 (w-j) (GP (Nat.sub_le w j) hw))).mono (k3 hw hj).1,((h1.sl j).mul (h2.sl (w-j))).mono (k3 hw hj).2⟩,
  fun w hw=>by rw[Int.mul_pow];exact ((h1.sl w).mul (h2.sl w)).mono (k4 hw).2,
  fun w j hw hj=>(rV h1 h2 (fun i hi=>s1 i (GP hi hw)) (fun i hi=>s2 i (GP hi hw)) j (Nat.le_succ_of_le hj)).mono (GP (Ih hj _) (k4 hw).1),
  fun w j hw hj=>(ut h1 h2 hj (s1 j (GP hj hw)) (s2 (w-j) (GP (Nat.sub_le w j) hw))).mono (GP (Io _ _) (k4 hw).1)⟩
end
section
variable {L:Int}{S E:Nat->Int}{b N:Nat}
theorem By{n:Nat}(hn:n<=15):∀ {j:Nat},j<=n->Sm (4*j+1) (ds n j)
 |0,_=>Sm.one
 |j+1,hj=>by rw[dsC];exact ((By hn (HT hj)).mul (sm4 (x:=(n:Int)-j) (by exact oqz [n,j] [] [(.le (Y1+1) Y0)] (.il 0 (.s (.c Y0) (.c Y1))) [11] rfl hj) (by exact oqz [n,j] [] [(.le Y0 15)] (.il (.a (.s (.c Y0) (.c Y1)) 1) 16) [11] rfl hn))).mono (by exact oqz [j] [] [] (.le (.a (.a (.m 4 Y0) 1) 4) (.a (.m 4 (Y0+1)) 1)) [1] rfl)
theorem tQ:∀ {n:Nat},n<=15->Sm (4*n+1) (fk n)
 |0,_=>Sm.one
 |n+1,hn=>by rw[fkC];exact ((tQ (HT hn)).mul (sm4 (x:=(n:Int)+1) (by exact oqz [n] [] [] (.il 0 (.a (.c Y0) 1)) [1] rfl) (by exact oqz [n] [] [(.le (Y0+1) 15)] (.il (.a (.a (.c Y0) 1) 1) 16) [11] rfl hn))).mono (by exact oqz [n] [] [] (.le (.a (.a (.m 4 Y0) 1) 4) (.a (.m 4 (Y0+1)) 1)) [1] rfl)
theorem r8{w j:Nat}(hw:w<=12)(hj:j+1<=w)(hS:Sm ((b+26)*(j+1)+12) (S (j+1)))(hE:Sm ((b+51)*(w-(j+1))+1) (E (w-(j+1)))):Sm ((b+51)*w-11) (E (w-(j+1))*S (j+1)*ds (w-1) j):=by
 refine ((hE.mul hS).mul (By (n:=w-1) (by exact oqz [w-1,w] [] [(.le Y1 12),(.an (.le Y1 (Y0+1)) (.le Y0 Y1))] (.le Y0 15) [1011] rfl hw (aV (w) (1))) (j:=j) (by exact oqz [j,w-1,w] [] [(.le (Y0+1) Y2),(.an (.le Y2 (Y1+1)) (.le Y1 Y2))] (.le Y0 Y1) [111] rfl hj (aV (w) (1))))).mono ?_
 obtain ⟨d,rfl⟩:=Ik hj
 rw[Ib]
 have:(b+51)*(j+1+d)=(b+51)*d+(b+26)*(j+1)+25*j+25:=by grind
 exact oqz [(b+51)*d,(b+26)*(j+1),j,(b+51)*(j+1+d)-11,(b+51)*(j+1+d)] [] [(.eq Y4 (.a (.a (Y0+Y1) (.m 25 Y2)) 25)),(.an (.le Y4 (Y3+11)) (.le Y3 Y4))] (.le (.a (Y0+1+(Y1+12)) (.a (.m 4 Y2) 1)) Y3) [1101] rfl this (aV ((b+51)*(j+1+d)) (11))
theorem qV{w:Nat}(hw:w<=12)(hS:∀j,j<=w->Sm ((b+26)*j+12) (S j))(hE:∀i,i<w->Sm ((b+51)*i+1) (E i)):∀j,j<=w->Sm ((b+51)*w-11+j) (tE S E w j)
 |0,_=>Sm.zero
 |j+1,hj=>by rw[tEC];exact (qV hw hS hE j (HT hj)).add ((r8 hw hj (hS _ hj) (hE _ (by exact oqz [w-(j+1),w,j] [] [(.le (Y2+1) Y1),(osb Y1 (Y2+1) Y0)] (.le (Y0+1) Y1) [10001,1011] rfl hj (am (w) (j+1))))).sgI.mono (Io _ _))
theorem FP(hE:NwE S E)(hS:∀j,j<=N->Sm ((b+26)*j+12) (S j))(hN:N<=12):∀ (M w:Nat),M<=N->w<=M->Sm ((b+51)*w+1) (E w):=by
 intro M
 induction M with
 |zero=>intro w _ hw;rw[JW.mp hw,hE.e0,Nat.mul_zero];exact Sm.one
 |succ M ih =>
  intro w hM hw
  cases w with
  |zero=>rw[hE.e0,Nat.mul_zero];exact Sm.one
  |succ v =>
   rw[hE.es]
   refine (qV (w:=v+1) (by exact oqz [v,N,M] [] [(.le Y1 12),(.le (Y2+1) Y1),(.le (Y0+1) (Y2+1))] (.le (Y0+1) 12) [1111] rfl hN hM hw) (fun j hj=>hS j (by exact oqz [j,N,M,v] [] [(.le (Y2+1) Y1),(.le (Y3+1) (Y2+1)),(.le Y0 (Y3+1))] (.le Y0 Y1) [1111] rfl hM hw hj)) (fun i hi=>ih i (by exact oqz [M,N] [] [(.le (Y0+1) Y1)] (.le Y0 Y1) [11] rfl hM) (by exact oqz [i,M,v] [] [(.le (Y2+1) (Y1+1)),(.le (Y0+1) (Y2+1))] (.le Y0 Y1) [111] rfl hw hi)) _ (GU _)).mono ?_
   have:51<=(b+51)*(v+1):=by rw[Nat.mul_succ];exact oqz [(b+51)*v,b] [] [] (.le 51 (Y0+(Y1+51))) [1] rfl
   exact oqz [(b+51)*(v+1)-11,(b+51)*(v+1),v,N,M] [] [(.le Y3 12),(.le (Y4+1) Y3),(.le (Y2+1) (Y4+1)),(.le 51 Y1),(osb Y1 11 Y0)] (.le (Y0+(Y2+1)) (Y1+1)) [10001111,110000] rfl hN hM hw this (am ((b+51)*(v+1)) (11))
theorem zJ(l0:0<L)(sL:Sm b L)(hE:NwE S E)(hS:∀j,j<=N->Sm ((b+26)*j+12) (S j)){k:Nat}(hN:N<=12)(k9:k<=20000)(hk:(b+51)*N+24<=k):SzE L S E k N/\(∀i,i<=N->Sm ((b+51)*N+1) (E i))/\Sm ((b+4)*N+2) (fk N*L^N):=by
 have sE:∀i,i<=N->Sm ((b+51)*i+1) (E i):=fun i hi=>FP hE hS hN N i (GU _) hi
 have mul:∀ {w},w<=N->b*w<=b*N:=fun hw=>Hu _ hw
 have mu:∀ {w},w<=N->(b+51)*w<=(b+51)*N:=fun hw=>Hu _ hw
 have e51:(b+51)*N=b*N+51*N:=Hc ..
 have sl:∀w,Sm (b*w+1) (L^w):=fun w=>sL.pow w
 have k1:∀ {w},w<=N->b*w+1<=k/\4*w+1+(b*w+1)<=k:=fun hw=>by have:=mul hw;exact oqz [_,k,_,N,(b+51)*N,b*N] [] [(.le (Y4+24) Y1),(.eq Y4 (.a Y5 (.m 51 Y3))),(.le Y2 Y3),(.le Y0 Y5)] (.an (.le (Y0+1) Y1) (.le (.a (.a (.m 4 Y2) 1) (Y0+1)) Y1)) [141011] rfl hk e51 hw this
 have k2:∀ {w},w+1<=N->4*w+1+(b*(w+1)+1)<=k:=fun hw=>by have:=mul hw;exact oqz [_,_,k,N,(b+51)*N,b*N] [] [(.le (Y4+24) Y2),(.eq Y4 (.a Y5 (.m 51 Y3))),(.le (Y0+1) Y3),(.le Y1 Y5)] (.le (.a (.a (.m 4 Y0) 1) (Y1+1)) Y2) [141011] rfl hk e51 hw this
 have k3:∀ {w j},w<=N->j<=w->(b+51)*w-11+j<=k:=fun hw hj=>GP (Nat.add_le_add (GP (Nat.sub_le _ _) (mu hw)) (GP hj (GP hw hN))) (GP (Ih (show 12<=24 by decide) _) hk)
 refine ⟨⟨l0,by exact owk (by decide) hN,k9,by exact oqz [k,(b+51)*N] [] [(.le (Y1+24) Y0)] (.le 8 Y0) [11] rfl hk,fun w hw=>(sl w).mono (k1 hw).1,fun w hw=>((tQ (by exact oqz [w,N] [] [(.le Y1 12),(.le Y0 Y1)] (.le Y0 15) [111] rfl hN hw)).mul (sl w)).mono (k1 hw).2,fun w hw=>((tQ (by exact oqz [w,N] [] [(.le Y1 12),(.le (Y0+1) Y1)] (.le Y0 15) [111] rfl hN hw)).mul (sl (w+1))).mono (k2 hw),fun w hw=>(hS w hw).mono ?_,fun w hw=>(sE w hw).mono ?_,
  fun w j hw hj=>(qV (by exact oqz [w,N] [] [(.le Y1 12),(.le Y0 Y1)] (.le Y0 12) [111] rfl hN hw) (fun i hi=>hS i (GP hi hw)) (fun i hi=>sE i (by exact oqz [i,N,w] [] [(.le Y2 Y1),(.le (Y0+1) Y2)] (.le Y0 Y1) [111] rfl hw hi)) j hj).mono (k3 hw hj),fun w j hw hj=>(r8 (by exact oqz [w,N] [] [(.le Y1 12),(.le Y0 Y1)] (.le Y0 12) [111] rfl hN hw) hj (hS _ (by exact oqz [j,N,w] [] [(.le Y2 Y1),(.le (Y0+1) Y2)] (.le (Y0+1) Y1) [111] rfl hw hj)) (sE _ (by exact oqz [w-(j+1),w,j,N] [] [(.le Y1 Y3),(.an (.le Y1 (Y0+(Y2+1))) (.le Y0 Y1))] (.le Y0 Y3) [1011] rfl hw (aV (w) (j+1))))).mono (k3 hw (Hl _))⟩,fun i hi=>(sE i hi).mono (Nat.add_le_add_right (mu hi) 1),((tQ (by exact owk (by decide) hN)).mul (sl N)).mono (by rw[Hc];exact oqz [N,b*N] [] [] (.le (.a (.a (.m 4 Y0) 1) (Y1+1)) (.a (.a Y1 (.m 4 Y0)) 2)) [1] rfl)⟩
 ·have:=mul hw;rw[Hc];exact om [b*w,w,k,N,(b+51)*N,b*N] [] [(.le (Y4+24) Y2),(.eq Y4 (.a Y5 (.m 51 Y3))),(.le Y1 Y3),(.le Y0 Y5)] (.le (.a (.a Y0 (.m 26 Y1)) 12) Y2) [[1,1,0,1,26,1]] rfl hk e51 hw this
 ·have:=mu hw;exact oqz [(b+51)*w,k,(b+51)*N] [] [(.le (Y2+24) Y1),(.le Y0 Y2)] (.le (Y0+1) Y1) [111] rfl hk this
end
section
variable {S:Type}[Lean.Grind.CommRing S]
noncomputable def TF(S:Type)[Lean.Grind.CommRing S]:Prop:=∀ (n:Int) (x y:S),n≠0->zS n*x=zS n*y->x=y
theorem gX(a:Int):∀n:Nat,zS (S:=S) (a^n)=zS a^n
 |0=>by rw[HH,GT,zS1]
 |n+1=>by rw[Hr,GQ,ci,gX a n]
theorem pS0:∀xs:List S,pS xs 0=zS (xs.length:Int)
 | []=>by rw[pSN];exact zS0.symm
 |x::r=>by rw[pSC,pS0 r,GT,List.length_cons,show ((r.length+1:Nat):Int)=(r.length:Int)+1 from rfl,fM,zS1];grind
structure RtS (c:Nat->Int)(l:Int)(n:Nat)(xs:List S):Prop where
 ln:xs.length=n
 ec:∀j,j<=n->zS (c j)=zS l*eS xs j
theorem im(a:S){i j:Nat}(h:i<=j):a^j=a^(j-i)*a^i:=by
 rw[<- Lean.Grind.Semiring.pow_add,JE h]
theorem FQ{c:Nat->Int}{l:Int}{n:Nat}{xs:List S}{P:Nat->Int}(h:RtS c l n xs){w:Nat}(ih:∀i,i<w+1->zS l^i*pS xs i=zS (P i)):∀m,m<=min (w+1) n->zS (tP c l P (w+1) m)=zS l^(w+1)*bN (fun j=>eS xs (j+1)*(if j+1=w+1 then zS ((w:Int)+1) else pS xs (w+1-(j+1)))) m
 |0,_=>by rw[Fh,bZ,zS0];grind
 |m+1,hm=>by
  have m1:m+1<=w+1:=GP hm (Jm _ _)
  have hc:=h.ec (m+1) (GP hm (JR _ _))
  rw[oL,fM,FQ h ih m (HT hm),aT]
  have e1:=im (zS (S:=S) l) m1
  have e2:=GQ (zS (S:=S) l) m
  by_cases g:m+1=w+1
  ·rw[if_pos g,if_pos g,<- g,ci,ci,hc,gX,e2,show ((m+1:Nat):Int)=(m:Int)+1 from rfl,show m=w from Ix g]
   grind
  ·rw[if_neg g,if_neg g,ci,ci,hc,<- ih (w+1-(m+1)) (by exact oqz [w+1-(m+1),w,m] [] [(osb (Y1+1) (Y2+1) Y0)] (.le (Y0+1) (Y1+1)) [1001,101] rfl (am (w+1) (m+1))),gX,e1,e2]
   grind
theorem nX(f:Nat->S):∀n:Nat,bN f (n+1)=bN (fun j=>f (n-j)) (n+1)
 |0=>rfl
 |n+1=>by
  rw[aT,nX f n,jy (fun j=>f (n+1-j)),Nat.sub_zero]
  rw[show (fun j=>f (n+1-(j+1)))=fun j=>f (n-j) from funext fun j=>by rw[I3]]
  grind
theorem pI(xs:List S)(g:Nat->S):∀d:Nat,bN (fun j=>eS xs (j+1)*g j) (xs.length+d)=bN (fun j=>eS xs (j+1)*g j) xs.length
 |0=>rfl
 |d+1=>by rw[<- Ig,aT,pI xs g d,iO xs (xs.length+d+1) (by exact oqz [xs.length,d] [] [] (.le (Y0+1) (Y0+Y1+1)) [1] rfl)];grind
theorem AR{c:Nat->Int}{l:Int}{n:Nat}{xs:List S}{P:Nat->Int}(h:RtS c l n xs)(hP:NwP c l n P):∀ (N w:Nat),w<=N->zS l^w*pS xs w=zS (P w):=by
 intro N
 induction N with
 |zero=>intro w hw;rw[JW.mp hw,hP.p0,pS0,h.ln,GT];grind
 |succ N ih =>
  intro w hw
  cases w with
  |zero=>exact ih 0 (Hl _)
  |succ v =>
   have k:=FQ h (w:=v) (fun i hi=>ih i (by exact oqz [i,N,v] [] [(.le (Y2+1) (Y1+1)),(.le (Y0+1) (Y2+1))] (.le Y0 Y1) [111] rfl hw hi)) (min (v+1) n) (GU _)
   have nw:=ky xs v
   rw[jy,eS0,Nat.sub_zero] at nw
   have e:bN (fun j=>eS xs (j+1)*(if j+1=v+1 then zS ((v:Int)+1) else pS xs (v+1-(j+1)))) (min (v+1) n)=bN (fun j=>eS xs (j+1)*pS xs (v+1-(j+1))) v+zS ((v:Int)+1)*eS xs (v+1):=by
    have full:bN (fun j=>eS xs (j+1)*(if j+1=v+1 then zS ((v:Int)+1) else pS xs (v+1-(j+1)))) (v+1)=bN (fun j=>eS xs (j+1)*pS xs (v+1-(j+1))) v+zS ((v:Int)+1)*eS xs (v+1):=by
     rw[aT,if_pos rfl,bP (g:=fun j=>eS xs (j+1)*pS xs (v+1-(j+1))) fun j hj=>by rw[if_neg (by exact oqz [j,v] [] [(.le (Y0+1) Y1)] (.no (.eq (Y0+1) (Y1+1))) [110] rfl hj)]];grind
    rw[<- full]
    rcases Jz (v+1) n with g|g
    ·rw[Jl g]
    ·rw[Je g]
     obtain ⟨d,hd⟩:=Ik g
     have o:=pI xs (fun j=>if j+1=v+1 then zS ((v:Int)+1) else pS xs (v+1-(j+1))) d
     rw[h.ln,<- hd] at o
     exact o.symm
   rw[hP.ps,jn,k,e]
   grind
theorem zE(j:Nat)(x y:Int):sgI j (x+y)=sgI j x+sgI j y:=by
 unfold sgI;split
 ·exact Int.neg_add
 ·rfl
theorem zY(j:Nat)(x:Int):sgI j (-x)=-sgI j x:=by
 unfold sgI;split <;> rfl
theorem li(v:Nat)(x:Int):sgI (v+1) x=-sgI v x:=by
 unfold sgI
 rcases Nat.mod_two_eq_zero_or_one v with a|a
 ·rw[if_pos (show (v+1) % 2=1 by rw[Nat.add_mod,a]),if_neg (fun h=>Nat.zero_ne_one (a.symm.trans h))]
 ·rw[if_neg (fun h=>Nat.zero_ne_one ((show (v+1) % 2=0 by rw[Nat.add_mod,a]).symm.trans h)),if_pos a,Int.neg_neg]
theorem wK(d:Nat)(x:Int):∀m:Nat,sgI (m+d) (sgI m x)=sgI d x
 |0=>by rw[Ie];rfl
 |m+1=>by rw[Nat.succ_add,li,li,zY,Int.neg_neg,wK d x m]
theorem Af{w m:Nat}(h:m<=w)(x:Int):sgI w (sgI m x)=sgI (w-m) x:=by
 have:=wK (w-m) x m
 rwa [Nat.add_sub_cancel' h] at this
theorem F5{L:Int}{s E:Nat->Int}{zs:List S}{w:Nat}(hs:∀j,j<=w+1->zS L^j*pS zs j=zS (s j))(ih:∀i,i<w+1->zS (sgI i (E i))=zS (fk i)*(zS L^i*eS zs i)) :
  ∀m,m<=w+1->zS (sgI w (tE s E (w+1) m))=zS (fk w)*(zS L^(w+1)*bN (fun j=>eS zs (w-j)*pS zs (j+1)) m)
 |0,_=>by rw[bZ,show sgI w (tE s E (w+1) 0)=0 by unfold sgI;split <;> rfl,zS0];grind
 |m+1,hm=>by
  have h1:=F5 hs ih m (HT hm)
  have h2:=ih (w+1-(m+1)) (by exact oqz [w+1-(m+1),w,m] [] [(osb (Y1+1) (Y2+1) Y0)] (.le (Y0+1) (Y1+1)) [1001,101] rfl (am (w+1) (m+1)))
  have h3:=hs (m+1) hm
  have e1:=im (zS (S:=S) L) hm
  have e2:=yc w m (by exact oqz [m,w] [] [(.le (Y0+1) (Y1+1))] (.le Y0 Y1) [11] rfl hm)
  rw[tEC,aT]
  have e3:sgI w (tE s E (w+1) m+sgI m (E (w+1-(m+1))*s (m+1)*ds (w+1-1) m))=sgI w (tE s E (w+1) m)+sgI (w+1-(m+1)) (E (w+1-(m+1)))*(s (m+1)*ds w m):=by
   rw[Nat.add_sub_cancel,I3,zE,Af (Ip hm),HJ,iW]
  rw[e3,fM,h1,ci,h2,ci,<- h3,e1,<- e2,ci,show w+1-(m+1)=w-m by exact oqz [w+1-(m+1),w,m,w-m] [] [(osb (Y1+1) (Y2+1) Y0),(osb Y1 Y2 Y3)] (.eq Y0 Y3) [1000101,100001,1000011,101001,11001,101] rfl (am (w+1) (m+1)) (am (w) (m))]
  grind
theorem Gz{L:Int}{s E:Nat->Int}{zs:List S}(tf:TF S)(hE:NwE s E){M:Nat}(hs:∀j,j<=M->zS L^j*pS zs j=zS (s j)):∀ (N w:Nat),N<=M->w<=N->zS (sgI w (E w))=zS (fk w)*(zS L^w*eS zs w):=by
 intro N
 induction N with
 |zero=>intro w _ hw;rw[JW.mp hw,hE.e0,eS0,GT];show zS 1=zS 1*_;rw[zS1];grind
 |succ N ih =>
  intro w hM hw
  cases w with
  |zero=>exact ih 0 (by exact oqz [N,M] [] [(.le (Y0+1) Y1)] (.le Y0 Y1) [11] rfl hM) (Hl _)
  |succ v =>
   have k:=F5 (w:=v) (fun j hj=>hs j (by exact oqz [j,M,N,v] [] [(.le (Y2+1) Y1),(.le (Y3+1) (Y2+1)),(.le Y0 (Y3+1))] (.le Y0 Y1) [1111] rfl hM hw hj)) (fun i hi=>ih i (by exact oqz [N,M] [] [(.le (Y0+1) Y1)] (.le Y0 Y1) [11] rfl hM) (by exact oqz [i,N,v] [] [(.le (Y2+1) (Y1+1)),(.le (Y0+1) (Y2+1))] (.le Y0 Y1) [111] rfl hw hi)) (v+1) (GU _)
   rw[<- hE.es] at k
   have e1:zS (S:=S) (sgI (v+1) (E (v+1)))=-zS (sgI v (E (v+1))):=by rw[li,jn]
   have nw:=ky zs v
   have e2:bN (fun j=>eS zs (v-j)*pS zs (j+1)) (v+1)=bN (fun j=>eS zs j*pS zs (v+1-j)) (v+1):=by
    rw[nX]
    exact bP fun j hj=>by rw[show v-(v-j)=j by exact oqz [v-(v-j),v,v-j,j] [] [(.le (Y3+1) (Y1+1)),(osb Y1 Y3 Y2),(osb Y1 Y2 Y0)] (.eq Y0 Y3) [1010001,110001,1001011,101011,10001001,1000001,10000101] rfl hj (am (v) (j)) (am (v) (v-j)),show v-j+1=v+1-j by exact oqz [v-j,v,j,v+1-j] [] [(.le (Y2+1) (Y1+1)),(osb Y1 Y2 Y0),(osb (Y1+1) Y2 Y3)] (.eq (Y0+1) Y3) [10001001,10000101,1010001,100010,1001011] rfl hj (am (v) (j)) (am (v+1) (j))]
   rw[e1,k,e2,fkC,ci]
   grind
theorem FE{L:Int}{E:Nat->Int}{zs:List S}{s:Int}{i:Nat}{u:Int}(tf:TF S)(l0:L≠0)(h:RwU L E s i u)(hE:zS (sgI i (E i))=zS (fk i)*(zS L^i*eS zs i)):zS u=zS s*eS zs i:=by
 have e:=congrArg (zS (S:=S)) h
 rw[ci,ci,ci,gX,hE] at e
 refine tf (fk i*L^i) _ _ (HF (GY (fN i)) (Int.pow_ne_zero l0)) ?_
 rw[ci,gX]
 grind
noncomputable def evS:List Int->S->S
 | [],_=>0
 |c::r,t=>zS c+t*evS r t
theorem AB(c:Int)(r:List Int)(t:S):evS (c::r) t=zS c+t*evS r t:=rfl
theorem uv(t:S):∀xs:List Int,evS xs t=bN (fun k=>zS (xs.getD k 0)*t^k) xs.length
 | []=>rfl
 |c::r=>by
  rw[AB,List.length_cons,jy,Jd,uv t r,<- fL,GT]
  rw[bP (f:=fun k=>zS ((c::r).getD (k+1) 0)*t^(k+1)) (g:=fun k=>t*(zS (r.getD k 0)*t^k)) fun j _=>by rw[JC,GQ];grind]
  grind
noncomputable def me:List S->S->S
 | [],_=>1
 |x::r,t=>(t-x)*me r t
theorem vG(x:S)(r:List S)(t:S):me (x::r) t=(t-x)*me r t:=rfl
theorem ur(t:S):∀zs:List S,bN (fun i=>eS zs i*t^(zs.length-i)) (zs.length+1)=me zs t
 | []=>by rw[List.length_nil,aT,bZ,eS0,Nat.sub_self,GT];show _=(1:S);grind
 |x::r=>by
  have ih:=ur t r
  rw[List.length_cons,nE x r (fun i=>t^(r.length+1-i)),aT,iO r (r.length+1) (Ia _)]
  rw[bP (f:=fun j=>eS r j*t^(r.length+1-j)) (g:=fun j=>t*(eS r j*t^(r.length-j))) fun j hj=>by rw[Nat.sub_add_comm (IB hj),GQ];grind]
  rw[bP (f:=fun j=>eS r j*t^(r.length+1-(j+1))) (g:=fun j=>eS r j*t^(r.length-j)) fun j hj=>by rw[I3]]
  rw[fL,ih,vG];grind
theorem zZ{xs:List Int}{zs:List S}{s:Int}(ln:xs.length=zs.length+1)(h:∀i,i<=zs.length->∃u,xs[zs.length-i]?=some u/\zS u=zS s*eS zs i)(t:S):evS xs t=zS s*me zs t:=by
 rw[uv,ln,nX,<- ur,<- fL]
 refine bP fun j hj=>?_
 refine ae (h j (IB hj)) fun u hu e=>?_
 rw[G7,hu,Option.getD_some,e];grind
theorem qi{t:S}:∀ {zs:List S},t∈zs->me zs t=0
 |x::r,h=>by
  rw[vG]
  rcases Hf.mp h with g|g
  ·rw[g];grind
  ·rw[qi g];grind
end
section
variable {S:Type}[Lean.Grind.CommRing S]
theorem yS{x y:S}{xs ys:List S}(hx:x∈xs)(hy:y∈ys):x+y∈wJ xs ys:=List.mem_flatMap.mpr ⟨x,hx,Hq.mpr ⟨y,hy,rfl⟩⟩
theorem we{x y:S}{xs ys:List S}(hx:x∈xs)(hy:y∈ys):x*y∈yA xs ys:=List.mem_flatMap.mpr ⟨x,hx,Hq.mpr ⟨y,hy,rfl⟩⟩
theorem oc(f:S->S->S)(ys:List S):∀xs:List S,(xs.flatMap fun x=>ys.map (f x)).length=xs.length*ys.length
 | []=>(Nat.zero_mul _).symm
 |x::xs=>by rw[List.flatMap_cons,GR,oc f ys xs,GO,List.length_cons,IX,Id]
variable {c1 c2 P1 P2 E:Nat->Int}{l1 l2 s:Int}{n1 n2 k:Nat}{xs ys:List S}{F:List Int}
theorem EZ(h1:RtS c1 l1 n1 xs)(h2:RtS c2 l2 n2 ys)(hP1:NwP c1 l1 n1 P1)(hP2:NwP c2 l2 n2 P2)(w:Nat):∀m,m<=w+1->zS (tS l1 l2 P1 P2 w m)=zS (l1*l2)^w*bN (fun j=>zS (bnm w j)*(pS xs j*pS ys (w-j))) m
 |0,_=>by rw[bZ];show zS 0=_;rw[zS0];grind
 |m+1,hm=>by
  have hm':=Ip hm
  rw[tSC,fM,EZ h1 h2 hP1 hP2 w m (HT hm),aT]
  have e1:=im (zS (S:=S) l1) hm'
  have e2:=im (zS (S:=S) l2) hm'
  have e3:zS (S:=S) (l1*l2)^w=zS l1^w*zS l2^w:=by rw[ci,I5]
  rw[e3,ci,ci,ci,ci,gX,gX,<- AR h1 hP1 w m hm',<- AR h2 hP2 w (w-m) (Nat.sub_le w m),e1,e2]
  grind
theorem oA{L:Int}{s':Nat->Int}{zs:List S}{x:S}(tf:TF S)(l0:L≠0)(hE:NwE s' E)(hs:∀j,zS L^j*pS zs j=zS (s' j))(hF:RwL L E s k zs.length 0 F)(hx:x∈zs):evS F x=0:=by
 rw[zZ (s:=s) hF.1 (fun i hi=>?_) x,qi hx]
 ·grind
 ·refine ae (hF.2.2 i hi (Hl _)) fun u hu e=>?_
  exact ⟨u,hu,FE tf l0 e (Gz tf hE (M:=i) (fun j _=>hs j) i i (GU _) (GU _))⟩
theorem yv{x y:S}(tf:TF S)(l10:0<l1)(l20:0<l2)(h1:RtS c1 l1 n1 xs)(h2:RtS c2 l2 n2 ys)(hP1:NwP c1 l1 n1 P1)(hP2:NwP c2 l2 n2 P2)(hE:NwE (fun w=>tS l1 l2 P1 P2 w (w+1)) E)(hF:RwL (l1*l2) E s k (n1*n2) 0 F)(hx:x∈xs)(hy:y∈ys):evS F (x+y)=0:=by
 refine oA (s:=s) (k:=k) (zs:=wJ xs ys) tf (GY (Hb l10 l20)) hE (fun j=>?_) ?_ (yS hx hy)
 ·rw[tR,EZ h1 h2 hP1 hP2 j (j+1) (GU _)]
 ·unfold wJ;rw[oc,h1.ln,h2.ln];exact hF
theorem wf{x y:S}(tf:TF S)(l10:0<l1)(l20:0<l2)(h1:RtS c1 l1 n1 xs)(h2:RtS c2 l2 n2 ys)(hP1:NwP c1 l1 n1 P1)(hP2:NwP c2 l2 n2 P2)(hE:NwE (fun w=>P1 w*P2 w) E)(hF:RwL (l1*l2) E s k (n1*n2) 0 F)(hx:x∈xs)(hy:y∈ys):evS F (x*y)=0:=by
 refine oA (s:=s) (k:=k) (zs:=yA xs ys) tf (GY (Hb l10 l20)) hE (fun j=>?_) ?_ (we hx hy)
 ·rw[s6,ci,ci,I5,<- AR h1 hP1 j j (GU _),<- AR h2 hP2 j j (GU _)];grind
 ·unfold yA;rw[oc,h1.ln,h2.ln];exact hF
end
section
variable {R:Type}[Lean.Grind.CommRing R]
noncomputable def act:List R->(Nat->R)->Nat->R
 | [],_,_=>0
 |c::p,u,k=>c*u k+act p u (k+1)
theorem Gh(u:Nat->R)(k:Nat):act [] u k=0:=rfl
theorem ft(c:R)(p:List R)(u:Nat->R)(k:Nat):act (c::p) u k=c*u k+act p u (k+1):=rfl
noncomputable def iF:List R->List R->List R
 | [],q=>q
 |a::p,[]=>a::p
 |a::p,b::q=>(a+b)::iF p q
noncomputable def uO:List R->List R->List R
 | [],_=>[]
 |c::p,q=>iF (q.map (c*·)) (0::uO p q)
theorem bK(u:Nat->R):∀ (p q:List R) (k:Nat),act (iF p q) u k=act p u k+act q u k
 | [],q,k=>by show act q u k=0+act q u k;grind
 |a::p,[],k=>by show act (a::p) u k=act (a::p) u k+0;grind
 |a::p,b::q,k=>by show (a+b)*u k+act (iF p q) u (k+1)=_;rw[bK u p q (k+1),ft,ft];grind
theorem fT(c:R)(u:Nat->R):∀ (p:List R) (k:Nat),act (p.map (c*·)) u k=c*act p u k
 | [],k=>by show (0:R)=c*0;grind
 |a::p,k=>by rw[G1,ft,ft,fT c u p (k+1)];grind
theorem aY(q:List R)(u:Nat->R):∀ (p:List R) (k:Nat),act (uO p q) u k=act p (act q u) k
 | [],k=>rfl
 |c::p,k=>by show act (iF (q.map (c*·)) (0::uO p q)) u k=_;rw[bK,fT,ft,ft,aY q u p (k+1)];grind
theorem ik(c:R)(u v:Nat->R):∀ (p:List R) (k:Nat),act p (fun k=>c*u k+v k) k=c*act p u k+act p v k
 | [],k=>by show (0:R)=c*0+0;grind
 |a::p,k=>by rw[ft,ft,ft,ik c u v p (k+1)];grind
theorem vQ(u:Nat->R):∀ (p:List R) (k:Nat),act p (fun k=>u (k+1)) k=act p u (k+1)
 | [],k=>rfl
 |a::p,k=>by rw[ft,ft,vQ u p (k+1)]
theorem iA(q:List R)(u:Nat->R):∀ (p:List R) (k:Nat),act p (act q u) k=act q (act p u) k
 | [],k=>by
  have:act ([]:List R) u=fun k=>0*u k+(fun _=>(0:R)) k:=funext fun k=>by show (0:R)=0*u k+0;grind
  have z:∀ (q:List R) (k:Nat),act q (fun _=>(0:R)) k=0:=fun q=>by
   induction q with
   |nil=>intro k;rfl
   |cons c q ih=>intro k;rw[ft,ih];grind
  rw[this,ik,z];show (0:R)=_;grind
 |c::p,k=>by
  rw[ft,iA q u p (k+1),show act (c::p) u=fun k=>c*u k+(fun k=>act p u (k+1)) k from rfl,ik,vQ (act p u)]
noncomputable def VV(f:List R)(u:Nat->R):Prop:=∀k,act f u k=0
theorem VV.act{f:List R}{u:Nat->R}(h:VV f u)(p:List R):VV f (Mine.act p u):=fun k=>by
 rw[iA,show Mine.act f u=fun k=>0*u k+(fun _=>(0:R)) k from funext fun k=>by rw[h k];grind,ik]
 have z:∀ (q:List R) (k:Nat),Mine.act q (fun _=>(0:R)) k=0:=fun q=>by
  induction q with
  |nil=>intro k;rfl
  |cons c q ih=>intro k;rw[ft,ih];grind
 rw[z];grind
noncomputable def exS(f:List R):Setoid (List R):=⟨fun p q=>∀u,VV f u->∀k,act p u k=act q u k,fun _ _ _ _=>rfl,fun h u hu k=>(h u hu k).symm,fun h g u hu k=>(h u hu k).trans (g u hu k)⟩
noncomputable def Ext(f:List R):Type:=Quotient (exS f)
variable {f:List R}
noncomputable def exk(f p:List R):Ext f:=Quotient.mk (exS f) p
theorem cC{p q:List R}(h:∀u,VV f u->∀k,act p u k=act q u k):exk f p=exk f q:=JN (s:=exS f) h
theorem bH{P:Ext f->Prop}(h:∀p,P (exk f p)):∀x,P x:=Quotient.ind h
noncomputable def BN:Ext f->Ext f->Ext f:=Quotient.lift₂ (fun p q=>exk f (iF p q)) fun p q p' q' h g=>cC fun u hu k=>by rw[bK,bK,h u hu k,g u hu k]
noncomputable def sf:Ext f->Ext f->Ext f:=Quotient.lift₂ (fun p q=>exk f (uO p q)) fun p q p' q' h g=>cC fun u hu k=>by
 rw[aY,aY,show act q u=act q' u from funext (g u hu)]
 exact h _ (hu.act q') k
noncomputable def BJ:Ext f->Ext f:=Quotient.lift (fun p=>exk f (p.map (-1*·))) fun p q h=>cC fun u hu k=>by rw[fT,fT,h u hu k]
noncomputable def BO(x:Ext f):Nat->Ext f
 |0=>exk f [1]
 |n+1=>sf (BO x n) x
theorem c8(c:R)(u:Nat->R)(k:Nat):act [c] u k=c*u k:=by rw[ft,Gh];grind
noncomputable abbrev i6 (f:List R):Lean.Grind.CommRing (Ext f) where
  add:=BN
  mul:=sf
  neg:=BJ
  sub:=fun x y=>BN x (BJ y)
  natCast:=⟨fun n=>exk f [OfNat.ofNat n]⟩
  ofNat:=fun n=>⟨exk f [OfNat.ofNat n]⟩
  nsmul:=⟨fun n x=>sf (exk f [OfNat.ofNat n]) x⟩
  npow:=⟨BO⟩
  intCast:=⟨fun n=>exk f [zS n]⟩
  zsmul:=⟨fun n x=>sf (exk f [zS n]) x⟩
  add_zero:=bH fun p=>cC fun u _ k=>by rw[bK,c8];grind
  add_comm:=bH fun p=>bH fun q=>cC fun u _ k=>by rw[bK,bK];grind
  add_assoc:=bH fun p=>bH fun q=>bH fun r=>cC fun u _ k=>by rw[bK,bK,bK,bK];grind
  mul_assoc:=bH fun p=>bH fun q=>bH fun r=>cC fun u _ k=>by
   rw[aY,aY,aY];congr 1;exact funext fun k=>(aY r u q k).symm
  mul_one:=bH fun p=>cC fun u _ k=>by rw[aY,show act [(1:R)] u=u from funext fun k=>by rw[c8];grind]
  one_mul:=bH fun p=>cC fun u _ k=>by rw[aY,c8];grind
  left_distrib:=bH fun p=>bH fun q=>bH fun r=>cC fun u _ k=>by
   rw[aY,bK,aY,aY,show act (iF q r) u=fun k=>1*act q u k+act r u k from funext fun k=>by rw[bK];grind,ik];grind
  right_distrib:=bH fun p=>bH fun q=>bH fun r=>cC fun u _ k=>by rw[aY,bK,bK,aY,aY]
  zero_mul:=bH fun p=>cC fun u _ k=>by rw[aY,c8,c8];grind
  mul_zero:=bH fun p=>cC fun u _ k=>by rw[aY,iA,c8,c8];grind
  mul_comm:=bH fun p=>bH fun q=>cC fun u _ k=>by rw[aY,aY,iA]
  pow_zero:=fun _=>rfl
  pow_succ:=fun _ _=>rfl
  ofNat_succ:=fun n=>cC fun u _ k=>by rw[bK,c8,c8,c8,Lean.Grind.Semiring.ofNat_succ];grind
  ofNat_eq_natCast:=fun _=>rfl
  nsmul_eq_natCast_mul:=fun _ _=>rfl
  neg_add_cancel:=bH fun p=>cC fun u _ k=>by rw[bK,fT,c8];grind
  sub_eq_add_neg:=fun _ _=>rfl
  neg_zsmul:=fun i=>bH fun p=>cC fun u _ k=>by rw[aY,fT,aY,c8,c8,jn];grind
  zsmul_natCast_eq_nsmul:=fun n=>bH fun p=>cC fun u _ k=>by rw[aY,aY,c8,c8];congr 1;exact Lean.Grind.Ring.intCast_ofNat n
  intCast_ofNat:=fun n=>cC fun u _ k=>by rw[c8,c8];congr 1;exact Lean.Grind.Ring.intCast_ofNat n
  intCast_neg:=fun i=>cC fun u _ k=>by rw[fT,c8,c8,jn];grind
end
structure Hm {R S:Type}[Lean.Grind.CommRing R][Lean.Grind.CommRing S](ι:R->S):Prop where
 add:∀x y,ι (x+y)=ι x+ι y
 mul:∀x y,ι (x*y)=ι x*ι y
 one:ι 1=1
 inj:∀x,ι x=0->x=0
section
variable {R S T:Type}[Lean.Grind.CommRing R][Lean.Grind.CommRing S][Lean.Grind.CommRing T]{ι:R->S}{κ:S->T}
theorem Hm.zero(h:Hm ι):ι 0=0:=by
 have:=h.add 0 0
 rw[show (0:R)+0=0 by grind] at this
 grind
theorem Hm.neg(h:Hm ι)(x:R):ι (-x)=-ι x:=by
 have:=h.add (-x) x
 rw[show -x+x=0 by grind,h.zero] at this
 grind
theorem Hm.sub(h:Hm ι)(x y:R):ι (x-y)=ι x-ι y:=by rw[show x-y=x+-y by grind,h.add,h.neg];grind
theorem Hm.zS(h:Hm ι):∀n:Int,ι (zS n)=zS n:=by
 have nat:∀n:Nat,ι (Mine.zS (n:Int))=Mine.zS (n:Int):=fun n=>by
  induction n with
  |zero=>rw[show ((0:Nat):Int)=0 from rfl,zS0,zS0,h.zero]
  |succ n ih=>rw[show ((n+1:Nat):Int)=(n:Int)+1 from rfl,fM,fM,h.add,ih,zS1,zS1,h.one]
 intro n
 rcases Int.le_total 0 n with g|g
 ·obtain ⟨m,rfl⟩:=Int.eq_ofNat_of_zero_le g;exact nat m
 ·obtain ⟨m,hm⟩:=Int.eq_ofNat_of_zero_le (show 0<=-n by exact oqz [] [n] [(.il Y0 0)] (.il 0 (.g Y0)) [11] rfl g)
  rw[show n=-(m:Int) by exact oqz [m] [n] [(.ie (.g Y0) (.c Y0))] (.ie Y0 (.g (.c Y0))) [11,101] rfl hm,jn,jn,h.neg,nat m]
theorem Hm.comp(h:Hm ι)(g:Hm κ):Hm fun x=>κ (ι x):=⟨fun x y=>by rw[h.add,g.add],fun x y=>by rw[h.mul,g.mul],by rw[h.one,g.one],fun x hx=>h.inj x (g.inj _ hx)⟩
theorem BD:Hm (fun x:R=>x):=⟨fun _ _=>rfl,fun _ _=>rfl,rfl,fun _ h=>h⟩
end
section
variable {R:Type}[Lean.Grind.CommRing R]
noncomputable def hq(x h:R):List R->List R
 | []=>[]
 | [_]=>[]
 |e::d::r=>(e+x*h)::hq x (e+x*h) (d::r)
noncomputable def hl(x h:R):List R->R
 | []=>h
 |e::r=>hl x (e+x*h) r
theorem hq2(x h e d:R)(r:List R):hq x h (e::d::r)=(e+x*h)::hq x (e+x*h) (d::r):=rfl
theorem hlC(x h e:R)(r:List R):hl x h (e::r)=hl x (e+x*h) r:=rfl
theorem rP(x:R):∀ (r:List R) (h e:R),(hq x h (e::r)).length=r.length
 | [],_,_=>rfl
 |d::r,h,e=>by rw[hq2,List.length_cons,rP x r,List.length_cons]
end
noncomputable def Spl{S:Type}[Lean.Grind.CommRing S](xs ds:List S):Prop:=xs.length=ds.length/\∀j,j<ds.length->eS xs (j+1)=ds.getD j 0
section
variable {R S:Type}[Lean.Grind.CommRing R][Lean.Grind.CommRing S]{ι:R->S}
theorem vX(hi:Hm ι){x:R}{xs:List S}:∀ (r:List R) (e h:R) (m:Nat),xs.length=m+r.length->eS xs m=ι h->(∀j,j<r.length->eS xs (m+1+j)=ι ((hq x h (e::r)).getD j 0))->hl x h (e::r)=0->∀j,j<r.length+1->eS (ι x::xs) (m+1+j)=ι ((e::r).getD j 0)
 | [],e,h,m,hl',h0,_,hz,j,hj=>by
  obtain rfl:j=0:=Nat.lt_one_iff.mp hj
  have hz':e+x*h=0:=hz
  rw[Nat.add_zero,eSC,h0,iO xs (m+1) (by rw[hl'];exact Ia m),Jd,show e=-(x*h) by grind,hi.neg,hi.mul];grind
 |d::r,e,h,m,hl',h0,hj',hz,j,hj=>by
  rw[hq2] at hj'
  have h1:=hj' 0 (Ja _)
  rw[Nat.add_zero,Jd] at h1
  cases j with
  |zero=>rw[Nat.add_zero,eSC,h1,h0,Jd,hi.add,hi.mul];grind
  |succ j =>
   have:=vX hi r d (e+x*h) (m+1) (by rw[hl',List.length_cons];exact oqz [m,r.length] [] [] (.eq (Y0+(Y1+1)) (Y0+1+Y1)) [1] rfl) h1 (fun i hi'=>by
    have:=hj' (i+1) (Nat.succ_lt_succ hi')
    rw[JC] at this
    rw[<- this];congr 1;exact oqz [m,i] [] [] (.eq (Y0+1+1+Y1) (Y0+1+(Y1+1))) [1] rfl) hz j (Jh hj)
   rw[JC,<- this];congr 1;exact oqz [m,j] [] [] (.eq (Y0+1+(Y1+1)) (Y0+1+1+Y1)) [1] rfl
theorem kQ(hi:Hm ι){x e:R}{r:List R}{xs:List S}(h:Spl xs ((hq x 1 (e::r)).map ι))(hz:hl x 1 (e::r)=0):Spl (ι x::xs) ((e::r).map ι):=by
 obtain ⟨h1,h2⟩:=h
 rw[GO,rP] at h1 h2
 refine ⟨by rw[List.length_cons,h1,GO,List.length_cons],fun j hj=>?_⟩
 rw[GO,List.length_cons] at hj
 have gd:∀ (l:List R) (j:Nat),(l.map ι).getD j 0=ι (l.getD j 0):=fun l j=>by
  rw[G7,G7,Hj]
  cases l[j]? with
  |none=>exact hi.zero.symm
  |some _=>rfl
 have:=vX hi r e 1 0 (by rw[h1,Ie]) (by rw[eS0,hi.one]) (fun i hi'=>by rw[<- gd,<- h2 i hi'];congr 1;exact oqz [i] [] [] (.eq (1+Y0) (Y0+1)) [1] rfl) hz j hj
 rw[gd,<- this];congr 1;exact oqz [j] [] [] (.eq (Y0+1) (1+Y0)) [1] rfl
end
section
variable {R:Type}[Lean.Grind.CommRing R]
theorem to(q:List R)(u:Nat->R):∀ (p:List R) (k:Nat),act (p++q) u k=act p u k+act q u (k+p.length)
 | [],k=>by show act q u k=0+act q u k;grind
 |c::p,k=>by
  rw[List.cons_append,ft,ft,to q u p (k+1),List.length_cons,show k+1+p.length=k+(p.length+1) by exact oqz [k,p.length] [] [] (.eq (Y0+1+Y1) (Y0+(Y1+1))) [1] rfl];grind
theorem mo{u w:Nat->R}:∀ {p:List R}{k m:Nat},(∀i,i<p.length->u (k+i)=w (m+i))->act p u k=act p w m
 | [],_,_,_=>rfl
 |c::p,k,m,h=>by
  rw[ft,ft,show u k=w m from h 0 (Ja _),mo (p:=p) (k:=k+1) (m:=m+1) fun i hi=>?_]
  have:=h (i+1) (Nat.succ_lt_succ hi)
  rw[show k+1+i=k+(i+1) by exact oqz [k,i] [] [] (.eq (Y0+1+Y1) (Y0+(Y1+1))) [1] rfl,show m+1+i=m+(i+1) by exact oqz [m,i] [] [] (.eq (Y0+1+Y1) (Y0+(Y1+1))) [1] rfl];exact this
noncomputable def sgq(fs:List R):Nat->Nat->R
 |0,i=>if i=0 then 1 else 0
 |k+1,i=>if i+1=fs.length then -(act fs (sgq fs k) 0) else sgq fs k (i+1)
theorem r7(fs:List R):∀ (i k:Nat),i<fs.length->sgq fs k i=sgq fs (k+i) 0
 |0,k,_=>rfl
 |i+1,k,h=>by
  have:=r7 fs i (k+1) (Nat.lt_of_succ_lt h)
  rw[show sgq fs (k+1) i=if i+1=fs.length then -(act fs (sgq fs k) 0) else sgq fs k (i+1) from rfl,if_neg (by exact oqz [i,fs.length] [] [(.le (Y0+1+1) Y1)] (.no (.eq (Y0+1) Y1)) [110] rfl h)] at this
  rw[this];congr 1;exact oqz [k,i] [] [] (.eq (Y0+1+Y1) (Y0+(Y1+1))) [1] rfl
theorem DP{fs:List R}(h:1<=fs.length):VV (fs++[1]) fun k=>sgq fs k 0:=fun k=>by
 obtain ⟨m,hm⟩:∃m,fs.length=m+1:=⟨fs.length-1,by exact oqz [fs.length,fs.length-1] [] [(.le 1 Y0),(osb Y0 1 Y1)] (.eq Y0 (Y1+1)) [10001,1011,1001,101] rfl h (am (fs.length) (1))⟩
 rw[to,c8,mo (w:=sgq fs k) (m:=0) fun i hi=>by rw[<- r7 fs i k hi,Ie]]
 have e:=r7 fs m (k+1) (by exact oqz [m,fs.length] [] [(.eq Y1 (Y0+1))] (.le (Y0+1) Y1) [101] rfl hm)
 rw[show sgq fs (k+1) m=if m+1=fs.length then -(act fs (sgq fs k) 0) else sgq fs k (m+1) from rfl,if_pos hm.symm] at e
 rw[hm,show k+(m+1)=k+1+m by exact oqz [k,m] [] [] (.eq (Y0+(Y1+1)) (Y0+1+Y1)) [1] rfl,<- e];grind
theorem EL{fs:List R}(h:1<=fs.length):@Hm R (Ext (fs++[1])) _ (i6 _) fun c=>exk _ [c]:=by
 letI:=i6 (fs++[(1:R)])
 refine ⟨fun x y=>?_,fun x y=>?_,rfl,fun x hx=>?_⟩
 ·exact cC (p:=[x+y]) (q:=iF [x] [y]) fun u _ k=>by rw[bK,c8,c8,c8];grind
 ·exact cC (p:=[x*y]) (q:=uO [x] [y]) fun u _ k=>by rw[aY,c8,c8,c8];grind
 ·have:=Quotient.exact (s:=exS (fs++[(1:R)])) (show exk (fs++[(1:R)]) [x]=exk (fs++[(1:R)]) [0] from hx) _ (DP h) 0
  rw[c8,c8] at this
  have e:sgq fs 0 0=1:=rfl
  rw[e] at this
  grind
theorem BV(f:List R):∀ (ds q:List R),@hl (Ext f) (i6 f) (exk f [0,1]) (exk f q) (ds.map fun c=>exk f [c])=exk f (ds.reverse++q)
 | [],q=>rfl
 |e::r,q=>by
  letI:=i6 f
  rw[G1,hlC,IO,G0,List.singleton_append,<- BV f r (e::q)]
  congr 1
  exact (cC (p:=e::q) (q:=iF [e] (uO [0,1] q)) fun u _ k=>by rw[bK,aY,c8,ft,ft,c8];grind).symm
theorem zL(ds:List R):@hl (Ext (ds.reverse++[1])) (i6 _) (exk _ [0,1]) (exk _ [1]) (ds.map fun c=>exk _ [c])=exk _ [0]:=by
 rw[BV]
 exact cC fun u hu k=>by rw[hu k,c8];grind
end
theorem ow:∀ (n:Nat) (R:Type) (iR:Lean.Grind.CommRing R) (ds:List R),ds.length=n->∃ (S:Type) (iS:Lean.Grind.CommRing S) (ι:R->S),Hm ι/\∃xs:List S,Spl xs (ds.map ι)
 |0,R,iR,ds,h=>⟨R,iR,fun x=>x,BD,[],by rw[GO,h];rfl,fun j hj=>by rw[GO,h] at hj;exact absurd hj (J2 j)⟩
 |n+1,R,iR,ds,h=>by
  match ds,h with
  |e::r,h =>
   letI:=i6 ((e::r).reverse++[(1:R)])
   have hm:=EL (fs:=(e::r).reverse) (by rw[Hz];exact Ja _)
   have hr:=zL (e::r)
   obtain ⟨S,iS,ι,hi,xs,hx⟩:=ow n (Ext ((e::r).reverse++[(1:R)])) inferInstance (hq (exk _ [0,1]) 1 ((e::r).map fun c=>exk _ [c])) (by rw[G1,rP,GO];exact Ix h)
   refine ⟨S,iS,fun c=>ι (exk _ [c]),hm.comp hi,ι (exk _ [0,1])::xs,?_⟩
   have:=kQ hi (x:=exk ((e::r).reverse++[(1:R)]) [0,1]) (e:=exk _ [e]) (r:=r.map fun c=>exk _ [c]) hx hr
   rw[<- G1 (f:=fun c=>exk ((e::r).reverse++[(1:R)]) [c]),Hw] at this
   exact this
section
variable {R S:Type}[Lean.Grind.CommRing R][Lean.Grind.CommRing S]{ι:R->S}
theorem qA(hi:Hm ι):∀ (xs:List R) (k:Nat),eS (xs.map ι) k=ι (eS xs k)
 | [],0=>hi.one.symm
 | [],k+1=>hi.zero.symm
 |x::r,0=>hi.one.symm
 |x::r,k+1=>by rw[G1,eSC,eSC,qA hi r,qA hi r,hi.sub,hi.mul]
theorem Spl.map(hi:Hm ι){xs ds:List R}(h:Spl xs ds):Spl (xs.map ι) (ds.map ι):=by
 refine ⟨by rw[GO,GO,h.1],fun j hj=>?_⟩
 rw[GO] at hj
 rw[qA hi,h.2 j hj,G7,G7,Hj,G2 hj];rfl
theorem xp(hi:Hm ι)(x:R):∀ (ds:List R) (h:R),hl (ι x) (ι h) (ds.map ι)=ι (hl x h ds)
 | [],h=>rfl
 |e::r,h=>by rw[G1,hlC,hlC,<- hi.mul,<- hi.add,xp hi x r]
theorem sQ(x c:R):∀ (ds:List R) (h:R),hl x (c*h) (ds.map (c*·))=c*hl x h ds
 | [],h=>rfl
 |e::r,h=>by rw[G1,hlC,hlC,<- sQ x c r];congr 1;grind
theorem oo(hi:Hm ι)(x:R):∀F:List Int,evS F (ι x)=ι (evS F x)
 | []=>hi.zero.symm
 |c::r=>by rw[AB,AB,hi.add,hi.mul,hi.zS,oo hi x r]
end
open Re
theorem BL(a:Re):∀ (cs q:List Int),hl a (evR q a) (cs.map fun (c:Int)=>(c:Re))=evR (cs.reverse++q) a
 | [],q=>rfl
 |e::r,q=>by rw[G1,hlC,IO,G0,List.singleton_append,<- BL a r (e::q),aP]
noncomputable def dsR(A0:List Int)(l:Int):List Re:=A0.reverse.map fun c=>rq c l
theorem tN{A0:List Int}{l:Int}{a:Re}(l0:l≠0)(h:evR (A0++[l]) a=0):hl a 1 (dsR A0 l)=0:=by
 have e:=BL a A0.reverse [l]
 rw[List.reverse_reverse,h,aP,dE] at e
 have e2:=sQ a (l:Re) (dsR A0 l) 1
 have e3:(dsR A0 l).map ((l:Re)*·)=A0.reverse.map fun (c:Int)=>(c:Re):=by
  unfold dsR
  rw[Hw]
  exact ID fun c _=>dw l0
 rw[e3,show (l:Re)*1=(l:Re)+a*0 by grind,e] at e2
 exact bY (x:=(l:Re)) e2.symm (fX l0)
theorem wa(F:List Int)(x:Re):evS F x=evR F x:=by
 induction F with
 |nil=>rfl
 |cons c r ih=>rw[AB,ih,aP]
noncomputable def tpC(A0:List Int)(l:Int):Nat->Int
 |0=>l
 |j+1=>A0.reverse.getD j 0
theorem xH{S:Type}[Lean.Grind.CommRing S]{κ:Re->S}(hk:Hm κ){A0:List Int}{l:Int}(l0:l≠0){xs:List S}(h:Spl xs ((dsR A0 l).map κ)):RtS (tpC A0 l) l A0.length xs:=by
 have hl:((dsR A0 l).map κ).length=A0.length:=by unfold dsR;rw[GO,GO,Hz]
 refine ⟨by rw[h.1,hl],fun j hj=>?_⟩
 cases j with
 |zero=>rw[eS0];show zS l=_;grind
 |succ j =>
  have hj':j<A0.reverse.length:=by rw[Hz];exact oqz [j,A0.length] [] [(.le (Y0+1) Y1)] (.le (Y0+1) Y1) [11] rfl hj
  have h2:=h.2 j (by rw[hl];exact oqz [j,A0.length] [] [(.le (Y0+1) Y1)] (.le (Y0+1) Y1) [11] rfl hj)
  unfold dsR at h2
  rw[Hw,G7,Hj,G2 hj'] at h2
  rw[h2]
  show zS (A0.reverse.getD j 0)=zS l*κ (rq (A0.reverse[j]) l)
  rw[<- hk.zS l,<- hk.mul,G7,G2 hj']
  rw[show zS (S:=Re) l*rq (A0.reverse[j]) l=zS (A0.reverse[j]) from dw l0,hk.zS];rfl
theorem Bf{S:Type}[Lean.Grind.CommRing S]{κ:Re->S}(hk:Hm κ):TF S:=fun n x y hn h=>by
 have e:κ (rq 1 n)*zS n=1:=by
  rw[<- hk.zS n,<- hk.mul,<- hk.one];congr 1
  rw[I0];exact dw hn
 have h2:=congrArg (κ (rq 1 n)*·) h
 rw[<- Jc,<- Jc,e] at h2
 grind
theorem l9{A0 B0:List Int}{l m:Int}{a b:Re}(l0:l≠0)(m0:m≠0)(hA:A0≠[])(hB:B0≠[])(ha:evR (A0++[l]) a=0)(hb:evR (B0++[m]) b=0) :
  ∃ (S:Type) (iS:Lean.Grind.CommRing S) (κ:Re->S),Hm κ/\∃xs ys:List S,RtS (tpC A0 l) l A0.length xs/\RtS (tpC B0 m) m B0.length ys/\κ a∈xs/\κ b∈ys:=by
 have ha':=tN l0 ha
 have hb':=tN m0 hb
 have hm:=BD (R:=Re)
 have ne:∀ {A0:List Int}{l:Int},A0≠[]->∃e r,dsR A0 l=e::r:=fun {A0 l} h=>by
  cases hd:dsR A0 l with
  |nil =>
   have:=congrArg List.length hd
   unfold dsR at this
   rw[GO,Hz] at this
   exact absurd (HI this) h
  |cons e r=>exact ⟨e,r,rfl⟩
 refine yK (ne (l:=l) hA) fun e r hd=>?_
 refine yK (ne (l:=m) hB) fun e' r' hd'=>?_
 rw[hd] at ha'
 rw[hd'] at hb'
 obtain ⟨S1,i1,ι1,h1,xs,hx⟩:=ow _ Re inferInstance (hq a 1 (e::r)) rfl
 have X:=kQ h1 hx ha'
 have hb2:=xp h1 b (e'::r') 1
 rw[hb',h1.zero,h1.one,G1] at hb2
 obtain ⟨S2,i2,ι2,h2,ys,hy⟩:=ow _ S1 i1 (hq (ι1 b) 1 (ι1 e'::r'.map ι1)) rfl
 have Y:=kQ h2 hy hb2
 have hc:=h1.comp h2
 refine ⟨S2,i2,fun x=>ι2 (ι1 x),hc,(ι1 a::xs).map ι2,ι2 (ι1 b)::ys,xH hc l0 ?_,xH hc m0 ?_,Hq.mpr ⟨_,GW,rfl⟩,GW⟩
 ·rw[hd]
  have:=X.map h2
  rw[Hw] at this
  exact this
 ·rw[hd']
  rw[<- G1 (f:=ι1),Hw] at Y
  exact Y
section
variable {A0 B0 F:List Int}{l m s:Int}{a b:Re}{P1 P2 E:Nat->Int}{k:Nat}
theorem uS(l0:0<l)(m0:0<m)(hA:A0≠[])(hB:B0≠[])(ha:evR (A0++[l]) a=0)(hb:evR (B0++[m]) b=0)(h1:NwP (tpC A0 l) l A0.length P1)(h2:NwP (tpC B0 m) m B0.length P2)(hE:NwE (fun w=>tS l m P1 P2 w (w+1)) E)(hF:RwL (l*m) E s k (A0.length*B0.length) 0 F):evR F (a+b)=0:=by
 obtain ⟨S,iS,κ,hk,xs,ys,X,Y,ma,mb⟩:=l9 (GY l0) (GY m0) hA hB ha hb
 have:=yv (Bf hk) l0 m0 X Y h1 h2 hE hF ma mb
 rw[<- hk.add,oo hk,wa] at this
 exact hk.inj _ this
theorem uW(l0:0<l)(m0:0<m)(hA:A0≠[])(hB:B0≠[])(ha:evR (A0++[l]) a=0)(hb:evR (B0++[m]) b=0)(h1:NwP (tpC A0 l) l A0.length P1)(h2:NwP (tpC B0 m) m B0.length P2)(hE:NwE (fun w=>P1 w*P2 w) E)(hF:RwL (l*m) E s k (A0.length*B0.length) 0 F):evR F (a*b)=0:=by
 obtain ⟨S,iS,κ,hk,xs,ys,X,Y,ma,mb⟩:=l9 (GY l0) (GY m0) hA hB ha hb
 have:=wf (Bf hk) l0 m0 X Y h1 h2 hE hF ma mb
 rw[<- hk.mul,oo hk,wa] at this
 exact hk.inj _ this
end
end Mine
namespace Mine
open PySem Re
structure PP (x:Re)(p q:Int):Prop where
 l:Low 1470000 p q
 v:(q:Re)*x=p
theorem DA{z w1 w2:Re}(h1:z*w1<=((2^450:Int):Re))(h2:z*w2<=((2^450:Int):Re)):z*(w1+w2)<=((2^660:Int):Re):=by
 have k:=aZ (show (2^450+2^450:Int)<=2^660 by decide)
 rw[ba] at k
 generalize ((2^450:Int):Re)=C at *
 generalize ((2^660:Int):Re)=D at *
 grind
section
variable {sub:Nat->Nat->Bool}{P:List Fn}{n be:Nat}{H:Hp}{Q:V->Hp->Prop}{X:Nat->Hp->Prop}{W:Nat->Prop}{NN:Loc->Hp->Prop}{R:V->Hp->Prop}{Y:Nat->Hp->Prop}
theorem AN(zT:TT P){A B:List Int}{N M:Int}{a b:Re}{j:Nat}{u v:V}(hj:j<=182700)(hu:gJ A N a j u)(hv:gJ B M b j v)
  (hQ:∀lo hi p1 q1 p2 q2 H',H<+:H'->Ab (a+b) lo hi p1 q1 p2 q2->((2^j:Int):Re)*(hi-lo)<=((2^660:Int):Re)->Q (.tup [pt p1 q1,pt p2 q2]) H'):ag sub P (n+4) 29 [u,v] H Q X:=by
 obtain ⟨lo1,hi1,x1,y1,x2,y2,d1,rfl⟩:=hu
 obtain ⟨lo2,hi2,z1,w1,z2,w2,d2,rfl⟩:=hv
 refine ao zT.a29 rfl ?_
 dsimp only[xQ,qS1,qS2,qS9,qE1,qE5,aM,aU,dN,aA,az,bJ,bI,aD,aB,ay,ax,aC,aq,aa,af,Nat.reduceSub]
 refine oz zT.a3 zT.a1 zT.a0 (d1.low1 hj) (d2.low1 hj) (by decide) fun p1 q1 L1 h1=>?_
 refine oz zT.a3 zT.a1 zT.a0 (d1.low2 hj) (d2.low2 hj) (by decide) fun p2 q2 L2 h2=>?_
 have r1:=d1.l;have r2:=d2.l;have r3:=d1.u;have r4:=d2.u
 refine hQ (lo1+lo2) (hi1+hi2) _ _ _ _ _ (JB _) ⟨L1.mono (by decide),L2.mono (by decide),eZ d1.a1.pos d2.a1.pos d1.a1.val d2.a1.val h1,eZ d1.a2.pos d2.a2.pos d1.a2.val d2.a2.val h2,by clear h1 h2;grind,by clear h1 h2;grind⟩ ?_
 rw[show hi1+hi2-(lo1+lo2)=(hi1-lo1)+(hi2-lo2) by grind]
 exact DA d1.wd d2.wd
theorem EM(eb:P[be]?=some ⟨2,2,eT⟩){x y:Re}{p1 q1 p2 q2:Int}(a:PP x p1 q1)(b:PP y p2 q2)(h1:x<y->Q (.bool true) H)(h2:¬ x<y->Q (.bool false) H):ag sub P (n+1) be [pt p1 q1,pt p2 q2] H Q X:=by
 refine oq eb (Mine.IntMulOk.sum a.l.top b.l.bot (by decide)) (Mine.IntMulOk.sum b.l.top a.l.bot (by decide)) ?_
 have:=jf a.l.pos b.l.pos a.v b.v
 by_cases h:x<y
 ·rw[decide_eq_true (this.mpr h)];exact h1 h
 ·rw[decide_eq_false (fun k=>h (this.mp k))];exact h2 h
structure MM (cs:List Re)(xl xh:Re)(l1 l2 h1 h2:Int):Prop where
 pl:PP xl l1 l2
 ph:PP xh h1 h2
 le:∀c∈cs,xl<=c/\c<=xh
 ml:xl∈cs
 mh:xh∈cs
theorem y0(eb:P[be]?=some ⟨2,2,eT⟩){o0 o1 o2 o3 o4:Option V}{cs:List Re}{xl xh xc:Re}{l1 l2 h1 h2 c1 c2:Int}(m:MM cs xl xh l1 l2 h1 h2)(pc:PP xc c1 c2)
  (k:∀xl' xh' l1' l2' h1' h2',MM (xc::cs) xl' xh' l1' l2' h1' h2'->NN [o0,o1,o2,o3,o4,some (pt l1' l2'),some (pt h1' h2'),some (pt c1 c2)] H) :
  wpS sub (ag sub P (n+1)) W (xZ be) [o0,o1,o2,o3,o4,some (pt l1 l2),some (pt h1 h2),some (pt c1 c2)] H NN R Y:=by
 have key:∀xl' l1' l2',PP xl' l1' l2'->xl'∈xc::cs->xl'<=xc->xl'<=xl->wpS sub (ag sub P (n+1)) W (AT be) [o0,o1,o2,o3,o4,some (pt l1' l2'),some (pt h1 h2),some (pt c1 c2)] H NN R Y:=fun xl' l1' l2' p1 hm hc hl=>by
  dsimp only[AT,qS1,qS2,qS3,bw,qE5,aM,aA,az,aa,af,aH]
  refine EM eb m.ph pc (fun h=>?_) fun h=>?_
  ·dsimp only[aN,aX,aa]
   refine k xl' xc _ _ _ _ ⟨p1,pc,fun c hc'=>?_,hm,GW⟩
   rcases Hf.mp hc' with g|g
   ·rw[g];exact ⟨hc,Ha _⟩
   ·exact ⟨bU hl (m.le c g).1,bU (m.le c g).2 (bM h)⟩
  ·dsimp only[aN,aR,aa]
   refine k xl' xh _ _ _ _ ⟨p1,m.ph,fun c hc'=>?_,hm,G3 _ m.mh⟩
   rcases Hf.mp hc' with g|g
   ·rw[g];exact ⟨hc,E0 h⟩
   ·exact ⟨bU hl (m.le c g).1,(m.le c g).2⟩
 dsimp only[xZ]
 generalize AT be=T at *
 dsimp only[qS1,qS2,qS3,bw,qE5,aM,aA,az,aa,af,aH]
 refine EM eb pc m.pl (fun h=>?_) fun h=>?_
 ·dsimp only[aN,aX,aa]
  exact key xc _ _ pc GW (Ha _) (bM h)
 ·dsimp only[aN,aR,aa]
  exact key xl _ _ m.pl (G3 _ m.ml) (E0 h) (Ha _)
theorem uc(eb:P[be]?=some ⟨2,2,eT⟩){o0 o1 o2 o3 o4:Option V}:∀ (rest:List (Re × Int × Int)) (cs:List Re) (xl xh:Re) (l1 l2 h1 h2:Int) (o7:Option V),(∀c∈rest,PP c.1 c.2.1 c.2.2)->MM cs xl xh l1 l2 h1 h2 ->
  (∀xl xh l1 l2 h1 h2 o7,MM ((rest.map (·.1)).reverse++cs) xl xh l1 l2 h1 h2->NN [o0,o1,o2,o3,o4,some (pt l1 l2),some (pt h1 h2),o7] H) ->
  cU (fun ρ2 H2 k=>wpS sub (ag sub P (n+1)) W (xZ be) ρ2 H2 k R Y) 7 (rest.map fun c=>pt c.2.1 c.2.2) [o0,o1,o2,o3,o4,some (pt l1 l2),some (pt h1 h2),o7] H NN
 | [],cs,xl,xh,l1,l2,h1,h2,o7,_,m,k=>k xl xh l1 l2 h1 h2 o7 m
 |c::rest,cs,xl,xh,l1,l2,h1,h2,o7,hp,m,k=>y0 eb m (hp c GW) fun xl' xh' l1' l2' h1' h2' m' =>
   uc eb rest (c.1::cs) xl' xh' l1' l2' h1' h2' _ (fun d hd=>hp d (G3 _ hd)) m' fun xl xh l1 l2 h1 h2 o7 m''=>k xl xh l1 l2 h1 h2 o7 (by rw[G1,IO,G0];exact m'')
theorem Aw{lo1 hi1 lo2 hi2 z xl xh:Re}(z0:0<z)(l1:-((2^200:Int):Re)<=lo1)(u1:hi1<=((2^200:Int):Re))(o1:lo1<hi1)(l2:-((2^200:Int):Re)<=lo2)(u2:hi2<=((2^200:Int):Re))(o2:lo2<hi2)(w1:z*(hi1-lo1)<=((2^450:Int):Re))(w2:z*(hi2-lo2)<=((2^450:Int):Re))
  (hl:xl=lo1*lo2\/xl=lo1*hi2\/xl=hi1*lo2\/xl=hi1*hi2) (hh:xh=lo1*lo2\/xh=lo1*hi2\/xh=hi1*lo2\/xh=hi1*hi2):z*(xh-xl)<=((2^660:Int):Re):=by
 have k:=aZ (show (2^200*2^450+2^200*2^450:Int)<=2^660 by decide)
 rw[ba,au] at k
 exact bU (ve z0 l1 u1 o1 l2 u2 o2 w1 w2 hl hh) k
theorem F2{x a b c d:Re}(h:x∈[d,c,b,a,a]):x=a\/x=b\/x=c\/x=d:=by
 simp only[Hf,List.not_mem_nil,or_false] at h
 rcases h with h|h|h|h|h
 ·exact .inr (.inr (.inr h))
 ·exact .inr (.inr (.inl h))
 ·exact .inr (.inl h)
 ·exact .inl h
 ·exact .inl h
theorem x6(zT:TT P){A B:List Int}{N M:Int}{a b:Re}{j:Nat}{u v:V}(hj:j<=182700)(hu:gJ A N a j u)(hv:gJ B M b j v)
  (hQ:∀lo hi p1 q1 p2 q2 H',H<+:H'->Ab (a*b) lo hi p1 q1 p2 q2->((2^j:Int):Re)*(hi-lo)<=((2^660:Int):Re)->Q (.tup [pt p1 q1,pt p2 q2]) H'):ag sub P (n+4) 30 [u,v] H Q X:=by
 obtain ⟨lo1,hi1,x1,y1,x2,y2,d1,rfl⟩:=hu
 obtain ⟨lo2,hi2,z1,w1,z2,w2,d2,rfl⟩:=hv
 refine ao zT.a30 rfl ?_
 dsimp only[bPB]
 generalize hT:EH 2=T
 dsimp only[qS1,qS2,qS3,qS6,dp,qE1,qE5,aM,aU,dN,fY,aA,az,qI1,bJ,bI,my,CK,aD,aB,ay,ax,aO,aC,aq,aa,bO,af,aH,Nat.reduceSub,cU,FA,FO]
 have w0:((H.length<=H.length/\some H.length≠none)/\some H.length≠none):=⟨⟨GU _,Ii _⟩,Ii _⟩
 have A1:=d1.low1 hj;have A2:=d1.low2 hj;have B1:=d2.low1 hj;have B2:=d2.low2 hj
 have mk:∀ {x y:Re}{p1 q1 p2 q2 p q:Int},(q1:Re)*x=p1->(q2:Re)*y=p2->0<q1->0<q2->Low (732000+732000) p q->p*(q1*q2)=(p1*p2)*q->PP (x*y) p q:=fun e1 e2 c1 c2 L h=>⟨L.mono (by decide),qn c1 c2 e1 e2 h⟩
 refine ⟨w0,pW zT A1.top A1.bot A1.pos B1.top B1.bot B1.pos (by decide) fun p1 q1 L1 h1=>ifSome.mk (ai _ _ _) ⟨by decide,?_⟩⟩
 rw[cy]
 refine ⟨w0,pW zT A1.top A1.bot A1.pos B2.top B2.bot B2.pos (by decide) fun p2 q2 L2 h2=>ifSome.mk (ai _ _ _) ⟨show 1<lim by decide,?_⟩⟩
 rw[cy]
 refine ⟨w0,pW zT A2.top A2.bot A2.pos B1.top B1.bot B1.pos (by decide) fun p3 q3 L3 h3=>ifSome.mk (ai _ _ _) ⟨show 2<lim by decide,?_⟩⟩
 rw[cy]
 refine ⟨w0,pW zT A2.top A2.bot A2.pos B2.top B2.bot B2.pos (by decide) fun p4 q4 L4 h4=>ifSome.mk (ai _ _ _) ⟨show 3<lim by decide,?_⟩⟩
 rw[cy]
 subst hT
 have P1:=mk d1.a1.val d2.a1.val A1.pos B1.pos L1 h1
 have P2:=mk d1.a1.val d2.a2.val A1.pos B2.pos L2 h2
 have P3:=mk d1.a2.val d2.a1.val A2.pos B1.pos L3 h3
 have P4:=mk d1.a2.val d2.a2.val A2.pos B2.pos L4 h4
 clear h1 h2 h3 h4 L1 L2 L3 L4 A1 A2 B1 B2 mk w0
 dsimp only[EH]
 generalize hB:xZ 2=LB
 dsimp only[FL,qS1,qS2,qS3,qS9,dp,qE1,qE5,aU,dN,aA,az,qI1,cu,dc,jx,aa,af,aH,List.nil_append,List.cons_append]
 subst hB
 refine ifSome.mk (ai _ _ _) (ifSome.mk rfl (ifSome.mk rfl (ifSome.mk (ai _ _ _) (ifSome.mk rfl (ifSome.mk rfl (ifSome.mk (ai _ _ _) ?_))))))
 refine uc zT.a2 [(lo1*lo2,p1,q1),(lo1*hi2,p2,q2),(hi1*lo2,p3,q3),(hi1*hi2,p4,q4)] [lo1*lo2] _ _ _ _ _ _ _ (fun c hc=>?_) ⟨P1,P1,fun c hc=>by rw[He.mp hc];exact ⟨Ha _,Ha _⟩,He.mpr rfl,He.mpr rfl⟩ fun xl xh l1 l2 g1 g2 o7 m=>?_
 ·simp only[Hf,List.not_mem_nil,or_false] at hc
  rcases hc with rfl|rfl|rfl|rfl
  ·exact P1
  ·exact P2
  ·exact P3
  ·exact P4
 ·have m':MM [hi1*hi2,hi1*lo2,lo1*hi2,lo1*lo2,lo1*lo2] xl xh l1 l2 g1 g2:=m
  have k:=m'.le
  have k1:=k (lo1*lo2) (by simp)
  have k2:=k (lo1*hi2) (by simp)
  have k3:=k (hi1*lo2) (by simp)
  have k4:=k (hi1*hi2) (by simp)
  exact hQ xl xh _ _ _ _ _ (aj _ _) ⟨m'.pl.l,m'.ph.l,m'.pl.v,m'.ph.v,gw d1.l d1.u d2.l d2.u k1.1 k2.1 k3.1 k4.1,jc d1.l d1.u d2.l d2.u k1.2 k2.2 k3.2 k4.2⟩ (Aw (bD (cG (by decide) j)) d1.b1 d1.b2 d1.lh d2.b1 d2.b2 d2.lh d1.wd d2.wd (F2 m'.ml) (F2 m'.mh))
end
end Mine
namespace Mine
open PySem Re
structure RwB (A A0:List Int)(l:Int)(b:Nat):Prop where
 eq:A=A0++[l]
 ne:A0≠[]
 l0:0<l
 sm:AllSm b A
theorem RwB.rowC{A A0:List Int}{l:Int}{b:Nat}(h:RwB A A0 l b):u8 A A0.length (tpC A0 l):=by
 rw[h.eq]
 refine ⟨by rw[GR,G8],fun j hj=>?_⟩
 cases j with
 |zero=>rw[Nat.sub_zero];exact ai _ _ _
 |succ j =>
  rw[Hg (by exact oqz [A0.length-(j+1),A0.length,j] [] [(.le (Y2+1) Y1),(osb Y1 (Y2+1) Y0)] (.le (Y0+1) Y1) [10001,1011] rfl hj (am (A0.length) (j+1)))]
  show _=some (A0.reverse.getD j 0)
  rw[G7,List.getElem?_reverse (by exact oqz [j,A0.length] [] [(.le (Y0+1) Y1)] (.le (Y0+1) Y1) [11] rfl hj),show A0.length-1-j=A0.length-(j+1) by exact oqz [A0.length-1-j,A0.length-1,A0.length,j,A0.length-(j+1)] [] [(osb Y2 1 Y1),(osb Y1 Y3 Y0),(osb Y2 (Y3+1) Y4)] (.eq Y0 Y4) [1000100101,100000001,1000010101,1000000011,101001001,11001001,100001,1000101] rfl (am (A0.length) (1)) (am (A0.length-1) (j)) (am (A0.length) (j+1)),G2 (by exact oqz [A0.length-(j+1),A0.length,j] [] [(.le (Y2+1) Y1),(osb Y1 (Y2+1) Y0)] (.le (Y0+1) Y1) [10001,1011] rfl hj (am (A0.length) (j+1)))];rfl
theorem RwB.bas{A A0:List Int}{l:Int}{b:Nat}(h:RwB A A0 l b)(h12:A0.length<=12):Bas (tpC A0 l) l A0.length b:=by
 refine ⟨h.l0,HA.mpr h.ne,h12,rfl,fun j hj=>?_⟩
 have:=h.rowC.2 j hj
 exact h.sm _ (H8 this)
structure PgG (R:List Int)(g:Re)(p1 q1 p2 q2:Int):Prop where
 la:∃l,R.getLast?=some l/\0<l
 one:br R 0=1
 sm:AllSm 1172 R
 rt:evR R g=0
 gb:ab g<=(((2^50:Nat):Int):Re)
 ab:∃lo hi,Ab g lo hi p1 q1 p2 q2/\hi-lo<=((2^660:Int):Re)
 al:Aln R p1 q1 p2 q2
theorem PgG.l2{R:List Int}{g:Re}{p1 q1 p2 q2:Int}(h:PgG R g p1 q1 p2 q2):2<=R.length:=by
 refine ae (h.la) fun l hl l0=>?_
 exact Fa hl (GY l0) h.rt
theorem vR{L s:Int}{S E:Nat->Int}{k N:Nat}{xs:List Int}(hE:NwE S E)(h:RwL L E s k N 0 xs):xs.getLast?=some s:=by
 refine ae (h.2.2 0 (Hl _) (GU _)) fun u hu e=>?_
 have h1:=h.1
 rw[Iq,show xs.length-1=N-0 by exact oqz [xs.length-1,xs.length,N-0,N] [] [(.eq (Y1+0) (Y3+1)),(.an (.le Y3 (Y2+0)) (.le Y2 Y3)),(osb Y1 1 Y0)] (.eq Y0 Y2) [1010101,110101,10001011,1000001] rfl h1 (aV (N) (0)) (am (xs.length) (1)),hu]
 unfold RwU at e
 rw[hE.e0] at e
 have:u*(1*L^0)=s*1:=e
 rw[HH,H7,H7,H7] at this
 rw[this]
section
variable {sub:Nat->Nat->Bool}{P:List Fn}{n bd:Nat}{H:Hp}{Q:V->Hp->Prop}{X:Nat->Hp->Prop}
theorem xe(zT:TT P)
  (hk:bd=29\/bd=29+1)
  {A B:List Int}{Na Nb L:Int}{a b g:Re}{u v:V}{S E:Nat->Int}{bb N i:Nat}{ss:List V} (hi:H[i]?=some ss) (hss:FrL (fun i=>L^i) S (N+1) ss) (l0:0<L) (sL:Sm bb L) (hE:NwE S E) (hS:∀j,j<=N->Sm ((bb+26)*j+12) (S j)) (hN1:1<=N) (hN:N<=12) (hb:(2*bb+55)*N+3<=1000)
  (hrt:∀s k F,RwL L E s k N 0 F->evR F g=0) (hg:ab g<=(((2^50:Nat):Int):Re)) (hu:gJ A Na a 0 u) (hv:gJ B Nb b 0 v)
  (hbd:∀ (j:Nat) (u v:V) (H:Hp) (Q:V->Hp->Prop) (X:Nat->Hp->Prop),j<=182700->gJ A Na a j u->gJ B Nb b j v->(∀lo hi p1 q1 p2 q2 H',H<+:H'->Ab g lo hi p1 q1 p2 q2->((2^j:Int):Re)*(hi-lo)<=((2^660:Int):Re)->Q (.tup [pt p1 q1,pt p2 q2]) H')->ag sub P (n+5) bd [u,v] H Q X)
  (hQ:∀R x1 y1 x2 y2 H',H<+:H'->PgG R g x1 y1 x2 y2->R.length<=N+1->Q (pg R x1 y1 x2 y2) H') :
  ag sub P (n+6) 27 [.lst i] H (fun w H1=>ag sub P (n+6) 28 [w,.fn bd,u,v] H1 Q fun _ _=>False) fun _ _=>False:=by
 have e55:(2*bb+55)*N=2*(bb*N)+55*N:=by rw[Hc,Nat.mul_assoc]
 have e51:(bb+51)*N=bb*N+51*N:=Hc ..
 have e4:(bb+4)*N=bb*N+4*N:=Hc ..
 refine lc (zJ (k:=2000) l0 sL hE hS hN (by decide) (by exact oqz [(bb+51)*N,N,(2*bb+55)*N,bb*N] [] [(.le (Y2+3) 1000),(.eq Y2 (.a (.m 2 Y3) (.m 55 Y1))),(.eq Y0 (.a Y3 (.m 51 Y1)))] (.le (Y0+24) 2000) [11011] rfl hb e55 e51)) fun z sE sD=>?_
 refine vM zT z sE sD (by exact oqz [(bb+51)*N,N,(2*bb+55)*N,bb*N] [] [(.le (Y2+3) 1000),(.eq Y2 (.a (.m 2 Y3) (.m 55 Y1))),(.eq Y0 (.a Y3 (.m 51 Y1)))] (.le (Y0+1) 20000) [11011] rfl hb e55 e51) (by exact oqz [(bb+4)*N,N,(2*bb+55)*N,bb*N] [] [(.le (Y2+3) 1000),(.eq Y2 (.a (.m 2 Y3) (.m 55 Y1))),(.eq Y0 (.a Y3 (.m 4 Y1)))] (.le (Y0+2) 20000) [21012] rfl hb e55 e4) hE hi hss fun s xs H3 hp3 s0 hx=>?_
 have hln:xs.length=N+1:=hx.1
 refine xy zT (v:=.lst H3.length) (g:=g) (K:=(bb+51)*N+1+((bb+4)*N+2)) (ai _ _ _) (vR hE hx) (GY s0) hx.2.1 (by exact oqz [xs.length,N] [] [(.le 1 Y1),(.eq Y0 (Y1+1))] (.le 2 Y0) [1011] rfl hN1 hln) (by exact oqz [xs.length,N] [] [(.le Y1 12),(.eq Y0 (Y1+1))] (.le Y0 13) [111] rfl hN hln) (hrt _ _ _ hx) (by exact oqz [(bb+51)*N,(bb+4)*N,N,(2*bb+55)*N,bb*N] [] [(.le (Y3+3) 1000),(.eq Y3 (.a (.m 2 Y4) (.m 55 Y2))),(.eq Y0 (.a Y4 (.m 51 Y2))),(.eq Y1 (.a Y4 (.m 4 Y2)))] (.le (Y0+1+(Y1+2)) 1000) [1011011] rfl hb e55 e51 e4) fun H4 i4 R F hp4 hi4 hR hF=>?_
 have hR':PlG ((bb+51)*N+1+((bb+4)*N+2)+172) 13 g R:=⟨hR.la,hR.one,GP hR.ln (by exact oqz [xs.length,N] [] [(.le Y1 12),(.eq Y0 (Y1+1))] (.le Y0 13) [111] rfl hN hln),hR.sm,hR.rt,hR.d0⟩
 refine Df zT hk (fun row N al u j H Q X d hj hQ=>?_) hbd hi4 ⟨hF,hR',by exact oqz [(bb+51)*N,(bb+4)*N,N,(2*bb+55)*N,bb*N] [] [(.le (Y3+3) 1000),(.eq Y3 (.a (.m 2 Y4) (.m 55 Y2))),(.eq Y0 (.a Y4 (.m 51 Y2))),(.eq Y1 (.a Y4 (.m 4 Y2)))] (.le (Y0+1+(Y1+2)) 1000) [1011011] rfl hb e55 e51 e4,hg⟩ hu hv fun lo hi p1 q1 p2 q2 H5 hp5 hab hwd hal=>?_
 ·obtain ⟨lo,hi,p1,q1,p2,q2,d,rfl⟩:=d
  exact uZ zT rfl d hj fun lo' hi' x1 y1 x2 y2 d'=>hQ _ ⟨_,_,_,_,_,_,d',rfl⟩
 ·exact hQ R p1 q1 p2 q2 H5 (ah hp3 (ah (aj _ _) (ah hp4 hp5))) ⟨hR.la,hR.one,hR.sm.mono (by exact oqz [(bb+51)*N,(bb+4)*N,N,(2*bb+55)*N,bb*N] [] [(.le (Y3+3) 1000),(.eq Y3 (.a (.m 2 Y4) (.m 55 Y2))),(.eq Y0 (.a Y4 (.m 51 Y2))),(.eq Y1 (.a Y4 (.m 4 Y2)))] (.le (Y0+1+(Y1+2)+172) 1172) [1011011] rfl hb e55 e51 e4),hR.rt,hg,⟨lo,hi,hab,hwd⟩,hal⟩ (by rw[<- hln];exact hR.ln)
theorem j5{A A0:List Int}{l:Int}{b:Nat}(h:RwB A A0 l b):((A.map V.int).length:Int)-1=(A0.length:Int):=by rw[h.eq,GO,GR,G8];exact oqz [A0.length] [] [] (.ie (.s (.c (Y0+1)) 1) (.c Y0)) [1] rfl
theorem xY(zT:TT P)
  (hk:29=29\/29=29+1)
  {A A0 B B0:List Int}{l m Na Nb p1 q1 p2 q2 r1 s1 r2 s2:Int}{a b lo1 hi1 lo2 hi2:Re}{b1 b2:Nat} (hA:RwB A A0 l b1) (hB:RwB B B0 m b2) (dA:PG A Na a lo1 hi1 p1 q1 p2 q2 0) (dB:PG B Nb b lo2 hi2 r1 s1 r2 s2 0)
  (hN:A0.length*B0.length<=12) (hb:(2*(b1+b2)+55)*(A0.length*B0.length)+3<=1000) (hg:ab (a+b)<=(((2^50:Nat):Int):Re))
  (hQ:∀R x1 y1 x2 y2 H',H<+:H'->PgG R (a+b) x1 y1 x2 y2->R.length<=A0.length*B0.length+1->Q (pg R x1 y1 x2 y2) H'):ag sub P (n+7) 31 [pg A p1 q1 p2 q2,pg B r1 s1 r2 s2] H Q X:=by
 have n1:=HA.mpr hA.ne
 have n2:=HA.mpr hB.ne
 have hN1:1<=A0.length*B0.length:=Nat.mul_pos n1 n2
 have nA:A0.length<=12:=GP (HN _ n2) hN
 have nB:B0.length<=12:=GP (Nat.le_mul_of_pos_left _ n1) hN
 have bA:=hA.bas nA
 have bB:=hB.bas nB
 obtain ⟨P1,hP1⟩:=n5 (tpC A0 l) l A0.length
 obtain ⟨P2,hP2⟩:=n5 (tpC B0 m) m B0.length
 obtain ⟨E,hE⟩:=yV (fun w=>tS l m P1 P2 w (w+1))
 have eA:=hA.eq
 have eB:=hB.eq
 have ra:=dA.rt
 have rb:=dB.rt
 rw[eA] at ra
 rw[eB] at rb
 generalize hNN:A0.length*B0.length=N at *
 have e55:(2*(b1+b2)+55)*N=2*(b1*N)+2*(b2*N)+55*N:=by rw[Hc,Nat.mul_assoc,Hc,Nat.mul_add]
 have k1:(b1+13)*N+20<=2000:=by rw[Hc];exact oqz [b1*N,N,(2*(b1+b2)+55)*N,b2*N] [] [(.le (Y2+3) 1000),(.eq Y2 (.a (.a (.m 2 Y0) (.m 2 Y3)) (.m 55 Y1)))] (.le (.a (.a Y0 (.m 13 Y1)) 20) 2000) [1012] rfl hb e55
 have k2:(b2+13)*N+20<=2000:=by rw[Hc];exact oqz [b2*N,N,(2*(b1+b2)+55)*N,b1*N] [] [(.le (Y2+3) 1000),(.eq Y2 (.a (.a (.m 2 Y3) (.m 2 Y0)) (.m 55 Y1)))] (.le (.a (.a Y0 (.m 13 Y1)) 20) 2000) [1012] rfl hb e55
 have k3:(b1+b2+26)*N+24<=2000:=by rw[Hc,Hc];exact oqz [b1*N,b2*N,N,(2*(b1+b2)+55)*N] [] [(.le (Y3+3) 1000),(.eq Y3 (.a (.a (.m 2 Y0) (.m 2 Y1)) (.m 55 Y2)))] (.le (.a (.a (Y0+Y1) (.m 26 Y2)) 24) 2000) [1012] rfl hb e55
 have z:=s7 bA bB hP1 hP2 (k:=2000) hN (by decide) k3
 refine ao zT.a31 rfl ?_
 dsimp only[D5]
 generalize hLB:pj 3 4=LB
 dsimp only[qS1,qS2,qS3,qS9,dp,qE1,qE5,qE6,qE8,aM,b6,aU,fY,aA,az,qI3,cO,e6,dm,eF,cE,aD,aB,ay,ax,aO,aC,aq,aa,af,aH,Nat.reduceSub]
 rw[j5 hA,j5 hB,show (A0.length:Int)*(B0.length:Int)=((N:Nat):Int) by rw[<- hNN];exact (HQ ..).symm]
 refine ⟨IntMulOk.left (fD ⟨by exact oqz [A0.length] [] [] (.il 0 (.c Y0)) [1] rfl,by exact oqz [A0.length] [] [(.le Y0 12)] (.il (.c Y0) 1000000) [11] rfl nA⟩),?_⟩
 refine n7 zT hA.rowC (bA.szP hP1 (k:=2000) hN1 hN (by decide) k1) hP1 rfl fun ls hl=>?_
 refine n7 zT hB.rowC (bB.szP hP2 (k:=2000) hN1 hN (by decide) k2) hP2 rfl fun rs' hr=>?_
 refine iC (aK (by exact oqz [N] [] [] (.il (.g 1000000) (.a (.c Y0) 1)) [1] rfl) (by exact oqz [N] [] [(.le Y0 12)] (.il (.a (.c Y0) 1) 1000000) [11] rfl hN)) ?_
 rw[show ((N:Int)+1).toNat=N+1 by exact oqz [((↑N:Int)+1).toNat,N] [] [(otn (.a (.c Y1) 1) Y0)] (.eq Y0 (Y1+1)) [1001,10,101] rfl (aQ ((↑N:Int)+1))]
 generalize hH1:H++[ls]=H1
 have hp1:H<+:H1:=by rw[<- hH1];exact aj _ _
 have gl:H1[H.length]?=some ls:=by rw[<- hH1];exact ai _ _ _
 have l1:H1.length=H.length+1:=by rw[<- hH1,GR];rfl
 generalize hH2:H1++[rs']=H2
 have hp2:H1<+:H2:=by rw[<- hH2];exact aj _ _
 have gr:H2[H1.length]?=some rs':=by rw[<- hH2];exact ai _ _ _
 have l2:H2.length=H1.length+1:=by rw[<- hH2,GR];rfl
 clear hH1 hH2
 generalize hH3:H2++[([]:List V)]=H3
 have hp3:H2<+:H3:=by rw[<- hH3];exact aj _ _
 have gs:H3[H2.length]?=some []:=by rw[<- hH3];exact ai _ _ _
 have l3:H3.length=H2.length+1:=by rw[<- hH3,GR];rfl
 clear hH3
 subst hLB
 refine sK zT (n:=n+3) (H0:=H) (W:=fun m=>H.length<=m/\some m≠none) z (i:=H.length) (j:=H1.length) (s:=H2.length) (by exact oqz [List.length H2,List.length H,List.length H1] [] [(.eq Y2 (Y1+1)),(.eq Y0 (Y2+1))] (.no (.eq Y0 Y1)) [101001] rfl l1 l2) (by exact oqz [List.length H2,List.length H1] [] [(.eq Y0 (Y1+1))] (.no (.eq Y0 Y1)) [1001] rfl l2) ⟨by exact oqz [List.length H,List.length H2,List.length H1] [] [(.eq Y2 (Y0+1)),(.eq Y1 (Y2+1))] (.le Y0 Y1) [10101] rfl l1 l2,nofun⟩ (by exact oqz [List.length H,List.length H2,List.length H1] [] [(.eq Y2 (Y0+1)),(.eq Y1 (Y2+1))] (.le Y0 Y1) [10101] rfl l1 l2) (fun ss H4 o6 o7 o8 o9 o10 hss hp4 hs4=>?_) (N+1) 0 [] H3.length _ _ _ _ _ (Ie _) (ah hp1 (ah hp2 (ah hp3 (aj _ _)))) (av (aj _ _) gs) (by exact oqz [List.length H2,List.length H3] [] [(.eq Y1 (Y0+1))] (.no (.eq Y0 Y1)) [1010] rfl l3) ⟨rfl,nofun⟩ ⟨⟨ls,av (ah hp2 (ah hp3 (aj _ _))) gl,hl⟩,⟨rs',av (ah hp3 (aj _ _)) gr,hr⟩,ai _ _ _⟩
 dsimp only[aa,af]
 have s1:∀j,j<=N->Sm ((b1+13)*j+4) (P1 j):=fun j hj=>jG bA hP1 N j hj hN
 have s2:∀j,j<=N->Sm ((b2+13)*j+4) (P2 j):=fun j hj=>jG bB hP2 N j hj hN
 refine xe zT hk hs4 hss (Hb hA.l0 hB.l0) ((bA.sc 0 (Hl _)).mul (bB.sc 0 (Hl _))) hE (fun j hj=>(rV bA bB (fun i hi=>s1 i (GP hi hj)) (fun i hi=>s2 i (GP hi hj)) (j+1) (GU _)).mono (by rw[Hc,Hc (b1+b2)];exact oqz [(b1+b2)*j,j] [] [] (.le (.a (.a (.a Y0 (.m 14 Y1)) 11) (Y1+1)) (.a (.a Y0 (.m 26 Y1)) 12)) [1] rfl)) hN1 hN hb (fun s k F hF=>uS hA.l0 hB.l0 hA.ne hB.ne ra rb hP1 hP2 hE (by rw[hNN];exact hF)) hg ⟨_,_,_,_,_,_,dA,rfl⟩ ⟨_,_,_,_,_,_,dB,rfl⟩ (fun j u v H Q X hj h1 h2 hQ=>AN zT hj h1 h2 hQ) fun R x1 y1 x2 y2 H5 hp5 o hl=>hQ R x1 y1 x2 y2 H5 (ah hp4 hp5) o hl
theorem x3(zT:TT P)
  (hk:30=29\/30=29+1)
  {A A0 B B0:List Int}{l m Na Nb p1 q1 p2 q2 r1 s1 r2 s2:Int}{a b lo1 hi1 lo2 hi2:Re}{b1 b2:Nat} (hA:RwB A A0 l b1) (hB:RwB B B0 m b2) (dA:PG A Na a lo1 hi1 p1 q1 p2 q2 0) (dB:PG B Nb b lo2 hi2 r1 s1 r2 s2 0)
  (hN:A0.length*B0.length<=12) (hb:(2*(b1+b2)+55)*(A0.length*B0.length)+3<=1000) (hg:ab (a*b)<=(((2^50:Nat):Int):Re))
  (hQ:∀R x1 y1 x2 y2 H',H<+:H'->PgG R (a*b) x1 y1 x2 y2->R.length<=A0.length*B0.length+1->Q (pg R x1 y1 x2 y2) H'):ag sub P (n+7) 32 [pg A p1 q1 p2 q2,pg B r1 s1 r2 s2] H Q X:=by
 have n1:=HA.mpr hA.ne
 have n2:=HA.mpr hB.ne
 have hN1:1<=A0.length*B0.length:=Nat.mul_pos n1 n2
 have nA:A0.length<=12:=GP (HN _ n2) hN
 have nB:B0.length<=12:=GP (Nat.le_mul_of_pos_left _ n1) hN
 have bA:=hA.bas nA
 have bB:=hB.bas nB
 obtain ⟨P1,hP1⟩:=n5 (tpC A0 l) l A0.length
 obtain ⟨P2,hP2⟩:=n5 (tpC B0 m) m B0.length
 obtain ⟨E,hE⟩:=yV (fun w=>P1 w*P2 w)
 have eA:=hA.eq
 have eB:=hB.eq
 have ra:=dA.rt
 have rb:=dB.rt
 rw[eA] at ra
 rw[eB] at rb
 generalize hNN:A0.length*B0.length=N at *
 have e55:(2*(b1+b2)+55)*N=2*(b1*N)+2*(b2*N)+55*N:=by rw[Hc,Nat.mul_assoc,Hc,Nat.mul_add]
 have k1:(b1+13)*N+20<=2000:=by rw[Hc];exact oqz [b1*N,N,(2*(b1+b2)+55)*N,b2*N] [] [(.le (Y2+3) 1000),(.eq Y2 (.a (.a (.m 2 Y0) (.m 2 Y3)) (.m 55 Y1)))] (.le (.a (.a Y0 (.m 13 Y1)) 20) 2000) [1012] rfl hb e55
 have k2:(b2+13)*N+20<=2000:=by rw[Hc];exact oqz [b2*N,N,(2*(b1+b2)+55)*N,b1*N] [] [(.le (Y2+3) 1000),(.eq Y2 (.a (.a (.m 2 Y3) (.m 2 Y0)) (.m 55 Y1)))] (.le (.a (.a Y0 (.m 13 Y1)) 20) 2000) [1012] rfl hb e55
 have k3:(b1+b2+26)*N+24<=2000:=by rw[Hc,Hc];exact oqz [b1*N,b2*N,N,(2*(b1+b2)+55)*N] [] [(.le (Y3+3) 1000),(.eq Y3 (.a (.a (.m 2 Y0) (.m 2 Y1)) (.m 55 Y2)))] (.le (.a (.a (Y0+Y1) (.m 26 Y2)) 24) 2000) [1012] rfl hb e55
 have z:=s7 bA bB hP1 hP2 (k:=2000) hN (by decide) k3
 refine ao zT.a32 rfl ?_
 dsimp only[Er]
 generalize hT:CS 28 27 30=T
 generalize hEE:yz 4=EE
 dsimp only[qS2,qS3,qE1,qE5,qE8,aM,b6,aU,f9,aA,az,qO1,qI3,cO,e6,dm,eF,cE,cg,aD,aB,ay,ax,aO,aC,aq,aX,aa,af,aH,Nat.reduceSub]
 rw[j5 hA,j5 hB,show (A0.length:Int)*(B0.length:Int)=((N:Nat):Int) by rw[<- hNN];exact (HQ ..).symm]
 refine ⟨IntMulOk.left (fD ⟨by exact oqz [A0.length] [] [] (.il 0 (.c Y0)) [1] rfl,by exact oqz [A0.length] [] [(.le Y0 12)] (.il (.c Y0) 1000000) [11] rfl nA⟩),?_⟩
 refine n7 zT hA.rowC (bA.szP hP1 (k:=2000) hN1 hN (by decide) k1) hP1 rfl fun ls hl=>?_
 refine n7 zT hB.rowC (bB.szP hP2 (k:=2000) hN1 hN (by decide) k2) hP2 rfl fun rs' hr=>?_
 refine iC (aK (by exact oqz [N] [] [] (.il (.g 1000000) (.a (.c Y0) 1)) [1] rfl) (by exact oqz [N] [] [(.le Y0 12)] (.il (.a (.c Y0) 1) 1000000) [11] rfl hN)) ?_
 rw[show ((N:Int)+1).toNat=N+1 by exact oqz [((↑N:Int)+1).toNat,N] [] [(otn (.a (.c Y1) 1) Y0)] (.eq Y0 (Y1+1)) [1001,10,101] rfl (aQ ((↑N:Int)+1))]
 refine ⟨by rw[GO,H9];unfold lim;exact oqz [N] [] [(.le Y0 12)] (.le (Y0+1) 1000000) [11] rfl hN,?_⟩
 generalize hH1:H++[ls]=H1
 have hp1:H<+:H1:=by rw[<- hH1];exact aj _ _
 have gl:H1[H.length]?=some ls:=by rw[<- hH1];exact ai _ _ _
 clear hH1
 subst hEE
 refine Bd zT (n:=n+3) z (av (aj _ _) gl) (ai _ _ _) hl hr (N+1) 0 [] _ (Ie _) ⟨rfl,nofun⟩ fun ys hys=>?_
 subst hT
 dsimp only[CS,qS1,qS2,qS9,qE5,qE6,aM,aA,az,aa,af]
 rw[List.nil_append] at hys
 have s1:∀j,j<=N->Sm ((b1+13)*j+4) (P1 j):=fun j hj=>jG bA hP1 N j hj hN
 have s2:∀j,j<=N->Sm ((b2+13)*j+4) (P2 j):=fun j hj=>jG bB hP2 N j hj hN
 refine xe zT hk (ai _ _ _) hys (Hb hA.l0 hB.l0) ((bA.sc 0 (Hl _)).mul (bB.sc 0 (Hl _))) hE (fun j hj=>((s1 j hj).mul (s2 j hj)).mono (by rw[Hc,Hc,Hc (b1+b2),Hc];exact oqz [b1*j,j,b2*j] [] [] (.le (.a (.a (.a Y0 (.m 13 Y1)) 4) (.a (.a Y2 (.m 13 Y1)) 4)) (.a (.a (Y0+Y2) (.m 26 Y1)) 12)) [1] rfl)) hN1 hN hb (fun s k F hF=>uW hA.l0 hB.l0 hA.ne hB.ne ra rb hP1 hP2 hE (by rw[hNN];exact hF)) hg ⟨_,_,_,_,_,_,dA,rfl⟩ ⟨_,_,_,_,_,_,dB,rfl⟩ (fun j u v H Q X hj h1 h2 hQ=>x6 zT hj h1 h2 hQ) fun R x1 y1 x2 y2 H5 hp5 o hl=>hQ R x1 y1 x2 y2 H5 (ah hp1 (ah (aj _ _) (ah (aj _ _) hp5))) o hl
end
end Mine
namespace Mine
open PySem Re
noncomputable def bv:List Int->List Int
 | []=>[]
 | [x]=>[x]
 |x::y::r=>x :: -y::bv r
theorem rf(x y:Int)(r:List Int):bv (x::y::r)=x :: -y::bv r:=rfl
theorem cY:∀xs:List Int,(bv xs).length=xs.length
 | []=>rfl
 | [_]=>rfl
 |x::y::r=>by rw[rf,List.length_cons,List.length_cons,cY r];rfl
theorem x9(t:Re):∀xs:List Int,evR (bv xs) t=evR xs (-t)
 | []=>rfl
 | [x]=>by show (x:Re)+t*0=(x:Re)+-t*0;grind
 |x::y::r=>by rw[rf,aP,aP,aP,aP,x9 t r,cP];grind
theorem qL{k:Nat}:∀ {xs:List Int},AllSm k xs->AllSm k (bv xs)
 | [],h=>h
 | [_],h=>h
 |x::y::r,h=>.cons h.hd (.cons h.tl.hd.neg (qL h.tl.tl))
theorem yt:∀ (xs:List Int) (g:Nat),br (bv xs) g=br xs g
 | [],_=>rfl
 | [_],_=>rfl
 |x::y::r,g=>by
  rw[rf]
  show br (bv r) _=br r _
  rw[yt r,Int.natAbs_neg]
theorem oU:∀ {xs:List Int}{l:Int},xs.getLast?=some l->(bv xs).getLast?=some l\/(bv xs).getLast?=some (-l)
 | [x],l,h=>.inl h
 | [x,y],l,h=>by cases h;exact .inr rfl
 |x::y::z::r,l,h=>by
  have h':(z::r).getLast?=some l:=h
  have k:=oU h'
  rw[rf]
  cases hh:bv (z::r) with
  |nil=>have:=congrArg List.length hh;rw[cY] at this;cases this
  |cons a b=>rw[hh] at k;exact k
theorem AE(m d:Nat):dx (2*(m:Int)+1) ((2*m+d:Nat):Int) 2=(List.range (d / 2)).map fun (i:Nat)=>2*(m:Int)+1+2*(i:Int):=by
 unfold dx
 have:(Builtin.Range.rangeSize (2*(m:Int)+1) ((2*m+d:Nat):Int) 2).toNat=d / 2:=by
  match d with
  |0=>unfold Builtin.Range.rangeSize;rw[if_pos (by decide),if_neg (show ¬ (2*(m:Int)+1<((2*m+0:Nat):Int)) by exact oqz [m] [] [] (.no (.il (.a (.a (.m 2 (.c Y0)) 1) 1) (.c (.a (.m 2 Y0) 0)))) [1] rfl)];rfl
  |1=>unfold Builtin.Range.rangeSize;rw[if_pos (by decide),if_neg (show ¬ (2*(m:Int)+1<((2*m+1:Nat):Int)) by exact oqz [m] [] [] (.no (.il (.a (.a (.m 2 (.c Y0)) 1) 1) (.c (.a (.m 2 Y0) 1)))) [1] rfl)];rfl
  |n+2 =>
   have e:((2*m+(n+2):Nat):Int)-(2*(m:Int)+1)-1=(n:Int):=oqz [m,n] [] [] (.ie (.s (.s (.c (.a (.m 2 Y0) (Y1+2))) (.a (.m 2 (.c Y0)) 1)) 1) (.c Y1)) [1] rfl
   have g:(2*(m:Int)+1)<((2*m+(n+2):Nat):Int):=oqz [m,n] [] [] (.il (.a (.a (.m 2 (.c Y0)) 1) 1) (.c (.a (.m 2 Y0) (Y1+2)))) [1] rfl
   rw[Nat.add_div_right n (by decide)]
   unfold Builtin.Range.rangeSize
   rw[if_pos (by decide),if_pos g,e];rfl
 rw[this]
section
variable {row:List Int}
theorem pQ{xs:List Int}{σ:Int}(hσ:σ=1\/σ=-1)(h:br xs 0=1):br (smul σ xs) 0=1:=by
 rw[fH,h];rcases hσ with rfl|rfl <;> rfl
theorem AJ{l:Int}(hl:row.getLast?=some l)(h0:0<l)(one:br row 0=1):∃l',(bv row).getLast?=some l'/\l'≠0/\∃σ:Int,(σ=1\/σ=-1)/\cv (bv row) l'=smul σ (bv row)/\(smul σ (bv row)).getLast?=some l:=by
 have oa:br (bv row) 0=1:=by rw[yt];exact one
 have key:∀ {l':Int} (σ:Int),(σ=1\/σ=-1)->(bv row).getLast?=some l'->σ*l'=l->cv (bv row) l'=smul σ (bv row)/\(smul σ (bv row)).getLast?=some l:=fun {l'} σ hσ h e=>by
  have l0:l'≠0:=fun g=>by rw[g,Hh] at e;exact oqz [] [l] [(.il (0+1) Y0),(.ie 0 Y0)] .ff [101] rfl h0 e
  have m:=Hd h
  have hs:(smul σ (bv row)).getLast?=some l:=by rw[ir h,e]
  refine ⟨AA (a:=gOf (bv row) l') (b:=σ) (eI m l0) (pQ hσ oa) (bT h) hs (cL m l0) h0 (fU m l0) (by rcases hσ with rfl|rfl <;> decide) fun t=>?_,hs⟩
  rw[<- kP,bQ,<- HJ]
  rcases hσ with rfl|rfl <;> omega
 rcases oU hl with h|h
 ·exact ⟨l,h,by exact oqz [] [l] [(.il (0+1) Y0)] (.no (.ie Y0 0)) [101] rfl h0,1,.inl rfl,key 1 (.inl rfl) h (Hs l)⟩
 ·exact ⟨-l,h,by exact oqz [] [l] [(.il (0+1) Y0)] (.no (.ie (.g Y0) 0)) [110] rfl h0,-1,.inr rfl,key (-1) (.inr rfl) h (by exact oqz [] [-1*-l,l] [(.ie Y0 (.g (.m 1 (.g Y1))))] (.ie Y0 Y1) [101,11] rfl (HC 1 (-l)))⟩
theorem wY{σ:Int}(t:Re):evR (smul σ (bv row)) t=(σ:Re)*evR row (-t):=by rw[bG,x9]
theorem sV{σ:Int}(hσ:σ=1\/σ=-1):rsg (σ:Re)=σ:=by
 rw[kA];rcases hσ with rfl|rfl <;> rfl
theorem PG.opp{N p1 q1 p2 q2 σ:Int}{al lo hi:Re}{j:Nat}(d:PG row N al lo hi p1 q1 p2 q2 j)(hσ:σ=1\/σ=-1):PG (smul σ (bv row)) N (-al) (-hi) (-lo) (-p2) q2 (-p1) q1 j:=by
 obtain ⟨τ,hτ,sg⟩:=d.sg
 have l:=d.l;have u:=d.u;have b1:=d.b1;have b2:=d.b2
 have ng:∀ {x:Re}{p q:Int},Pt (N*8^j) x p q->Pt (N*8^j) (-x) (-p) q:=fun h=>⟨h.pos,by rw[Int.neg_gcd];exact h.one,iK h.val,by obtain ⟨a,ha⟩:=h.un;exact ⟨-a,by rw[cP,<- ha];grind⟩⟩
 refine ⟨⟨-(σ*τ),by rcases hσ with rfl|rfl <;> rcases hτ with rfl|rfl <;> decide,fun x p q hq hx h1 h2=>?_⟩,by grind,by grind,by rw[wY,show - -al=al by grind,d.rt];grind,fun h=>?_,by rw[aW,cY];exact d.ln,?_,d.n0,d.n1,ng d.a2,ng d.a1,by rw[show -lo - -hi=hi-lo by grind];exact d.wd,by grind,by grind⟩
 ·have k:=sg (-x) (-p) q hq (iK hx) (by grind) (by grind)
  rw[wY,eX,k,sV hσ,show -x-al=-(x - -al) by grind,qc,Int.mul_neg,Int.mul_neg,<- HJ,HC]
 ·have:=congrArg List.length h
  rw[aW,cY] at this
  exact d.ne (HI this)
 ·have s:=qL d.sm
  intro x hx
  refine ae (Hq.mp hx) fun y hy zq25=>?_;subst zq25
  rcases hσ with rfl|rfl
  ·rw[Hs];exact s y hy
  ·rw[show -1*y=-y by exact oqz [] [-1*y,y] [(.ie Y0 (.g (.m 1 Y1)))] (.ie Y0 (.g Y1)) [101,11] rfl (HC 1 (y))];exact (s y hy).neg
end
section
variable {sub:Nat->Nat->Bool}{P:List Fn}{n:Nat}{H:Hp}{Q:V->Hp->Prop}{X:Nat->Hp->Prop}{W:Nat->Prop}{NN:Loc->Hp->Prop}{R:V->Hp->Prop}{Y:Nat->Hp->Prop}{Φ:Call}
theorem sG{K:Hp}{o0:Option V}(hW:W K.length):∀ (xs pre:List Int) (m:Nat) (o2:Option V),pre.length=2*m->(∀o2,NN [o0,some (.lst K.length),o2] (K++[(pre++bv xs).map .int])) ->
  cU (fun ρ2 H2 k=>wpS sub Φ W vK ρ2 H2 k R Y) 2 ((List.range (xs.length / 2)).map fun (i:Nat)=>V.int (2*(m:Int)+1+2*(i:Int))) [o0,some (.lst K.length),o2] (K++[(pre++xs).map .int]) NN
 | [],pre,m,o2,_,hN=>hN o2
 | [x],pre,m,o2,_,hN=>by rw[G8,show 1 / 2=0 by decide];exact hN o2
 |x::y::r,pre,m,o2,hp,hN=>by
  rw[show (x::y::r).length / 2=r.length / 2+1 by simp only[List.length_cons];exact oqz [(r.length+1+1) / 2,r.length,(r.length+1+1) % 2,r.length / 2,r.length % 2] [] [(.an (.eq (Y1+1+1) (.a (.m 2 Y0) Y2)) (.le (Y2+1) 2)),(.an (.eq Y1 (.a (.m 2 Y3) Y4)) (.le (Y4+1) 2))] (.eq Y0 (Y3+1)) [101012,1010102] rfl (Mine.BY (r.length+1+1) 2 (Ja _)) (Mine.BY (r.length) 2 (Ja _)),JK,G1,Hw]
  have hg:((pre++x::y::r).map V.int)[2*m+1]?=some (.int y):=by
   rw[G9,Hk (by rw[GO];exact oqz [pre.length,m] [] [(.eq Y0 (.m 2 Y1))] (.le Y0 (.a (.m 2 Y1) 1)) [11] rfl hp),GO,hp,Ib];rfl
  have hlt:2*m+1<((pre++x::y::r).map V.int).length:=(GX.mp hg).1
  have e1:2*(m:Int)+1+2*((0:Nat):Int)=((2*m+1:Nat):Int):=oqz [m] [] [] (.ie (.a (.a (.m 2 (.c Y0)) 1) (.m 2 (.c 0))) (.c (.a (.m 2 Y0) 1))) [1] rfl
  have hs:((pre++x::y::r).map V.int).set (2*m+1) (.int (-y))=((pre++[x,-y])++r).map V.int:=by
   rw[G9,JO _ _ (by rw[GO];exact oqz [pre.length,m] [] [(.eq Y0 (.m 2 Y1))] (.le Y0 (.a (.m 2 Y1) 1)) [11] rfl hp),GO,hp,Ib,G0,G9];rfl
  show wpS sub Φ W vK [o0,some (.lst K.length),some (V.int (2*(m:Int)+1+2*((0:Nat):Int)))] _ _ R Y
  rw[e1]
  dsimp only[vK,qS1,qS2,qS5,qE5,qE9,aU,cu,aa,bO,fu,af]
  refine jS (ai _ _ _) (HW _) hg ?_
  refine ⟨hW,ix2 (ai _ _ _) (aG hlt) ?_⟩
  rw[cy,hs]
  have:=sG hW r (pre++[x,-y]) (m+1) (some (.int ((2*m+1:Nat):Int))) (by rw[GR,hp];show 2*m+2=_;exact oqz [m] [] [] (.eq (.a (.m 2 Y0) 2) (.m 2 (Y0+1))) [1] rfl) fun o2=>by rw[G0];exact hN o2
  rw[show (fun (i:Nat)=>V.int (2*((m+1:Nat):Int)+1+2*(i:Int)))=(fun (i:Nat)=>V.int (2*(m:Int)+1+2*(i:Int))) ∘ Nat.succ from funext fun i=>by show V.int _=V.int _;congr 1;exact oqz [m,i] [] [] (.ie (.a (.a (.m 2 (.c (Y0+1))) 1) (.m 2 (.c Y1))) (.a (.a (.m 2 (.c Y0)) 1) (.m 2 (.c (Y1+1))))) [1] rfl] at this
  exact this
theorem Ce(zT:TT P){row:List Int}{l p1 q1 p2 q2:Int}(hl:row.getLast?=some l)(l0:0<l)(one:br row 0=1)(h13:row.length<=13)
  (hQ:∀σ H',H<+:H'->(σ=1\/σ=-1)->(smul σ (bv row)).getLast?=some l->br (smul σ (bv row)) 0=1->Q (pg (smul σ (bv row)) (-p2) q2 (-p1) q1) H'):ag sub P (n+3) 33 [pg row p1 q1 p2 q2] H Q X:=by
 obtain ⟨l',hl',l0',σ,hσ,hr,hs⟩:=AJ hl l0 one
 refine ao zT.a33 rfl ?_
 dsimp only[DO]
 generalize hT:Ck 8 5=T
 generalize hB:vK=B
 dsimp only[qS2,qS3,dp,qE1,qE5,b6,aU,f9,aA,az,qO1,qI1,qI3,cJ,cE,my,cg,aD,aB,ay,ax,aO,aC,aq,aX,aa,af,aH,Nat.reduceSub,pg]
 refine ⟨by rw[GO];unfold lim;exact owk (by decide) h13,?_⟩
 refine ej (g:=fun x=>x) (fun x hx k hk=>hk) ?_
 rw[List.map_id']
 refine ifSome.mk (ai _ _ _) ?_
 rw[GO]
 refine ⟨1,(row.length:Int),2,rfl,aK (by decide) (by decide),aK (by exact oqz [row.length] [] [] (.il (.g 1000000) (.c Y0)) [1] rfl) (by exact oqz [row.length] [] [(.le Y0 13)] (.il (.c Y0) 1000000) [11] rfl h13),.inr (.inr rfl),?_⟩
 have er1:=AE 0 row.length
 rw[show 2*((0:Nat):Int)+1=1 from rfl,show ((2*0+row.length:Nat):Int)=(row.length:Int) by exact oqz [row.length] [] [] (.ie (.c (0+Y0)) (.c Y0)) [1] rfl] at er1
 rw[er1,Hw]
 subst hB
 refine sG (K:=H) (m:=0) (pre:=[]) ⟨GU _,nofun⟩ row _ rfl fun o2=>?_
 subst hT
 rw[List.nil_append]
 dsimp only[Ck,qS1,qS2,qS9,qE1,qE5,aM,b6,aU,dN,aA,az,kr,bJ,bI,aa,af]
 refine iV (n:=n+1) (ng:=ngQ) kK zT.a8 (fun a b H' Z X' hz=>fo zT.a0 hz) (v:=.lst H.length) (row:=bv row) (l:=l') (ai _ _ _) hl' l0' (by rw[cY];exact owk (by decide) h13) ?_
 rw[hr]
 dsimp only[dc]
 refine ifSome.mk (ai _ _ _) ?_
 refine uU zT.a5 ?_
 refine uU zT.a5 ?_
 exact hQ σ _ (ah (aj _ _) (aj _ _)) hσ hs (pQ hσ (by rw[yt];exact one))
end
end Mine
namespace Mine
open PySem Re
theorem jr{p q:Int}{x:Re}(hq:0<q)(e:(q:Re)*x=p):(0<=p ↔ 0<=x)/\(p<=0 ↔ x<=0):=by
 have hq':=bD hq
 constructor
 ·constructor
  ·intro h
   have:=aZ h
   rw[<- e,aE] at this
   refine IN.mp fun hx=>?_
   have:=mul_pos hq' (show 0 < -x by grind)
   grind
  ·intro h
   refine gT ?_
   rw[<- e,aE];exact ac (G4 hq') h
 ·constructor
  ·intro h
   have:=aZ h
   rw[<- e,aE] at this
   refine IN.mp fun hx=>?_
   have:=mul_pos hq' hx
   grind
  ·intro h
   refine gT ?_
   rw[<- e,aE]
   have:=ac (G4 hq') (show 0<=-x by grind)
   grind
theorem C6:∀ {row:List Int}{c:Int},row[0]?=some c->evR row 0=(c:Re)
 |x::r,c,h=>by cases h;rw[aP];grind
section
variable {sub:Nat->Nat->Bool}{P:List Fn}{n sg:Nat}{H:Hp}{Q:V->Hp->Prop}{X:Nat->Hp->Prop}{W:Nat->Prop}{NN:Loc->Hp->Prop}{R:V->Hp->Prop}{Y:Nat->Hp->Prop}
variable {row:List Int}{N p1 q1 p2 q2:Int}{al lo hi:Re}{j:Nat}
theorem Gc(zT:TT P)(d:PG row N al lo hi p1 q1 p2 q2 j)(hj:j<=182700)(h1:lo<0)(h2:0<hi)(h0:al≠0){o0 o3:Option V}(hR:R (.int (rsg al)) H) :
  wpS sub (ag sub P (n+1)) W (zC 6) [o0,some (.tup (row.map .int)),some (pt p1 q1),o3] H NN R Y:=by
 obtain ⟨σ,hσ,s⟩:=d.sg
 have L1:=d.low1 hj
 dsimp only[zC,Fg,qS1,qS2,qS9,bw,qE1,qE5,qE9,bx,aM,dN,aA,az,aa,af]
 refine gg zT rfl d.sm L1.top L1.bot (vD d.ln) ?_
 refine gg zT rfl d.sm (L:=732000) (Sm.zero) (Sm.one (k:=731999)) (vD d.ln) ?_
 dsimp only[dQ,aN,aa]
 have z1:((1:Int):Re)*0=((0:Int):Re):=by rw[aE];grind
 rw[eJ d.ne d.a1.pos d.a1.val,eJ d.ne (by decide) z1,s lo p1 q1 d.a1.pos d.a1.val (Ha _) (bM d.lh),s 0 0 1 (by decide) z1 (bM h1) (bM h2),bh (Ay d.l)]
 rcases aS al with g|g|g
 ·rw[bj g] at hR
  rw[bh (show 0-al<0 by grind),decide_eq_true rfl];exact hR
 ·rw[bh g] at hR
  rw[bj (show 0<0-al by grind),decide_eq_false (by rcases hσ with rfl|rfl <;> decide)];exact hR
 ·exact absurd g h0
theorem E9(zT:TT P)(d:PG row N al lo hi p1 q1 p2 q2 j)(hj:j<=182700)(hQ:Q (.int (rsg al)) H):ag sub P (n+2) 24 [pg row p1 q1 p2 q2] H Q X:=by
 have i1:=jr d.a1.pos d.a1.val
 have i2:=jr d.a2.pos d.a2.val
 refine ao zT.a24 rfl ?_
 dsimp only[bSp]
 generalize hT:C3 6=T
 dsimp only[qS1,qS2,qS4,qS9,bw,qE1,qE5,bx,aU,oK,bu,aN,aD,aB,ay,ax,aO,aC,aq,fq,aa,fy,af,aH,iz,Nat.reduceSub,Nat.reduceAdd,List.length_nil,pg]
 refine ⟨rfl,?_⟩
 by_cases c1:0<=p1
 ·rw[decide_eq_true c1]
  rw[bj (rJ (i1.1.mp c1) d.l)] at hQ
  exact hQ
 rw[decide_eq_false c1]
 have h1:lo<0:=Jx.mp fun h=>c1 (i1.1.mpr h)
 subst hT
 dsimp only[C3]
 generalize hT:Dn 6=T
 dsimp only[qS1,qS2,qS9,bw,qE1,qE5,qE9,bx,aU,yY,bu,aN,aR,aa,af]
 by_cases c2:p2<=0
 ·rw[decide_eq_true c2]
  rw[bh (uG d.u (i2.2.mp c2))] at hQ
  exact hQ
 rw[decide_eq_false c2]
 have h2:0<hi:=Jx.mp fun h=>c2 (i2.2.mpr h)
 subst hT
 dsimp only[Dn]
 generalize hT:zC 6=T
 dsimp only[qS1,qS2,qS9,bw,qE1,qE5,bx,aU,aR,aa,af]
 obtain ⟨c,hc⟩:∃c,row[0]?=some c:=by
  cases hr:row with
  |nil=>exact absurd hr d.ne
  |cons x r=>exact ⟨x,rfl⟩
 refine As hc rfl ?_
 dsimp only[dQ,aN,aa]
 obtain ⟨σ,hσ,s⟩:=d.sg
 have z1:((1:Int):Re)*0=((0:Int):Re):=by rw[aE];grind
 have s0:=s 0 0 1 (by decide) z1 (bM h1) (bM h2)
 rw[C6 hc] at s0
 by_cases c3:c=0
 ·rw[decide_eq_true c3]
  rw[c3,aE,bF] at s0
  have:rsg (0-al)=0:=by rcases hσ with rfl|rfl <;> omega
  rw[GD (rsg_is0.mp this),bF] at hQ
  exact hQ
 ·rw[decide_eq_false c3]
  subst hT
  refine Gc zT d hj h1 h2 (fun h=>c3 ?_) hQ
  rw[h,show (0:Re)-0=0 by grind,bF,Hh] at s0
  exact fQ (by rw[rsg_is0.mp s0,aE])
end
theorem xD{b:Nat}{t:Re}(h1:ab t<=1):∀ {xs:List Int},AllSm b xs->ab (evR xs t)<=((((xs.length:Nat)*2^b:Nat):Int):Re)
 | [],_=>by show ab 0<=_;rw[List.length_nil,Nat.zero_mul];exact f4 (n:=0) (by decide) (by decide)
 |c::r,h=>by
  have ih:=xD h1 h.tl
  have hc:ab (c:Re)<=(((2^b:Nat):Int):Re):=f4 (by have:=h.hd;unfold Sm at this;exact oqz [2^b,c.natAbs] [c] [(.le (Y1+1) Y0),(.an (.il Y0 (.c Y1)) (.il (.g Y0) (.c Y1)))] (.il (.g (.c Y0)) Y0) [1011] rfl this (bC (c))) (by have:=h.hd;unfold Sm at this;exact oqz [2^b,c.natAbs] [c] [(.le (Y1+1) Y0),(.an (.il Y0 (.c Y1)) (.il (.g Y0) (.c Y1)))] (.il Y0 (.c Y0)) [111] rfl this (bC (c)))
  rw[aP,List.length_cons,IX,Int.natCast_add,ba]
  have k1:=rI (c:Re) (t*evR r t)
  rw[cQ] at k1
  have k2:=ac (cH h1) (aI (evR r t))
  grind
theorem q8{b:Nat}{al:Re}(h0:al≠0):∀ {xs:List Int},(∃x∈xs,x≠0)->AllSm b xs->evR xs al=0->1<=(((xs.length*2^b:Nat):Int):Re)*ab al
 | [],hx,_,_=>by refine ae (hx) fun x hx _=>?_;cases hx
 |c::r,hx,h,e=>by
  have mono:1<=(((r.length*2^b:Nat):Int):Re)*ab al->1<=((((c::r).length*2^b:Nat):Int):Re)*ab al:=fun k=>by
   refine tZ k (aI _) (HM _ (Ij _))
  rw[aP] at e
  by_cases hc:c=0
  ·rw[hc,aE] at e
   refine mono (q8 h0 ?_ h.tl (bY (x:=al) (by rw[<- e];grind) h0))
   refine ae (hx) fun x hx x0=>?_
   rcases Hf.mp hx with g|g
   ·exact absurd (g.trans hc) x0
   ·exact ⟨x,g,x0⟩
  ·by_cases h1:ab al<=1
   ·refine mono ?_
    have k1:=xD h1 h.tl
    have k2:=rH hc
    have k3:ab (c:Re)=ab al*ab (evR r al):=by rw[<- cQ,<- qI];congr 1;grind
    rw[k3] at k2
    have:=ac (aI al) (cH k1)
    generalize (((r.length*2^b:Nat):Int):Re)=C at *
    grind
   ·have p:1<=(c::r).length*2^b:=Nat.mul_pos (Ja _) (I9 b)
    have k1:=aZ (Il.mpr p)
    have one:(((1:Nat):Int):Re)=1:=rfl
    rw[one] at k1
    have:=ac (cH k1) (aI al)
    generalize ((((c::r).length*2^b:Nat):Int):Re)=C at *
    grind
end Mine
namespace Mine
open PySem Re
section
variable {sub:Nat->Nat->Bool}{P:List Fn}{n:Nat}{H:Hp}{Q:V->Hp->Prop}{X:Nat->Hp->Prop}
theorem Bp(zT:TT P){a b:Int}{k:Nat}(hb:b≠0)(ha:Sm k a)(hs:Sm k b)(hk:k<=60000000)(hQ:∀p q:Int,Low k p q->p*b=a*q->Q (pt p q) H):ag sub P (n+2) 1 [.int a,.int b] H Q X:=by
 rcases Jj hb with h|h
 ·refine ao zT.a1 rfl ?_
  dsimp only[gW,qS1,qS2,qS3,qS9,bw,vq,qE1,qE5,qE8,qE9,bx,aM,dN,aA,az,nU,fh,dQ,aN,aD,aB,ay,ax,aO,aC,aq,aa,af,aH,Nat.reduceSub]
  rw[decide_eq_false hb]
  dsimp only[aR]
  refine fo zT.a0 ?_
  rw[decide_eq_true h]
  dsimp only[nU,aX]
  have g0:0<a.gcd b:=Jg a hb
  have gne:-((a.gcd b:Nat):Int)≠0:=oqz [a.gcd b] [] [(.le (0+1) Y0)] (.no (.ie (.g (.c Y0)) 0)) [110] rfl g0
  have d1:-((a.gcd b:Nat):Int) ∣ a:=Int.neg_dvd.mpr (Int.gcd_dvd_left a b)
  have d2:-((a.gcd b:Nat):Int) ∣ b:=Int.neg_dvd.mpr (Int.gcd_dvd_right a b)
  have e1:=Ir d1
  have e2:=Ir d2
  have hg:(-a).gcd (-b)=a.gcd b:=by rw[Int.neg_gcd,Int.gcd_neg]
  generalize a.fdiv (-((a.gcd b:Nat):Int))=p at *
  generalize b.fdiv (-((a.gcd b:Nat):Int))=q at *
  rw[Int.mul_neg] at e1 e2
  refine ⟨gne,gne,hQ _ _ (rz ha.neg hs.neg (by exact oqz [] [b] [(.il (Y0+1) 0)] (.il (0+1) (.g Y0)) [11] rfl h) (by rw[hg];exact oqz [] [p*(↑(a.gcd b):Int),a] [(.ie (.g Y0) Y1)] (.ie Y0 (.g Y1)) [11,101] rfl e1) (by rw[hg];exact oqz [] [q*(↑(a.gcd b):Int),b] [(.ie (.g Y0) Y1)] (.ie Y0 (.g Y1)) [11,101] rfl e2)) ?_⟩
  generalize ((a.gcd b:Nat):Int)=g at *
  rw[<- e1,<- e2];grind
 ·exact xF zT.a1 zT.a0 h ha hs hk hQ
end
structure Tgt (N:Int)(lo hi:Re)(j:Nat):Prop where
 n:Sm 32 N
 w:((2^j:Int):Re)*(hi-lo)<=((2^7:Int):Re)
 b1:-((2^31:Int):Re)<=lo
 b2:hi<=((2^31:Int):Re)
theorem Tgt.step{N D:Int}{lo hi lo' hi' al:Re}{x1 y1 x2 y2:Int}{j:Nat}(t:Tgt N lo hi j)(o:jM D al lo hi lo' hi' x1 y1 x2 y2):Tgt N lo' hi' (j+1):=
 ⟨t.n,by rw[Hr,au];exact nl (G4 (bD (cG (by decide) j))) t.w o.wd,bU t.b1 o.l1,bU o.u2 t.b2⟩
theorem Gw{j b:Nat}{al lo hi:Re}(h1:lo<=0)(h2:0<=hi)(l:lo<al)(u:al<hi)(hw:((2^j:Int):Re)*(hi-lo)<=((2^7:Int):Re))(h:1<=(((13*2^b:Nat):Int):Re)*ab al):j<b+11:=by
 refine JU fun hj=>?_
 have k1:ab al<=hi-lo:=i5 (by grind) (by grind)
 have k2:((2^(b+11):Int):Re)<=((2^j:Int):Re):=aZ (by
  have:=HL (n:=2) (by decide) hj
  have e1:((2^(b+11):Nat):Int)=(2:Int)^(b+11):=IF 2 _
  have e2:((2^j:Nat):Int)=(2:Int)^j:=IF 2 _
  exact oqz [2^(b+11),2^j] [2^(b+11),2^j] [(.le Y0 Y1),(.ie (.c Y0) Y0),(.ie (.c Y1) Y1)] (.il Y0 Y1) [11011] rfl this e1 e2)
 have k3:(((13*2^b:Nat):Int):Re)*((2^7:Int):Re)<((2^(b+11):Int):Re):=by
  rw[<- au]
  refine io ?_
  rw[HQ,IF,IZ]
  have:=Ho (n:=(2:Int)) (m:=b) (by decide)
  show (13:Int)*2^b*2^7<2^b*2^11
  omega
 have w0:0<hi-lo:=by grind
 have J0:0<=((2^j:Int):Re):=G4 (bD (cG (by decide) j))
 have c0:0<=(((13*2^b:Nat):Int):Re):=by rw[<- aE];exact aZ (HW _)
 have m1:=ac c0 (cH k1)
 have m2:=ac (cH k2) (G4 w0)
 have m3:=ac c0 (cH hw)
 have m4:=mul_pos w0 (eO k3)
 generalize (((13*2^b:Nat):Int):Re)=C at *
 generalize ((2^7:Int):Re)=D at *
 generalize ((2^(b+11):Int):Re)=E at *
 generalize ((2^j:Int):Re)=J at *
 -- E w <= J w <= D,C al >= 1,C al <= C w
 have m5:=ac (G4 w0) (show 0<=D-J*(hi-lo) by grind)
 have m6:C*D<E:=k3
 have m7:E*(hi-lo)<=D:=by grind
 have m8:1<=C*(hi-lo):=by grind
 have D0:0<=D:=by
  have:=ac J0 (G4 w0)
  grind
 have m9:=ac D0 (cH m8)
 clear m1 m2 m3 m5 k1 k2 hw h
 grind
theorem nW(t:Re)(ys:List Int):∀xs:List Int,evR (xs++ys) t=evR xs t+t^xs.length*evR ys t
 | []=>by rw[List.nil_append,List.length_nil,GT,dE];grind
 |c::r=>by rw[List.cons_append,aP,aP,nW t ys r,List.length_cons,GQ];grind
theorem rT{t s:Re}(h:t*s=1):∀xs:List Int,t*evR xs.reverse t=t^xs.length*evR xs s
 | []=>by show t*0=_*0;grind
 |c::r=>by
  have ih:=rT h r
  rw[IO,nW,Hz,aP,dE,aP,List.length_cons,GQ]
  generalize t^r.length=p at *
  generalize evR r s=y at *
  generalize evR r.reverse t=z at *
  grind
theorem ux(x:Re):∀n:Nat,rsg (x^n)=rsg x^n
 |0=>by rw[GT,HH];exact bj jQ
 |n+1=>by rw[GQ,eX,ux x n,Hr]
theorem wm{al:Re}(h0:al≠0):∀ {xs:List Int},(∃x∈xs,x≠0)->evR xs al=0->∃β:Re,al*β=1
 | [],hx,_=>by refine ae (hx) fun x hx _=>?_;cases hx
 |c::r,hx,e=>by
  rw[aP] at e
  by_cases hc:c=0
  ·rw[hc,aE] at e
   refine wm h0 (xs:=r) ?_ (bY (x:=al) (by rw[<- e];grind) h0)
   refine ae (hx) fun x hx x0=>?_
   rcases Hf.mp hx with g|g
   ·exact absurd (g.trans hc) x0
   ·exact ⟨x,g,x0⟩
  ·have hr:=dw (p:=1) hc
   refine ⟨-(evR r al*rq 1 c),?_⟩
   have one:((1:Int):Re)=1:=rfl
   rw[one] at hr
   generalize rq 1 c=z at *
   generalize evR r al=y at *
   generalize (c:Re)=k at *
   have:al*-(y*z)=-(al*y)*z:=by grind
   rw[this,show -(al*y)=k by grind,hr]
theorem f6{x y z:Re}(h:x=y*z)(hy:0<y):(0<=x->0<=z)/\rsg x=rsg z:=by
 refine ⟨fun hx=>IN.mp fun hz=>?_,by rw[h,eX,bj hy,Hs]⟩
 have:=mul_pos hy (show 0 < -z by grind)
 grind
theorem za{lo hi x:Re}(hs:0<lo\/hi<0)(h1:lo<=x)(h2:x<=hi):0<lo*x/\0<hi*x/\((0<lo/\0<x)\/(hi<0/\x<0)):=by
 rcases hs with h|h
 ·have hx:=uG h h1
  exact ⟨mul_pos h hx,mul_pos (uG hx h2) hx,.inl ⟨h,hx⟩⟩
 ·have hx:=rJ h2 h
  have hl:=rJ h1 hx
  have a1:=mul_pos (show 0 < -lo by grind) (show 0 < -x by grind)
  have a2:=mul_pos (show 0 < -hi by grind) (show 0 < -x by grind)
  exact ⟨by grind,by grind,.inr ⟨h,hx⟩⟩
theorem Eo{lo hi lo' hi' al β x y:Re}(e1:hi*lo'=1)(e2:lo*hi'=1)(e3:al*β=1)(e4:x*y=1)(p1:0<lo'*x)(p2:0<hi'*x)(p3:0<β*x)(h1:lo'<=x)(h2:x<=hi'):lo<=y/\y<=hi/\rsg (y-al)=-rsg (x-β):=by
 have k1:hi'-x=(hi'*x)*(y-lo):=by clear e1 e3 p1 p2 p3 h1 h2;grind
 have k2:x-lo'=(lo'*x)*(hi-y):=by clear e2 e3 p1 p2 p3 h1 h2;grind
 have k3:β-x=(β*x)*(y-al):=by clear e1 e2 p1 p2 p3 h1 h2;grind
 have a1:=(f6 k1 p2).1 (cH h2)
 have a2:=(f6 k2 p1).1 (cH h1)
 have a3:=(f6 k3 p3).2
 refine ⟨by clear k1 k2 k3 e1 e2 e3 e4;grind,by clear k1 k2 k3 e1 e2 e3 e4;grind,?_⟩
 rw[<- a3,<- qc];congr 1;grind
theorem CH{k:Int}(h:k=1\/k=-1)(n:Nat):k^n=1\/k^n=-1:=by
 induction n with
 |zero=>exact .inl (HH k)
 |succ n ih=>rw[Hr];rcases ih with i|i <;> rcases h with g|g <;> rw[i,g] <;> decide
theorem wO{k m:Int}(h:k=1\/k=-1)(g:m=1\/m=-1):k*m=1\/k*m=-1:=by
 rcases h with rfl|rfl <;> rcases g with rfl|rfl <;> decide
section
variable {row zs:List Int}{N p1 q1 p2 q2 lz:Int}{al lo hi β:Re}{j k:Nat}
theorem qa(d:PG row N al lo hi p1 q1 p2 q2 j)(t:Tgt N lo hi j)(hj:j<=52):(Sm 221 p1/\Sm 190 q1)/\Sm 221 p2/\Sm 190 q2:=by
 have s8:Sm 157 ((8:Int)^j):=by
  unfold Sm
  rw[Int.natAbs_pow]
  exact Hx (HL (by decide) hj) (by decide)
 have hD:=d.dpos
 have sD:Sm 189 (N*8^j):=t.n.mul s8
 have sDB:Sm 221 (N*8^j*2^31):=sD.mul (show Sm 32 ((2:Int)^31) by unfold Sm;decide)
 have key:∀ {x:Re}{p q:Int},Pt (N*8^j) x p q->-((2^31:Int):Re)<=x->x<=((2^31:Int):Re)->Sm 221 p/\Sm 190 q:=fun {x p q} h h1 h2=>by
  obtain ⟨a,ha⟩:=h.un
  have e:p*(N*8^j)=a*q:=fQ (by rw[au p,au a,<- h.val,<- ha];grind)
  exact ⟨(h.low (B:=2^31) hD (by decide) h1 h2 sDB).top,(i8 hD (xL h.pos h.one hD e) sD).mono (by decide)⟩
 have lh:=bM d.lh
 exact ⟨key d.a1 t.b1 (bU lh t.b2),key d.a2 (bU t.b1 lh) t.b2⟩
theorem t7{p q:Int}{x:Re}(hp:p≠0)(hq:0<q)(s:Sm 190 q)(e:(p:Re)*x=q):-((2^200:Int):Re)<=x/\x<=((2^200:Int):Re):=by
 have k1:=rH hp
 have k2:ab (q:Re)=ab (p:Re)*ab x:=by rw[<- cQ,e]
 have k3:ab (q:Re)<=((2^200:Int):Re):=f4 (by unfold Sm at s;have:(2:Nat)^190<=2^200:=HL (by decide) (by decide);have e:((2^200:Nat):Int)=(2:Int)^200:=IF 2 200;exact oqz [] [2^200,q] [(.il (0+1) Y1),(.ie (.c 1606938044258990275541962092341162602522202993782792835301376) Y0)] (.il (.g Y0) Y1) [111] rfl hq e) (by unfold Sm at s;have:(2:Nat)^190<=2^200:=HL (by decide) (by decide);have e:((2^200:Nat):Int)=(2:Int)^200:=IF 2 200;exact oqz [q.natAbs] [q,2^200] [(.le (Y0+1) 1569275433846670190958947355801916604025588861116008628224),(.ie (.c 1606938044258990275541962092341162602522202993782792835301376) Y1),(.an (.il Y0 (.c Y0)) (.il (.g Y0) (.c Y0)))] (.il Y0 Y1) [10111] rfl s e (bC (q)))
 have k4:=ac (cH k1) (aI x)
 have k5:=cT x
 generalize ((2^200:Int):Re)=B at *
 constructor <;> grind
theorem gD{x y:Re}(h:x*y=1):(0<x->0<y)/\(x<0->y<0):=by
 have o:=jQ
 constructor
 ·intro hx
  rcases aS y with g|g|g
  ·exact g
  ·have:=mul_pos hx (show 0 < -y by grind);grind
  ·rw[g] at h;grind
 ·intro hx
  rcases aS y with g|g|g
  ·have:=mul_pos (show 0 < -x by grind) g;grind
  ·exact g
  ·rw[g] at h;grind
theorem wD{x y x' y':Re}(h1:x*x'=1)(h2:y*y'=1)(hs:(0<x'/\0<y')\/(x'<0/\y'<0))(h:x<y):y'<x':=by
 have p:0<x'*y':=by
  rcases hs with ⟨a,b⟩ | ⟨a,b⟩
  ·exact mul_pos a b
  ·have:=mul_pos (show 0 < -x' by grind) (show 0 < -y' by grind);grind
 have:=mul_pos p (eO h)
 have e:x'*y'*(y-x)=x'-y':=by clear p this h hs;grind
 rw[e] at this
 exact GL this
theorem yi(t:Re)(zs:List Int):∀k:Nat,evR (zs++bW k) t=evR zs t:=fun k=>by
 have z:evR (bW k) t=0:=by
  unfold bW
  induction k with
  |zero=>rfl
  |succ k ih=>rw[List.replicate_succ,aP,ih,aE];grind
 rw[nW,z];grind
theorem PG.inv(d:PG row N al lo hi p1 q1 p2 q2 j)(t:Tgt N lo hi j)(hj:j<=52)(hs:0<p1\/p2<0)(hb:al*β=1)(hz:row.reverse=zs++bW k)(hlz:zs.getLast?=some lz)(z0:lz≠0)
  {x1 y1 x2 y2:Int} (L1:Low 221 x1 y1) (E1:x1*p2=q2*y1) (L2:Low 221 x2 y2) (E2:x2*p1=q1*y2):∃lo' hi':Re,PG (cv zs lz) (p1*p2).natAbs β lo' hi' x1 y1 x2 y2 0:=by
 refine lc (qa d t hj) fun zq26 sp2 sq2=>?_;obtain ⟨sp1,sq1⟩:=zq26
 have i1:=jr d.a1.pos d.a1.val
 have i2:=jr d.a2.pos d.a2.val
 have hsl:0<lo\/hi<0:=by
  rcases hs with h|h
  ·exact .inl (Jx.mp fun g=>absurd (i1.2.mpr g) (IM.mpr h))
  ·exact .inr (Jx.mp fun g=>absurd (i2.1.mpr g) (IM.mpr h))
 have p10:p1≠0:=fun h=>by
  rcases hsl with g|g
  ·have:=i1.2.mp (by exact oqz [] [p1] [(.ie Y0 0)] (.il Y0 0) [11] rfl h);exact absurd g (IN.mpr this)
  ·have:=i1.1.mp (by exact oqz [] [p1] [(.ie Y0 0)] (.il 0 Y0) [101] rfl h);exact absurd (rJ this (fj d.lh g)) (IN.mpr (Ha _))
 have p20:p2≠0:=fun h=>by
  rcases hsl with g|g
  ·have:=i2.2.mp (by exact oqz [] [p2] [(.ie Y0 0)] (.il Y0 0) [11] rfl h);exact absurd (uG (fj g d.lh) this) (IN.mpr (Ha _))
  ·have:=i2.1.mp (by exact oqz [] [p2] [(.ie Y0 0)] (.il 0 Y0) [101] rfl h);exact absurd g (IN.mpr this)
 have v1:=dw (p:=q2) p20
 have v2:=dw (p:=q1) p10
 have q1':=dt d.a1.pos
 have q2':=dt d.a2.pos
 have e1:hi*rq q2 p2=1:=ji q2' (by
  have:=d.a2.val
  generalize rq q2 p2=z at *
  have:(q2:Re)*(hi*z)=(q2*hi)*z:=by grind
  rw[this,d.a2.val,v1];grind)
 have e2:lo*rq q1 p1=1:=ji q1' (by
  generalize rq q1 p1=z at *
  have:(q1:Re)*(lo*z)=(q1*lo)*z:=by grind
  rw[this,d.a1.val,v2];grind)
 obtain ⟨b11,b12⟩:=t7 p20 d.a2.pos sq2 v1
 obtain ⟨b21,b22⟩:=t7 p10 d.a1.pos sq1 v2
 have y1p:=L1.pos
 have y2p:=L2.pos
 have val1:(y1:Re)*rq q2 p2=x1:=ji (fX p20) (by
  have:=congrArg (fun z:Int=>(z:Re)) E1
  rw[au,au] at this
  generalize rq q2 p2=z at *
  rw[show (p2:Re)*(y1*z)=(p2*z)*y1 by grind,v1,<- this];grind)
 have val2:(y2:Re)*rq q1 p1=x2:=ji (fX p10) (by
  have:=congrArg (fun z:Int=>(z:Re)) E2
  rw[au,au] at this
  generalize rq q1 p1=z at *
  rw[show (p1:Re)*(y2*z)=(p1*z)*y2 by grind,v2,<- this];grind)
 generalize rq q2 p2=lo' at *
 generalize rq q1 p1=hi' at *
 -- all of one sign
 have sgn:(0<lo/\0<hi/\0<al)\/(lo<0/\hi<0/\al<0):=by
  rcases hsl with h|h
  ·exact .inl ⟨h,fj h d.lh,fj h d.l⟩
  ·exact .inr ⟨fj d.lh h,h,fj d.u h⟩
 have sg':(0<lo'/\0<hi'/\0<β)\/(lo'<0/\hi'<0/\β<0):=by
  rcases sgn with ⟨h1,h2,h3⟩ | ⟨h1,h2,h3⟩
  ·exact .inl ⟨(gD e1).1 h2,(gD e2).1 h1,(gD hb).1 h3⟩
  ·exact .inr ⟨(gD e1).2 h2,(gD e2).2 h1,(gD hb).2 h3⟩
 have lt1:lo'<β:=wD hb e1 (sg'.imp (fun h=>⟨h.2.2,h.1⟩) fun h=>⟨h.2.2,h.1⟩) d.u
 have lt2:β<hi':=wD e2 hb (sg'.imp (fun h=>⟨h.2.1,h.2.2⟩) fun h=>⟨h.2.1,h.2.2⟩) d.l
 have hs':0<lo'\/hi'<0:=sg'.imp (fun h=>h.1) fun h=>h.2.1
 have mz:=Hd hlz
 have g0:=fU mz z0
 have ez:∀x:Re,((gOf zs lz:Int):Re)*evR (cv zs lz) x=evR row.reverse x:=fun x=>by rw[<- bG,fG,hz,yi]
 have hg:rsg ((gOf zs lz:Int):Re)=1\/rsg ((gOf zs lz:Int):Re)=-1:=Dx (fX g0)
 have zl:zs.length<=row.length:=by have:=congrArg List.length hz;rw[Hz,GR] at this;exact oqz [zs.length,row.length,(bW k).length] [] [(.eq Y1 (Y0+Y2))] (.le Y0 Y1) [101] rfl this
 have N0:0<(((p1*p2).natAbs:Nat):Int):=IR.mpr (Jf.mpr (HF p10 p20))
 have un:∀ {p q r:Int}{x:Re},(p:Re)*x=q->(p1*p2=r*p)->∃a:Int,(((((p1*p2).natAbs:Nat):Int)*8^0:Int):Re)*x=a:=fun {p q r x} e er=>by
  rw[HH,H7,er]
  rcases Int.natAbs_eq (r*p) with h|h
  ·exact ⟨r*q,by rw[<- h,au,au,<- e];grind⟩
  ·exact ⟨-(r*q),by rw[show ((((r*p).natAbs:Nat):Int))=-(r*p) by exact oqz [(r*p).natAbs] [r*p] [(.ie Y0 (.g (.c Y0)))] (.ie (.c Y0) (.g Y0)) [101,11] rfl h,cP,cP,au,au,<- e];grind⟩
 obtain ⟨σ,hσ,sgp⟩:=d.sg
 have τ:=rsg β
 have hτ:rsg β=1\/rsg β=-1:=by
  rcases sg' with h|h
  ·exact .inl (bj h.2.2)
  ·exact .inr (bh h.2.2)
 refine ⟨lo',hi',⟨-(rsg ((gOf zs lz:Int):Re)*(rsg β^(row.length+1)*σ)),?_,fun x p q hq hx h1 h2=>?_⟩,lt1,lt2,?_,fun h=>?_,by rw[cV];exact GP zl d.ln,fV mz z0 fun y hy=>d.sm y (List.mem_reverse.mp (by rw[hz];exact I7 _ hy)),N0,?_,⟨L1.pos,L1.one,val1,un v1 rfl⟩,⟨L2.pos,L2.one,val2,un v2 (HS p1 p2)⟩,?_,b11,b22⟩
 ·rcases wO hg (wO (CH hτ (row.length+1)) hσ) with h|h <;> rw[h] <;> decide
 ·refine lc (za hs' h1 h2) fun k1 k2 k3=>?_
  have hxβ:rsg x=rsg β/\0<β*x:=by
   rcases sg' with s|s
   ·have hx0:=uG s.1 h1
    exact ⟨by rw[bj hx0,bj s.2.2],mul_pos s.2.2 hx0⟩
   ·have hx0:=rJ h2 s.2.1
    exact ⟨by rw[bh hx0,bh s.2.2],by have:=mul_pos (show 0 < -β by grind) (show 0 < -x by grind);grind⟩
  have p0:p≠0:=fun h=>by
   rw[h,aE] at hx
   have:=bY hx (dt hq)
   rw[this] at k1
   exact absurd k1 (by grind)
  have vy:=dw (p:=q) p0
  have exy:x*rq q p=1:=ji (dt hq) (by
   generalize rq q p=z at *
   rw[show (q:Re)*(x*z)=(q*x)*z by grind,hx,vy];grind)
  -- y as a part
  obtain ⟨py,qy,hqy,hy⟩:∃py qy:Int,0<qy/\(qy:Re)*rq q p=py:=by
   rcases Jj p0 with h|h
   ·exact ⟨-q,-p,by exact oqz [] [p] [(.il (Y0+1) 0)] (.il (0+1) (.g Y0)) [11] rfl h,by rw[cP,cP,<- vy];grind⟩
   ·exact ⟨q,p,h,vy⟩
  generalize rq q p=y at *
  refine lc (Eo e1 e2 hb exy k1 k2 hxβ.2 h1 h2) fun j1 j2 j3=>?_
  have s1:=sgp y py qy hqy hy j1 j2
  have s2:=congrArg rsg (rT exy row)
  rw[eX,eX,ux,hxβ.1,<- ez x,eX,s1,j3] at s2
  rw[Hr]
  generalize rsg (evR (cv zs lz) x)=u at *
  generalize rsg ((gOf zs lz:Int):Re)=w at *
  generalize rsg β^row.length=m at *
  generalize rsg (x-β)=z at *
  generalize rsg β=r at *
  clear ez un sgp h1 h2 k1 k2 k3
  rcases hτ with rfl|rfl <;> rcases hg with rfl|rfl <;> grind
 ·have s2:=rT (t:=β) (s:=al) (by rw[I0];exact hb) row
  rw[d.rt,<- ez β] at s2
  have β0:β≠0:=fun h=>by rw[h] at hb;exact mV (by rw[<- hb];grind)
  exact bY (x:=((gOf zs lz:Int):Re)) (bY (x:=β) (by rw[s2];grind) β0) (fX g0)
 ·have:=congrArg List.length h
  rw[cV] at this
  rw[HI this] at hlz
  cases hlz
 ·have:=sp1.mul sp2
  unfold Sm at *
  rw[IK]
  exact JF this (HL (by decide) (by decide))
 ·have k:=aZ (show (2^200+2^200:Int)<=2^450 by decide)
  rw[ba] at k
  have one:((2^0:Int):Re)=1:=rfl
  rw[one]
  generalize ((2^200:Int):Re)=B at *
  generalize ((2^450:Int):Re)=C at *
  clear ez un sgp
  grind
end
end Mine
namespace Mine
open PySem Re
theorem RwB.of{R:List Int}{l:Int}{b:Nat}(hl:R.getLast?=some l)(l0:0<l)(h2:2<=R.length)(sm:AllSm b R):∃R0,RwB R R0 l b/\R0.length+1=R.length:=by
 obtain ⟨R0,rfl⟩:=Jw.mp hl
 rw[GR,G8] at h2
 exact ⟨R0,⟨rfl,fun h=>by rw[h] at h2;simp at h2,l0,sm⟩,by rw[GR,G8]⟩
section
variable {sub:Nat->Nat->Bool}{P:List Fn}{n be ti:Nat}{H:Hp}{Q:V->Hp->Prop}{X:Nat->Hp->Prop}{W:Nat->Prop}{NN:Loc->Hp->Prop}{R:V->Hp->Prop}{Y:Nat->Hp->Prop}
theorem vp(zT:TT P)
  {v:V}{row:List Int}{p1 q1 p2 q2 N:Int}{al lo hi:Re}{j:Nat} (hv:items H v=some (row.map .int)) (d:PG row N al lo hi p1 q1 p2 q2 j) (t:Tgt N lo hi j) (hj:j<=182700)
  (hQ:∀lo' hi' x1 y1 x2 y2,PG row N al lo' hi' x1 y1 x2 y2 (j+1)->Tgt N lo' hi' (j+1)->Q (.tup [v,pt x1 y1,pt x2 y2]) H) :
  ag sub P (n+5) 21 [.tup [v,pt p1 q1,pt p2 q2]] H Q X:=mv zT hv d hj fun lo' hi' x1 y1 x2 y2 O=>hQ _ _ _ _ _ _ (d.step O) (t.step O)
inductive DvI (H:Hp) (u:V) (B:List Int) (N:Int) (be:Re) (n:Nat) (ρ:Loc) (H':Hp):Prop
 |mk (e:H'=H) (j:Nat) (lo hi:Re) (p1 q1 p2 q2:Int) (c0:n+j=100) (c1:PG B N be lo hi p1 q1 p2 q2 j) (c2:Tgt N lo hi j) (c3:j<=52) (c4:ρ=[some u,some (pg B p1 q1 p2 q2),none,none,none])
theorem t5(zT:TT P){u:V}{B:List Int}{N p1 q1 p2 q2:Int}{al lo hi β:Re}{j:Nat}(tB:∃x∈B,x≠0)(d:PG B N al lo hi p1 q1 p2 q2 j)(t:Tgt N lo hi j)(hj:j<=52)(hs:0<p1\/p2<0)(hb:al*β=1)
  (hR:∀ (zs:List Int) (lz:Int) lo' hi' x1 y1 x2 y2 N' H',H<+:H'->zs.getLast?=some lz->lz≠0->zs.length<=B.length->(∀x∈zs,x∈B)->PG (cv zs lz) N' β lo' hi' x1 y1 x2 y2 0->ag sub P (n+7) ti [u,pg (cv zs lz) x1 y1 x2 y2] H' R fun _ _=>False) :
  wpS sub (ag sub P (n+7)) W (s9 8 7 1 ti) [some u,some (pg B p1 q1 p2 q2),none,none,none] H NN R Y:=by
 refine lc (qa d t hj) fun zq29 sp2 sq2=>?_;obtain ⟨sp1,sq1⟩:=zq29
 have p12:p1≠0/\p2≠0:=by
  have h:=(jf d.a1.pos d.a2.pos d.a1.val d.a2.val).mpr d.lh
  have:=d.a1.pos
  have:=d.a2.pos
  rcases hs with g|g
  ·refine ⟨by exact oqz [] [p1] [(.il (0+1) Y0)] (.no (.ie Y0 0)) [101] rfl g,fun k=>?_⟩
   have:=Hb g d.a2.pos
   rw[k,HO] at h;exact oqz [] [p1*q2] [(.il (Y0+1) 0),(.il (0+1) Y0)] .ff [11] rfl h this
  ·refine ⟨fun k=>?_,by exact oqz [] [p2] [(.il (Y0+1) 0)] (.no (.ie Y0 0)) [110] rfl g⟩
   have:=Hb (show 0 < -p2 by exact oqz [] [p2] [(.il (Y0+1) 0)] (.il (0+1) (.g Y0)) [11] rfl g) d.a1.pos
   rw[HC] at this
   rw[k,HO] at h;exact oqz [] [p2*q1] [(.il (0+1) Y0),(.il (0+1) (.g Y0))] .ff [11] rfl h this
 dsimp only[s9,qS1,qS2,qS3,qS9,qE1,qE5,aM,b6,aU,dN,aA,az,kr,bu,bS,cE,bJ,bI,aa,af,aH]
 refine ⟨B.map .int,rfl,?_⟩
 dsimp only[qS2]
 rw[<- List.map_reverse]
 refine rC zT (v:=.lst H.length) (ai _ _ _) fun zs k hz tz=>?_
 have tz':∃lz,zs.getLast?=some lz/\lz≠0:=by
  rcases tz with rfl|h
  ·refine ae (tB) fun x hx x0=>?_
   rw[List.nil_append] at hz
   have:x∈B.reverse:=List.mem_reverse.mpr hx
   rw[hz] at this
   exact absurd (List.eq_of_mem_replicate this) x0
  ·exact h
 refine ae (tz') fun lz hlz z0=>?_
 have zl:zs.length<=B.length:=by have:=congrArg List.length hz;rw[Hz,GR] at this;exact oqz [zs.length,B.length,(bW k).length] [] [(.eq Y1 (Y0+Y2))] (.le Y0 Y1) [101] rfl this
 have hln:=d.ln
 refine iV (n:=n+6) (ng:=ngQ) kK zT.a8 (fun a b H' Z X' hz=>fo zT.a0 hz) (v:=.lst (H++[B.reverse.map V.int]).length) (ai _ _ _) hlz z0 (by exact oqz [zs.length,B.length] [] [(.le Y0 Y1),(.le Y1 13)] (.le Y0 1000) [111] rfl zl hln) ?_
 dsimp only[dc]
 refine ifSome.mk (ai _ _ _) ?_
 refine Bp zT p12.2 (k:=221) (sq2.mono (by decide)) sp2 (by decide) fun x1 y1 L1 E1=>?_
 refine Bp zT p12.1 (k:=221) (sq1.mono (by decide)) sp1 (by decide) fun x2 y2 L2 E2=>?_
 refine yK (d.inv t hj hs hb hz hlz z0 L1 E1 L2 E2) fun lo' hi' d'=>?_
 exact hR zs lz lo' hi' x1 y1 x2 y2 _ _ (ah (aj _ _) (ah (aj _ _) (aj _ _))) hlz z0 zl (fun x hx=>List.mem_reverse.mp (by rw[hz];exact I7 _ hx)) d'
theorem Dl(zT:TT P)
  {u:V}{B:List Int}{N p1 q1 p2 q2:Int}{al lo hi β:Re}{b:Nat} (tB:∃x∈B,x≠0) (sB:AllSm b B) (hb:b<=41) (d:PG B N al lo hi p1 q1 p2 q2 0) (t:Tgt N lo hi 0) (hβ:al*β=1)
  (hQ:∀ (zs:List Int) (lz:Int) lo' hi' x1 y1 x2 y2 N' H',H<+:H'->zs.getLast?=some lz->lz≠0->zs.length<=B.length->(∀x∈zs,x∈B)->PG (cv zs lz) N' β lo' hi' x1 y1 x2 y2 0->ag sub P (n+7) 32 [u,pg (cv zs lz) x1 y1 x2 y2] H' Q fun _ _=>False) :
  ag sub P (n+8) 35 [u,pg B p1 q1 p2 q2] H Q X:=by
 have a0:al≠0:=fun h=>mV (by rw[<- hβ,h];grind)
 have nz:=q8 a0 tB sB d.rt
 have nz':=tZ nz (aI _) (HM (2^b) d.ln)
 refine ao zT.a35 rfl ?_
 dsimp only[wX]
 generalize hT:xS 21 8 7 1 32=T
 dsimp only[qS1,qS2,bw,vq,qE1,qE5,bx,aM,aA,az,aD,aB,ay,ax,aO,aC,aq,aa,af,Nat.reduceSub]
 refine E9 zT d (by decide) ?_
 dsimp only[dQ,aN,aa]
 rw[decide_eq_false (fun h=>a0 (rsg_is0.mp h))]
 subst hT
 dsimp only[xS]
 generalize hT:s9 8 7 1 32=T
 dsimp only[EQ,qS1,qS2,qS3,jW,qE5,aM,aA,az,aR]
 refine ⟨fun ρ H'=>∃n,DvI H u B N al n ρ H',muI (DvI H u B N al),⟨100,rfl,0,lo,hi,p1,q1,p2,q2,rfl,d,t,by decide,rfl⟩,?_⟩
 intro ρ H' hex
 have hI:=nC hex
 have hle:∀ {n ρ H'},DvI H u B N al n ρ H'->muI (DvI H u B N al) ρ H'<=n:=fun h=>nO h
 generalize muI (DvI H u B N al)=μ at *
 generalize μ ρ H'=nn at *
 obtain ⟨rfl,j,lo,hi,p1,q1,p2,q2,hj,d,t,hj52,rfl⟩:=hI
 have i1:=jr d.a1.pos d.a1.val
 have i2:=jr d.a2.pos d.a2.val
 dsimp only[Fs,qE1,qE5,bx,lZ,aU,bX,yY,oK,bu,bJ,bI,aN,aa,af,aH]
 by_cases c1:p1<=0
 ·rw[decide_eq_true c1]
  dsimp only[aX]
  by_cases c2:0<=p2
  ·rw[decide_eq_true c2]
   have hjj:=Gw (i1.2.mp c1) (i2.1.mp c2) d.l d.u t.w nz'
   dsimp only[aX]
   refine vp zT (v:=.tup (B.map .int)) rfl d t (by exact owk (by decide) hj52) fun lo' hi' x1 y1 x2 y2 d' t'=>?_
   have hN:DvI H' u B N al (nn-1) [some u,some (pg B x1 y1 x2 y2),none,none,none] H':=⟨rfl,j+1,_,_,_,_,_,_,by exact oqz [nn-1,nn,j] [] [(.eq (Y1+Y2) 100),(.le Y2 52),(osb Y1 1 Y0)] (.eq (Y0+(Y2+1)) 100) [100101,11100,1000011] rfl hj hj52 (am (nn) (1)),d',t',by exact oqz [j,b] [] [(.le Y1 41),(.le (Y0+1) (Y1+11))] (.le (Y0+1) 52) [111] rfl hb hjj,rfl⟩
   exact ⟨⟨_,hN⟩,Hx (hle hN) (by exact oqz [nn-1,nn,j] [] [(.eq (Y1+Y2) 100),(.le Y2 52),(osb Y1 1 Y0)] (.le (Y0+1) Y1) [1000001,11100] rfl hj hj52 (am (nn) (1)))⟩
  ·rw[decide_eq_false c2]
   subst hT
   exact t5 zT tB d t hj52 (.inr (by exact oqz [] [p2] [(.no (.il 0 Y0))] (.il (Y0+1) 0) [11] rfl c2)) hβ hQ
 ·rw[decide_eq_false c1]
  subst hT
  exact t5 zT tB d t hj52 (.inl (by exact oqz [] [p1] [(.no (.il Y0 0))] (.il (0+1) Y0) [11] rfl c1)) hβ hQ
end
end Mine
namespace Mine
open PySem Re
theorem PgG.peg{R:List Int}{g:Re}{p1 q1 p2 q2:Int}(h:PgG R g p1 q1 p2 q2)(h13:R.length<=13):∃l,ud 1172 1470000 R l p1 q1 p2 q2:=by
 refine ae (h.la) fun l hl l0=>?_
 refine cR (h.ab) fun lo hi A _=>?_
 refine lc (h.al) fun v1 v2 tv=>?_
 exact ⟨l,h.l2,GP h13 (by decide),hl,l0,h.one,h.sm,A.l1,A.l2,(jf A.l1.pos A.l2.pos A.v1 A.v2).mpr (fj A.lt A.gt),v1,v2,tv⟩
theorem u9{R:List Int}{l:Int}{g:Re}(hl:R.getLast?=some l)(l0:0<l)(e:evR R g=0):2<=R.length:=by
 match R,hl,e with
 | [x],hl,r =>
  cases hl
  rw[aP,dE] at r
  exact absurd (fQ (show (x:Re)=((0:Int):Re) by rw[aE];grind)) (GY l0)
 |_::_::r,_,_=>simp
structure PK (k:Nat)(x:Re)(p q:Int):Prop where
 l:Low k p q
 v:(q:Re)*x=p
section
variable {sub:Nat->Nat->Bool}{P:List Fn}{n be:Nat}{H:Hp}{Q:V->Hp->Prop}{X:Nat->Hp->Prop}
theorem kJ(eb:P[be]?=some ⟨2,2,eT⟩){k l:Nat}{x y:Re}{p1 q1 p2 q2:Int}(a:PK k x p1 q1)(b:PK l y p2 q2)(hk:k<=60000000)(hl:l<=60000000)(h1:x<y->Q (.bool true) H)(h2:¬ x<y->Q (.bool false) H):ag sub P (n+1) be [pt p1 q1,pt p2 q2] H Q X:=by
 refine oq eb (IntMulOk.sm a.l.top b.l.bot (GP hk (by decide)) (GP hl (by decide))) (IntMulOk.sm b.l.top a.l.bot (GP hl (by decide)) (GP hk (by decide))) ?_
 have:=jf a.l.pos b.l.pos a.v b.v
 by_cases h:x<y
 ·rw[decide_eq_true (this.mpr h)];exact h1 h
 ·rw[decide_eq_false (fun g=>h (this.mp g))];exact h2 h
end
section
variable {sub:Nat->Nat->Bool}{P:List Fn}{n:Nat}{H:Hp}{Q:V->Hp->Prop}{X:Nat->Hp->Prop}
theorem BA(zT:TT P){a b:Int}{k:Nat}(hb:0<b)(ha:Sm k a)(hs:Sm k b)(hQ:∀p q:Int,Low k p q->p*b=a*q->Q (.tup [.int p,.int q]) H):ag sub P (n+2) 39 [.int a,.int b] H Q X:=by
 refine yo zT hb fun p q e1 e2=>hQ p q (rz ha hs hb e1 e2) ?_
 generalize ((a.gcd b:Nat):Int)=g at *
 rw[<- e1,<- e2,<- HJ,HJ p g,HS g,HJ]
theorem EP(zT:TT P){p1 q1 p2 q2:Int}{k l:Nat}(a1:Low k p1 q1)(a2:Low l p2 q2)(hk:k+l+1<=60000000)
  (hQ:∀p q:Int,Low (k+l+1) p q->p*(q1*q2)=(p1*q2+p2*q1)*q->Q (.tup [.int p,.int q]) H):ag sub P (n+3) 53 [.tup [.int p1,.int q1],.tup [.int p2,.int q2]] H Q X:=by
 refine ao zT.a53 rfl ?_
 dsimp only[jO,qS1,qS2,qS9,qE1,qE5,qE8,aM,aU,aA,az,cO,dm,bu,bS,aD,aB,ay,ax,aC,aq,aa,af,Nat.reduceSub]
 have hk1:k<=67108864:=oqz [k,l] [] [(.le (Y0+Y1+1) 60000000)] (.le Y0 67108864) [11] rfl hk
 have hl1:l<=67108864:=oqz [l,k] [] [(.le (Y1+Y0+1) 60000000)] (.le Y0 67108864) [11] rfl hk
 refine ⟨IntMulOk.sm a1.top a2.bot hk1 hl1,IntMulOk.sm a2.top a1.bot hl1 hk1,IntMulOk.sm a1.bot a2.bot hk1 hl1,?_⟩
 exact BA zT (Hb a1.pos a2.pos) ((a1.top.mul a2.bot).add ((a2.top.mul a1.bot).mono (by exact oqz [l,k] [] [] (.le (Y0+Y1) (Y1+Y0)) [1] rfl))) ((a1.bot.mul a2.bot).mono (by exact oqz [k,l] [] [] (.le (Y0+Y1) (Y0+Y1+1)) [1] rfl)) hQ
theorem EU(zT:TT P){a b c x y z:V}(hQ:Q (.lst H.length) (H++[[.tup [b,y],.tup [b,z],.tup [c,y],.tup [c,z]]])):ag sub P (n+1) 54 [.tup [a,b,c],.tup [x,y,z]] H Q X:=by
 refine ao zT.a54 rfl ?_
 dsimp only[Es,qS1,qS2,qS9,qE1,qE5,aU,dN,fY,aA,az,bJ,bI,aD,aB,ay,ax,aC,aq,aa,af,Nat.reduceSub]
 exact hQ
noncomputable abbrev FW (L:List (Re × Int × Int)):List V:=L.map fun t=>pt t.2.1 t.2.2
inductive SpI (H:Hp) (m:Nat) (L:List (Re × Int × Int)) (rest:List V) (ρ:Loc) (H':Hp):Prop
 |mk (dn td:List (Re × Int × Int)) (lo hi:Re) (p q r s:Int) (o:Option V) (c0:L=dn++td) (c1:rest=FW td) (c2:ρ=[some (.lst m),some (pt p q),some (pt r s),o]) (c3:H'=H) (c4:PK 6000001 lo p q) (c5:PK 6000001 hi r s) (c6:∀t∈dn,lo<=t.1/\t.1<=hi)
theorem Dm(zT:TT P){m:Nat}{t0:Re × Int × Int}{L:List (Re × Int × Int)}(hm:H[m]?=some (FW (t0::L)))(hp:∀t∈t0::L,PK 6000001 t.1 t.2.1 t.2.2)
  (hQ:∀lo hi p q r s,PK 6000001 lo p q->PK 6000001 hi r s->(∀t∈t0::L,lo<=t.1/\t.1<=hi)->Q (.tup [pt p q,pt r s]) H):ag sub P (n+2) 51 [.lst m] H Q X:=by
 refine ao zT.a51 rfl ?_
 have i0:∀Z:V->Hp->Prop,Z (pt t0.2.1 t0.2.2) H->dX (.lst m) (.int 0) H Z:=fun Z hz=>ix3 (o:=H[m]?) hm (aG (k:=0) (Ja _)) rfl hz
 dsimp only[yT,qS1,qS2,qS3,qS9,dp,qE1,qE5,aU,dN,aA,az,qI1,dc,aD,aB,ay,ax,aO,aC,aq,aa,af,aH,Nat.reduceSub]
 refine i0 _ (i0 _ (ifSome.mk hm ?_))
 refine bo (SpI H m (t0::L)) ?_ ?_ _ _ _ ⟨[],t0::L,t0.1,t0.1,t0.2.1,t0.2.2,t0.2.1,t0.2.2,_,rfl,rfl,rfl,rfl,hp t0 GW,hp t0 GW,fun _ h=>nomatch h⟩
 ·rintro x xs ρ H' k zI hk;obtain ⟨dn,td,lo,hi,p,q,r,s,o,hL,hx,rfl,rfl,a1,a2,hd⟩:=zI
  cases td with
  |nil=>cases hx
  |cons t td =>
   cases hx
   have ht:=hp t (by rw[hL];simp)
   have fin:∀lo' hi' p' q' r' s',PK 6000001 lo' p' q'->PK 6000001 hi' r' s'->lo'<=lo->hi<=hi'->lo'<=t.1->t.1<=hi'->k [some (.lst m),some (pt p' q'),some (pt r' s'),some (pt t.2.1 t.2.2)] H':=fun lo' hi' p' q' r' s' b1 b2 l1 l2 l3 l4 =>
    hk _ _ ⟨dn++[t],td,lo',hi',p',q',r',s',_,by rw[hL];simp,rfl,rfl,rfl,b1,b2,fun z hz=>by
     rcases Hy.mp hz with hz|hz
     ·exact ⟨bU l1 (hd z hz).1,bU (hd z hz).2 l2⟩
     ·cases He.mp hz;exact ⟨l3,l4⟩⟩
   dsimp only[Bk,qS1,qS2,qS3,bw,qE5,aM,aA,az,aa,af,aH]
   have hi2:∀lo' p' q',PK 6000001 lo' p' q'->lo'<=lo->lo'<=t.1->∀ (ρ1 ρ2:Loc),ρ1=[some (.lst m),some (pt p' q'),some (pt t.2.1 t.2.2),some (pt t.2.1 t.2.2)]->ρ2=[some (.lst m),some (pt p' q'),some (pt r s),some (pt t.2.1 t.2.2)] ->
     ag sub P (n+1) 49 [pt r s,pt t.2.1 t.2.2] H' (fun v H1=>ifSome (bm H1 v) fun b=>if b then k ρ1 H1 else k ρ2 H1) fun _ _=>False:=fun lo' p' q' b1 l1 l3 ρ1 ρ2 e1 e2=>by
    subst e1 e2
    refine kJ zT.a49 a2 ht (by decide) (by decide) (fun h=>?_) fun h=>?_
    ·exact fin _ _ _ _ _ _ b1 ht l1 (bM h) l3 (Ha _)
    ·exact fin _ _ _ _ _ _ b1 a2 l1 (Ha _) l3 (IN.mp h)
   refine kJ zT.a49 ht a1 (by decide) (by decide) (fun h=>?_) fun h=>?_
   ·exact hi2 t.1 _ _ ht (bM h) (Ha _) _ _ rfl rfl
   ·exact hi2 lo _ _ a1 (Ha _) (IN.mp h) _ _ rfl rfl
 ·rintro ρ H' ⟨dn,td,lo,hi,p,q,r,s,o,hL,hx,rfl,rfl,a1,a2,hd⟩
  cases td with
  |cons _ _=>cases hx
  |nil =>
   rw[List.append_nil] at hL
   subst hL
   exact hQ _ _ _ _ _ _ a1 a2 hd
end
end Mine
namespace Mine
open PySem Re
section
variable {sub:Nat->Nat->Bool}{P:List Fn}{n:Nat}{H:Hp}{Q:V->Hp->Prop}{X:Nat->Hp->Prop}{u v:V}{x1 x2 y1 y2:Re}{a1 b1 a2 b2 c1 d1 c2 d2:Int}
theorem ug(zT:TT P){x y:Re}{p q r s:Int}(h1:PK 3000000 x p q)(h2:PK 3000000 y r s)(hQ:∀p q,PK 6000001 (x+y) p q->Q (pt p q) H):ag sub P (n+3) 53 [pt p q,pt r s] H Q X:=
 EP zT h1.l h2.l (by decide) fun p q l h=>hQ p q ⟨l.mono (by decide),eZ h1.l.pos h2.l.pos h1.v h2.v h⟩
theorem PK.neg{k:Nat}{x:Re}{p q:Int}(h:PK k x p q):PK k (-x) (0-p) q:=by
 refine ⟨⟨by rw[Int.zero_sub];exact h.l.top.neg,h.l.bot,h.l.pos,?_⟩,?_⟩
 ·have:=h.l.one;rw[Int.zero_sub,Int.neg_gcd];exact this
 ·have:=h.v;rw[Int.zero_sub,cP,<- this];grind
theorem Cx(zT:TT P)(h1:PK 3000000 x1 a1 b1)(h2:PK 3000000 x2 a2 b2)(k1:PK 3000000 y1 c1 d1)(k2:PK 3000000 y2 c2 d2)
  (hQ:∀p q r s,PK 6000001 (x1+y1) p q->PK 6000001 (x2+y2) r s->Q (.tup [pt p q,pt r s]) H):ag sub P (n+4) 52 [.int 0,.tup [u,pt a1 b1,pt a2 b2],.tup [v,pt c1 d1,pt c2 d2]] H Q X:=by
 refine ao zT.a52 rfl ?_
 dsimp only[vP,qS1,qS2,qS9,bw,qE1,qE5,bx,aM,aU,dN,aA,az,dQ,aN,bJ,bI,aD,aB,ay,ax,aC,aq,aa,af,Nat.reduceSub]
 rw[decide_eq_true rfl]
 dsimp only[aX]
 exact ug zT h1 k1 fun p q g1=>ug zT h2 k2 fun r s g2=>hQ p q r s g1 g2
theorem EC(zT:TT P)(h1:PK 3000000 x1 a1 b1)(h2:PK 3000000 x2 a2 b2)(k1:PK 3000000 y1 c1 d1)(k2:PK 3000000 y2 c2 d2)
  (hQ:∀p q r s,PK 6000001 (x1+-y2) p q->PK 6000001 (x2+-y1) r s->Q (.tup [pt p q,pt r s]) H):ag sub P (n+4) 52 [.int 1,.tup [u,pt a1 b1,pt a2 b2],.tup [v,pt c1 d1,pt c2 d2]] H Q X:=by
 refine ao zT.a52 rfl ?_
 dsimp only[vP,yp,qS1,qS2,qS9,bw,qE1,qE5,qE8,bx,aM,aU,dN,aA,az,dQ,e6,aN,bJ,bI,bu,bS,aD,aB,ay,ax,aC,aq,aa,af,Nat.reduceSub]
 rw[decide_eq_false (show ¬ (1:Int)=0 by decide),decide_eq_true rfl]
 dsimp only[aR,aX]
 exact ug zT h1 k2.neg fun p q g1=>ug zT h2 k1.neg fun r s g2=>hQ p q r s g1 g2
theorem tX{step:V->Hp->(Option V->Hp->Prop)->Prop}{x:V}{xs:List V}{H:Hp}{Q:List V->Hp->Prop}:cZ step (x::xs) H Q=step x H fun o H1=>cZ step xs H1 fun ys H2=>Q (match o with|some y=>y::ys|none=>ys) H2:=rfl
theorem x4{step:V->Hp->(Option V->Hp->Prop)->Prop}{H:Hp}{Q:List V->Hp->Prop}:cZ step [] H Q=Q [] H:=rfl
theorem sZ(zT:TT P){x y:Re}{p q r s:Int}(h1:PK 3000000 x p q)(h2:PK 3000000 y r s)(hQ:∀p q,PK 6000001 (x*y) p q->Q (pt p q) H):IntMulOk p r/\IntMulOk q s/\ag sub P (n+2) 39 [.int (p*r),.int (q*s)] H Q X:=
 ⟨IntMulOk.sm h1.l.top h2.l.top (by decide) (by decide),IntMulOk.sm h1.l.bot h2.l.bot (by decide) (by decide),BA zT (Hb h1.l.pos h2.l.pos) (h1.l.top.mul h2.l.top) (h1.l.bot.mul h2.l.bot) fun p q l g=>hQ p q ⟨l.mono (by decide),qn h1.l.pos h2.l.pos h1.v h2.v g⟩⟩
theorem yH(zT:TT P){w:Int}(w0:w≠0)(w1:w≠1)
  (h1:PK 3000000 x1 a1 b1) (h2:PK 3000000 x2 a2 b2) (k1:PK 3000000 y1 c1 d1) (k2:PK 3000000 y2 c2 d2)
  (hQ:∀lo hi p q r s H',H<+:H'->PK 6000001 lo p q->PK 6000001 hi r s->(∀z,z=x1*y1\/z=x1*y2\/z=x2*y1\/z=x2*y2->lo<=z/\z<=hi)->Q (.tup [pt p q,pt r s]) H'):ag sub P (n+4) 52 [.int w,.tup [u,pt a1 b1,pt a2 b2],.tup [v,pt c1 d1,pt c2 d2]] H Q X:=by
 refine ao zT.a52 rfl ?_
 dsimp only[vP,yp,Bb,qS1,qS2,qS9,bw,qE1,qE5,bx,aM,f9,aA,az,qI1,dQ,aN,aD,aB,ay,ax,aC,aq,aa,af,Nat.reduceSub]
 rw[decide_eq_false w0,decide_eq_false w1]
 dsimp only[aR]
 refine EU zT ?_
 refine ifSome.mk (ai _ _ _) ⟨show 4<=lim by unfold lim;decide,?_⟩
 dsimp only[tX,x4,ye,FY,qO1,qE1,qE5,qE8,aM,aU,aA,az,aX,aa]
 refine sZ zT h1 k1 fun p11 q11 g11=>sZ zT h1 k2 fun p12 q12 g12=>sZ zT h2 k1 fun p21 q21 g21=>sZ zT h2 k2 fun p22 q22 g22=>?_
 refine Dm zT (t0:=(x1*y1,p11,q11)) (L:=[(x1*y2,p12,q12),(x2*y1,p21,q21),(x2*y2,p22,q22)]) (ai _ _ _) (fun t ht=>?_) fun lo hi p q r s l1 l2 h=>hQ _ _ _ _ _ _ _ (ah (aj _ _) (aj _ _)) l1 l2 fun z hz=>?_
 ·simp only[Hf,List.not_mem_nil,or_false] at ht
  rcases ht with rfl|rfl|rfl|rfl
  ·exact g11
  ·exact g12
  ·exact g21
  ·exact g22
 ·rcases hz with rfl|rfl|rfl|rfl
  ·exact h _ (.head _)
  ·exact h _ (.tail _ (.head _))
  ·exact h _ (.tail _ (.tail _ (.head _)))
  ·exact h _ (.tail _ (.tail _ (.tail _ (.head _))))
end
end Mine
namespace Mine
open Re
noncomputable def rr(q:Rat):Re:=Re.mk (.ofRat q)
theorem nc(x y:Rat):rr (x+y)=rr x+rr y:=rfl
theorem wu(x y:Rat):rr (x*y)=rr x*rr y:=rfl
theorem sW{x y:Rat}(h:x<=y):rr x<=rr y:=⟨0,fun n=>by
 have:=HV (show 0<=y-x by grind) (HB (two_pow_pos n))
 show (x-y)*2^n<=0
 grind⟩
theorem kG:∀n:Nat,rr (2^n)=(2:Re)^n
 |0=>by rw[Rat.pow_zero,GT];rfl
 |n+1=>by
  have:rr 2=2:=rfl
  rw[Rat.pow_succ,wu,kG n,this];grind
theorem Cr:∀M:Re,∃n:Nat,M<(2:Re)^n:=b9 fun x=>by
 obtain ⟨B,_,h⟩:=x.bd
 obtain ⟨n,hn⟩:=AZ B
 obtain ⟨k,hk⟩:∃k:Nat,B+1<2^k:=AZ (B+1)
 refine ⟨k,?_⟩
 have h1:Re.mk x<=rr B:=⟨0,fun n=>by
  have:=HV (show 0<=B-x.f n by have:=(h n).1;grind) (HB (two_pow_pos n))
  show (x.f n-B)*2^n<=0
  grind⟩
 have h2:=sW (HB hk)
 rw[kG,nc,show rr 1=1 from rfl] at h2
 have:=Ic (R:=Re)
 grind
theorem wg:∀ {x:Re},0<x->∃n:Nat,1<=x*(2:Re)^n:=@fun x=>b9 (P:=fun x=>0<x->∃n:Nat,1<=x*(2:Re)^n) (fun a h=>by
 obtain ⟨n,hn⟩:=Sq.pos (x:=a) h
 refine ⟨n,?_⟩
 rw[<- kG]
 obtain ⟨K,hK⟩:=a.c
 obtain ⟨B,hB,hb⟩:=a.bd
 refine ⟨(1+B*2^n)*2^n,fun m=>?_⟩
 have p:=two_pow_pos n
 have pm:=two_pow_pos m
 show (((1:Nat):Rat)-a.f m*2^n)*2^m<=_
 rw[show ((1:Nat):Rat)=1 from rfl]
 have q1:=HV hB (HB p)
 rcases Jz n m with g|g
 ·have:=hn m g
  have:=HV (show 0<=a.f m*2^n-1 by grind) (HB pm)
  have:=HV (show 0<=1+B*2^n by grind) (HB p)
  grind
 ·have g2:=lC g
  have b2:=(hb m).2
  have:=HV (show 0<=a.f m+B by grind) (HB p)
  have s1:1-a.f m*2^n<=1+B*2^n:=by grind
  have s2:=HV (show 0<=(1+B*2^n)-(1-a.f m*2^n) by grind) (HB pm)
  have s3:=HV (show 0<=1+B*2^n by grind) (show 0<=(2:Rat)^n-2^m by grind)
  grind) x
theorem zG{x:Re}(h:0<x)(M:Re):∃n:Nat,M<x*(2:Re)^n:=by
 obtain ⟨n,hn⟩:=wg h
 obtain ⟨k,hk⟩:=Cr M
 refine ⟨n+k,?_⟩
 have p:(0:Re)<2^k:=by
  rw[<- kG];have:=sW (lC (Hl k));rw[Rat.pow_zero,show rr 1=1 from rfl] at this
  have:=Ic (R:=Re);grind
 have:=ac (show 0<=x*2^n-1 by grind) (G4 p)
 rw[Lean.Grind.Semiring.pow_add];grind
end Mine
namespace Mine
open Re
noncomputable def hR(u v:Re):List Int->Re
 | []=>0
 |c::r=>hR u v r*u+(c:Re)*v^r.length
theorem gK(u v:Re)(c:Int)(r:List Int):hR u v (c::r)=hR u v r*u+(c:Re)*v^r.length:=rfl
theorem ox(u v:Re):∀ {xs ys:List Int},xs.length=ys.length->hR u v (addL xs ys)=hR u v xs+hR u v ys
 | [],[],_=>by show (0:Re)=0+0;grind
 |x::r,y::t,h=>by
  have h':r.length=t.length:=Ix h
  show hR u v (addL r t)*u+((x+y:Int):Re)*v^(addL r t).length=(hR u v r*u+(x:Re)*v^r.length)+(hR u v t*u+(y:Re)*v^t.length)
  rw[ox u v h',gn h',h',ba];grind
theorem ny(u v:Re)(c:Int):∀ {xs:List Int},hR u v (smul c xs)=(c:Re)*hR u v xs
 | []=>by show (0:Re)=c*0;grind
 |x::r=>by
  show hR u v (smul c r)*u+((c*x:Int):Re)*v^(smul c r).length=(c:Re)*(hR u v r*u+(x:Re)*v^r.length)
  rw[ny u v c,aW,au];grind
theorem j8(u v:Re)(a b:Int):∀ {xs:List Int}{c:Int},hR u v (mulG a b c xs)=((a:Re)*v+(b:Re)*u)*hR u v xs+(c:Re)*v^xs.length
 | [],c=>by
  show 0*u+(c:Re)*v^0=((a:Re)*v+(b:Re)*u)*0+(c:Re)*v^0
  grind
 |x::r,c=>by
  show hR u v (mulG a b (x*b) r)*u+((c+x*a:Int):Re)*v^(mulG a b (x*b) r).length=((a:Re)*v+(b:Re)*u)*(hR u v r*u+(x:Re)*v^r.length)+(c:Re)*v^(r.length+1)
  rw[j8 u v a b,cf,ba,au,au,GQ];grind
theorem nM(u v:Re)(a b:Int){xs:List Int}:∀ {n:Nat},hR u v (mulN a b n xs)=((a:Re)*v+(b:Re)*u)^n*hR u v xs
 |0=>by rw[GT];show hR u v xs=_;grind
 |n+1=>by
  show hR u v (mulG a b 0 (mulN a b n xs))=_
  rw[j8,nM,GQ,aE];grind
theorem yL(u v:Re):hR u v [1]=1:=by
 show 0*u+((1:Int):Re)*v^0=1
 rw[GT,show ((1:Int):Re)=1 from rfl];grind
theorem Bl{u v κ x:Re}{b e s:Int}(h1:(b:Re)*v+(e:Re)*u=κ*x)(h2:(s:Re)*v+(s:Re)*u=κ):∀ {r:List Int}{c:Int},hR u v (hs b e s (c::r))=κ^r.length*evR (c::r) x
 | [],c=>by
  have e0:hs b e s [c]=addL (mulG b e 0 []) (smul c (mulN s s 0 [1])):=rfl
  rw[e0,ox u v (xs:=mulG b e 0 []) (ys:=smul c (mulN s s 0 [1])) rfl,j8,ny,nM,yL,aP,dE,aE]
  show ((b:Re)*v+(e:Re)*u)*0+0*v^0+(c:Re)*(((s:Re)*v+(s:Re)*u)^0*1)=κ^0*((c:Re)+x*0)
  rw[GT,GT];grind
 |d::r,c=>by
  have e0:hs b e s (c::d::r)=addL (mulG b e 0 (hs b e s (d::r))) (smul c (mulN s s (r.length+1) [1])):=rfl
  have el:(mulG b e 0 (hs b e s (d::r))).length=(smul c (mulN s s (r.length+1) [1])).length:=by
   rw[cf,pd,kF,aW,bV,List.length_cons];exact Id _ _
  rw[e0,ox u v el,j8,ny,nM,yL,Bl h1 h2,h1,h2,aP c,aE,List.length_cons,GQ];grind
theorem BW{u v:Re}(hu:0<=u)(hv:0<=v):∀ {xs:List Int},NN xs->0<=hR u v xs
 | [],_=>Ha _
 |c::r,h=>by
  rw[gK]
  have p:0<=v^r.length:=by
   generalize r.length=n
   induction n with
   |zero=>rw[GT];exact bM jQ
   |succ n ih=>rw[GQ];exact ac ih hv
  have h1:=ac (BW hu hv h.tl) hu
  have h2:=aZ h.hd
  rw[aE] at h2
  have h3:=ac h2 p
  grind
theorem eQ{v:Re}(hv:0<v)(n:Nat):0<v^n:=by
 induction n with
 |zero=>rw[GT];exact jQ
 |succ n ih=>rw[GQ];exact mul_pos ih hv
section
variable {u0 v0 u v:Re}
theorem sk(hu:0<u0)(hv:0<v0){c:Int}{r:List Int}(h:Up (c::r))(h0:0<=hR u0 v0 (c::r)):0<=hR u0 v0 r:=by
 by_cases hc:0<c
 ·exact BW (bM hu) (bM hv) (h.hd hc)
 ·rw[gK] at h0
  have h1:=aZ (Iv.mp hc)
  rw[aE] at h1
  have h2:=ac (show 0<=-(c:Re) by grind) (bM (eQ hv r.length))
  exact IN.mp fun hn=>by
   have:=mul_pos (show 0 < -hR u0 v0 r by grind) hu
   grind
theorem y3{a b x y z:Re}(hx:0<=x)(ha:0<=a)(h1:a<=b)(h2:x<=y):a*x<=b*y:=by
 have k1:=ac (show 0<=b-a by grind) (show 0<=y by grind)
 have k2:=ac ha (show 0<=y-x by grind)
 grind
theorem sR(hu:0<u0)(hv:0<v0)(gu:0<u)(gv:0<v)(hl:u0*v<=u*v0):∀ {r:List Int}{c:Int},Up (c::r)->0<=hR u0 v0 (c::r)->v^r.length*hR u0 v0 (c::r)<=v0^r.length*hR u v (c::r)
 | [],c,_,_=>by rw[gK,gK];show v^0*(0*u0+(c:Re)*v0^0)<=v0^0*(0*u+(c:Re)*v^0);rw[GT,GT];grind
 |d::r,c,h,h0=>by
  have hr:=sk hu hv h h0
  have ih:=sR hu hv gu gv hl h.tl hr
  have k:=y3 (z:=0) (ac (bM (eQ gv r.length)) hr) (bM (mul_pos hu gv)) hl ih
  rw[gK u0 v0 c,gK u v c,List.length_cons,GQ,GQ]
  generalize v^r.length=V at *
  generalize v0^r.length=V0 at *
  generalize hR u0 v0 (d::r)=F0 at *
  generalize hR u v (d::r)=F at *
  clear h h0 hr ih hl hu hv gu gv
  grind
theorem sM(hu:0<u0)(hv:0<v0)(gu:0<u)(gv:0<v)(hl:u0*v<u*v0){r:List Int}{c:Int}(h:Up (c::r))(hc:c<0)(h0:0<=hR u0 v0 (c::r)):0<hR u v (c::r):=by
 have hr:=sk hu hv h h0
 have hc':=io hc
 rw[aE] at hc'
 cases r with
 |nil =>
  rw[gK] at h0
  change 0<=(0:Re)*u0+(c:Re)*v0^0 at h0
  rw[GT] at h0
  grind
 |cons d r =>
  have hr':0<hR u0 v0 (d::r):=Jx.mp fun hle=>by
   rw[gK] at h0
   have:=mul_pos (show 0 < -(c:Re) by grind) (eQ hv (d::r).length)
   have:=ac (show 0<=-hR u0 v0 (d::r) by grind) (bM hu)
   grind
  have ih:=sR hu hv gu gv (bM hl) h.tl hr
  have p1:=eQ gv r.length
  have p2:=eQ hv r.length
  have k1:=ac (bM (mul_pos gu hv)) (cH ih)
  have k2:=mul_pos (eO hl) (mul_pos p1 hr')
  have k3:=ac (bM (mul_pos p1 gv)) h0
  rw[gK u0 v0 c,List.length_cons,GQ] at k3
  refine jw (mul_pos p2 hv) ?_
  rw[gK u v c,List.length_cons,GQ]
  generalize v^r.length=V at *
  generalize v0^r.length=V0 at *
  generalize hR u0 v0 (d::r)=F0 at *
  generalize hR u v (d::r)=F at *
  clear h h0 hr hr' hc hc' ih p1 p2 hl hu hv gu gv
  grind
end
theorem B4{b e s:Int}{row:List Int}(h:row≠[]):∃c r,hs b e s row=c::r:=by
 have hl:(hs b e s row).length=row.length:=by rw[pd,kF]
 cases hh:hs b e s row with
 |nil=>rw[hh] at hl;exact absurd (HI hl.symm) h
 |cons c r=>exact ⟨c,r,rfl⟩
theorem ES{row:List Int}{p1 q1 p2 q2:Int}{lo hi g:Re}(U:UP row p1 q1 p2 q2)(e1:(q1:Re)*lo=p1)(e2:(q2:Re)*hi=p2)(h1:lo<g)(h2:g<hi)(hg:evR row g=0):CA row lo hi g 1:=by
 have hne:row≠[]:=fun h=>by have:=U.lo;rw[h] at this;exact absurd this (show ¬ (0:Int)<0 by decide)
 obtain ⟨c0,r0,rfl⟩:∃c r,row=c::r:=by
  cases row with
  |nil=>exact absurd rfl hne
  |cons c r=>exact ⟨c,r,rfl⟩
 obtain ⟨c,r,hS⟩:=B4 (b:=p1*q2) (e:=p2*q1) (s:=q1*q2) hne
 have up:=U.up
 have hf:=@iZ p1 q1 p2 q2 c0 r0
 rw[hS] at up hf
 rw[j0] at hf
 have hc:c<0:=by rw[hf];exact Int.mul_neg_of_pos_of_neg (Ho U.b2) U.lo
 have q1p:=bD U.b1
 have q2p:=bD U.b2
 have key:∀x:Re,hR (x-lo) (hi-x) (c::r)=((q1:Re)*q2*(hi-lo))^r0.length*evR (c0::r0) x:=fun x=>by
  rw[<- hS]
  refine Bl ?_ ?_
  ·rw[au,au,<- e1,<- e2];grind
  ·rw[au];grind
 have kp:0<((q1:Re)*q2*(hi-lo))^r0.length:=eQ (mul_pos (mul_pos q1p q2p) (eO (fj h1 h2))) _
 have pos:∀ {x},0<hR (x-lo) (hi-x) (c::r)->0<evR (c0::r0) x:=fun {x} h=>by
  rw[key] at h
  refine jw kp ?_
  rw[show ((q1:Re)*q2*(hi-lo))^r0.length*0=0 by grind];exact h
 have nn:∀ {x},0<=evR (c0::r0) x->0<=hR (x-lo) (hi-x) (c::r):=fun {x} h=>by rw[key];exact ac (bM kp) h
 refine ⟨h1,h2,.inl rfl,fun t a b=>?_⟩
 rw[Hs]
 have hlo:rsg (evR (c0::r0) lo)=-1:=by
  rw[<- eJ hne U.b1 e1]
  have:=U.lo
  unfold sgn;rw[if_pos this]
 have hhi:rsg (evR (c0::r0) hi)=1:=by
  rw[<- eJ hne U.b2 e2]
  have:=U.hi
  unfold sgn;rw[if_neg (Iv.mpr (Hn this)),if_pos this]
 rcases aS (t-g) with k|k|k
 ·rw[bj k]
  rcases Std.le_iff_lt_or_eq.mp b with b' |b'
  ·refine bj (pos (sM (u0:=g-lo) (v0:=hi-g) (eO h1) (eO h2) (eO (fj h1 (by grind))) (eO b') ?_ up hc (nn (by rw[hg];exact Ha _))))
   have:=mul_pos (eO (fj h1 h2)) k
   grind
  ·rw[b',hhi]
 ·rw[bh k]
  rcases Std.le_iff_lt_or_eq.mp a with a' |a'
  ·refine bh (Jx.mp fun h0=>?_)
   have:=pos (sM (u0:=t-lo) (v0:=hi-t) (u:=g-lo) (v:=hi-g) (eO a') (eO (by grind)) (eO h1) (eO h2) (by have:=mul_pos (eO (fj h1 h2)) (show 0 < -(t-g) by grind);grind) up hc (nn h0))
   rw[hg] at this
   grind
  ·rw[<- a',hlo]
 ·rw[k,bF,show t=g by grind,hg,bF]
end Mine
namespace Mine
open Re
theorem zm{r:List Int}{z:Int}:Up r->r.getLast?=some z->z<0->∀x∈r,x<=0:=fun u hl hz x hx=>Iv.mp fun h0=>by
 obtain ⟨r0,rfl⟩:∃r0,r=r0++[z]:=⟨r.dropLast,by
  have hne:r≠[]:=fun h=>by rw[h] at hl;cases hl
  rw[List.getLast?_eq_some_getLast hne] at hl
  cases hl;exact (List.dropLast_concat_getLast hne).symm⟩
 rcases Hy.mp hx with hx|hx
 ·have:=(List.pairwise_append.mp u).2.2 x hx z (He.mpr rfl) h0
  exact absurd hz (Iv.mpr this)
 ·rw[He.mp hx] at h0;exact absurd hz (Iv.mpr (Hn h0))
theorem Fl{r:List Int}{l:Int}(hl:l<0)(h:∀x∈r,x<=0):tv l r=0:=by
 rw[<- gC (g:=-1) (by decide) r l]
 refine nY (by rw[HC,Hs];exact Int.neg_pos.mpr hl) fun x hx=>?_
 obtain ⟨y,hy,rfl⟩:=Hq.mp hx
 have:=h y hy
 rw[HC,Hs];exact Int.neg_nonneg.mpr this
theorem DU{row:List Int}{p1 q1 p2 q2:Int}(h1:0<q1)(h2:0<q2)(lo:aw p1 q1 row<0)(n2:aw p2 q2 row≠0)(h:tv 0 (hs (p1*q2) (p2*q1) (q1*q2) row)=1):0<aw p2 q2 row:=by
 have hne:row≠[]:=fun h=>by rw[h] at lo;exact absurd lo (show ¬ (0:Int)<0 by decide)
 obtain ⟨c0,r0,rfl⟩:∃c r,row=c::r:=by
  cases row with
  |nil=>exact absurd rfl hne
  |cons c r=>exact ⟨c,r,rfl⟩
 obtain ⟨c,r,hS⟩:=B4 (b:=p1*q2) (e:=p2*q1) (s:=q1*q2) hne
 have hf:=@iZ p1 q1 p2 q2 c0 r0
 have hla:=@sN p1 q1 p2 q2 c0 r0
 rw[hS] at h hf hla
 rw[j0] at hf
 have hc:c<0:=by rw[hf];exact Int.mul_neg_of_pos_of_neg (Ho h2) lo
 have h':tv c r=1:=by
  rw[fW,if_neg (Int.ne_of_lt hc),HO,if_neg (by decide),HG] at h;exact h
 have hrne:r≠[]:=fun e=>by rw[e] at h';cases h'
 have hr:(c::r).getLast?=some (r.getLast hrne):=by rw[List.getLast?_cons,List.getLast?_eq_some_getLast hrne];rfl
 have hr':r.getLast?=some (r.getLast hrne):=List.getLast?_eq_some_getLast hrne
 rw[jg hr] at hla
 have u:=ig hc (Int.le_of_eq h')
 refine IM.mp fun hle=>?_
 have hz:r.getLast hrne<0:=by rw[hla];exact Int.mul_neg_of_pos_of_neg (Ho h1) (Int.lt_iff_le_and_ne.mpr ⟨hle,n2⟩)
 rw[Fl hc (zm u hr' hz)] at h'
 cases h'
theorem x5{row:List Int}{p1 q1 p2 q2:Int}(h1:0<q1)(h2:0<q2)(lt:p1*q2<p2*q1)(h:Aln row p1 q1 p2 q2):∃σ:Int,(σ=1\/σ=-1)/\UP (smul σ row) p1 q1 p2 q2:=by
 obtain ⟨n1,n2,ht⟩:=h
 have go:∀σ:Int,σ=1\/σ=-1->σ*aw p1 q1 row<0->UP (smul σ row) p1 q1 p2 q2:=fun σ hσ hl=>by
  have s0:σ≠0:=by rcases hσ with rfl|rfl <;> decide
  have ht':tv 0 (hs (p1*q2) (p2*q1) (q1*q2) (smul σ row))=1:=by
   rw[nG]
   have:=gC s0 (hs (p1*q2) (p2*q1) (q1*q2) row) 0
   rw[Hh] at this
   rw[this];exact ht
  have lo':aw p1 q1 (smul σ row)<0:=by rw[bE];exact hl
  exact u6 h1 h2 lt lo' (DU h1 h2 lo' (by rw[bE];exact HF s0 n2) ht') ht'
 rcases Jj n1 with k|k
 ·exact ⟨1,.inl rfl,go 1 (.inl rfl) (by rw[Hs];exact k)⟩
 ·exact ⟨-1,.inr rfl,go (-1) (.inr rfl) (by rw[HC,Hs];exact Int.neg_neg_of_pos k)⟩
theorem vL{row:List Int}{p1 q1 p2 q2:Int}{lo hi g:Re}(h1:0<q1)(h2:0<q2)(e1:(q1:Re)*lo=p1)(e2:(q2:Re)*hi=p2)(l:lo<g)(u:g<hi)(hg:evR row g=0)(h:Aln row p1 q1 p2 q2):∃σ,CA row lo hi g σ:=by
 obtain ⟨σ,hσ,U⟩:=x5 h1 h2 ((jf h1 h2 e1 e2).mpr (fj l u)) h
 have R:=ES U e1 e2 l u (by rw[bG,hg];grind)
 refine ⟨σ,l,u,hσ,fun t a b=>?_⟩
 have e:=R.val t a b
 rw[bG,eX,sV hσ,Hs] at e
 rw[<- e,<- HJ,show σ*σ=1 by rcases hσ with rfl|rfl <;> rfl,Hs]
noncomputable def hN(n:Nat):Rat:=1 / 2^n
theorem yk(n:Nat):hN (n+1)+hN (n+1)=hN n:=by
 have p:=two_pow_pos n
 have hp:(2:Rat)^n≠0:=by grind
 unfold hN;rw[Rat.pow_succ];grind
theorem lO(n:Nat):hN n*2^n=1:=by
 have p:=two_pow_pos n
 have hp:(2:Rat)^n≠0:=by grind
 unfold hN;grind
theorem kX(n:Nat):0<hN n:=by
 have p:=two_pow_pos n
 have h:=lO n
 refine Rat.not_le.mp fun hle=>?_
 have:=HV (show 0<=- hN n by grind) (HB p)
 grind
open Classical in
noncomputable def bsq(row:List Int)(a:Rat):Nat->Rat
 |0=>a
 |n+1=>if evR row (rr (bsq row a n+hN (n+1)))<=0 then bsq row a n+hN (n+1) else bsq row a n
section
variable {row:List Int}{a:Rat}
open Classical in
theorem ll(n:Nat):bsq row a (n+1)=if evR row (rr (bsq row a n+hN (n+1)))<=0 then bsq row a n+hN (n+1) else bsq row a n:=rfl
theorem wN(n:Nat):bsq row a n<=bsq row a (n+1)/\bsq row a (n+1)+hN (n+1)<=bsq row a n+hN n:=by
 have h:=yk n
 have p:=kX (n+1)
 rw[ll]
 split
 ·generalize bsq row a n=x at *;constructor <;> grind
 ·generalize bsq row a n=x at *;constructor <;> grind
theorem pK(n:Nat):∀d:Nat,bsq row a n<=bsq row a (n+d)/\bsq row a (n+d)+hN (n+d)<=bsq row a n+hN n
 |0=>⟨Rat.le_refl,Rat.le_refl⟩
 |d+1=>by
  have h1:=pK n d
  have h2:=@wN row a (n+d)
  exact ⟨Rat.le_trans h1.1 h2.1,Rat.le_trans h2.2 h1.2⟩
theorem lB{n m:Nat}(h:n<=m):bsq row a n<=bsq row a m/\bsq row a m<=bsq row a n+hN n:=by
 obtain ⟨d,rfl⟩:=Ik h
 have h1:=@pK row a n d
 have:=kX (n+d)
 exact ⟨h1.1,by grind⟩
theorem yF(h:evR row (rr a)<=0):∀n,evR row (rr (bsq row a n))<=0
 |0=>h
 |n+1=>by
  rw[ll]
  split
  ·assumption
  ·exact yF h n
theorem yh(h:¬ evR row (rr (a+hN 0))<=0):∀n,¬ evR row (rr (bsq row a n+hN n))<=0
 |0=>h
 |n+1=>by
  rw[ll]
  split
  ·rw[Rat.add_assoc,yk];exact yh h n
  ·assumption
noncomputable def bsS(row:List Int)(a:Rat):Sq:=⟨bsq row a,1,fun n m h=>by
 have h1:=@lB row a n m h
 have p:=two_pow_pos n
 have e:=lO n
 have k1:=HV (show 0<=bsq row a m-bsq row a n by grind) (HB p)
 have k2:=HV (show 0<=hN n-(bsq row a m-bsq row a n) by grind) (HB p)
 generalize bsq row a n=x at *
 generalize bsq row a m=y at *
 constructor <;> grind⟩
theorem BG(n:Nat):rr (bsq row a n)<=Re.mk (bsS row a):=⟨1,fun m=>by
 show (bsq row a n-bsq row a m)*2^m<=1
 have p:=two_pow_pos m
 have e:=lO m
 rcases Jz n m with h|h
 ·have:=HV (show 0<=bsq row a m-bsq row a n by have:=(@lB row a n m h).1;grind) (HB p)
  grind
 ·have:=HV (show 0<=hN m-(bsq row a n-bsq row a m) by have:=(@lB row a m n h).2;grind) (HB p)
  grind⟩
theorem Bq(n:Nat):Re.mk (bsS row a)<=rr (bsq row a n+hN n):=⟨0,fun m=>by
 show (bsq row a m-(bsq row a n+hN n))*2^m<=0
 have p:=two_pow_pos m
 have q:=kX n
 rcases Jz n m with h|h
 ·have:=HV (show 0<=bsq row a n+hN n-bsq row a m by have:=(@lB row a n m h).2;grind) (HB p)
  grind
 ·have:=HV (show 0<=bsq row a n+hN n-bsq row a m by have:=(@lB row a m n h).1;grind) (HB p)
  grind⟩
theorem zr(al:Re)(hr:row≠[]):∃Z:Re,∀z:Re,ab z<=1->ab (evR row (al+z)-evR row al)<=ab z*Z:=by
 cases ht:ic row al with
 |nil=>have:=iu al row;rw[ht] at this;exact absurd (HI this.symm) hr
 |cons c r =>
  have e0:=lL al 0 row
  rw[ht,dF,show al+0=al by grind] at e0
  refine ⟨zz 1 r,fun z hz=>?_⟩
  rw[<- lL al z row,ht,dF,<- e0,show c+z*evl r z-(c+0*evl r 0)=z*evl r z by grind,cQ]
  have:=ac (aI z) (cH (qX hz r))
  grind
theorem Az(h1:evR row (rr a)<=0)(h2:¬ evR row (rr (a+hN 0))<=0):evR row (Re.mk (bsS row a))=0:=by
 have hne:row≠[]:=fun h=>by rw[h] at h2;exact h2 (Ha _)
 have g1:=@BG row a
 have g2:=@Bq row a
 generalize Re.mk (bsS row a)=al at *
 obtain ⟨Z,hZ⟩:=zr (row:=row) al hne
 have sm:∀n,rr (hN n)<=1:=fun n=>by
  have:hN n<=1:=by
   have:=lO n
   have p:=kX n
   have:=lC (Hl n)
   rw[Rat.pow_zero] at this
   have:=HV (HB p) (show 0<=(2:Rat)^n-1 by grind)
   grind
  exact sW this
 have e:∀n,rr (hN n)*2^n=1:=fun n=>by rw[<- kG,<- wu,lO];rfl
 have p2:∀n,(0:Re)<2^n:=fun n=>eQ (by have:=jQ;grind) n
 have hp:∀n,0<=rr (hN n):=fun n=>by have:=sW (HB (kX n));rw[show rr 0=0 from rfl] at this;exact this
 have fin:∀ (ε:Re),0<ε->(∀n,∃z,ab z<=rr (hN n)/\ε<=ab (evR row (al+z)-evR row al))->False:=fun ε h0 hh=>by
  obtain ⟨n,hn⟩:=zG h0 Z
  obtain ⟨z,hz,he⟩:=hh n
  have k:=hZ z (bU hz (sm n))
  have zn:0<=Z:=IN.mp fun hlt=>by
   have:=ac (aI z) (show 0<=-Z by grind)
   grind
  have k1:=ac (cH hz) zn
  have k2:=ac (show 0<=rr (hN n)*Z-ε by grind) (bM (p2 n))
  have:=e n
  generalize rr (hN n)=x at *
  generalize (2:Re)^n=y at *
  have e3:x*Z*y=Z:=by rw[show x*Z*y=(x*y)*Z by grind,this];grind
  clear hZ hh k k1 he hz
  grind
 rcases aS (evR row al) with k|k|k
 ·refine (fin _ k fun n=>⟨rr (bsq row a n)-al,?_,?_⟩).elim
  ·have i1:=g1 n;have i2:=g2 n;have i3:=hp n;rw[nc] at i2
   exact i5 (by grind) (by grind)
  ·have:=yF h1 n
   have q:=(cT (evR row (al+(rr (bsq row a n)-al))-evR row al)).2
   rw[show al+(rr (bsq row a n)-al)=rr (bsq row a n) by grind] at q ⊢
   grind
 ·refine (fin (-evR row al) (by grind) fun n=>⟨rr (bsq row a n+hN n)-al,?_,?_⟩).elim
  ·have i1:=g1 n;have i2:=g2 n;have i3:=hp n;rw[nc] at i2 ⊢
   exact i5 (by grind) (by grind)
  ·have:=yh h2 n
   have q:=(cT (evR row (al+(rr (bsq row a n+hN n)-al))-evR row al)).1
   rw[show al+(rr (bsq row a n+hN n)-al)=rr (bsq row a n+hN n) by grind] at q ⊢
   grind
 ·exact k
theorem tD{k:Int}(h1:evR row ((k:Int):Re)<0)(h2:0<evR row ((k+1:Int):Re)):∃al:Re,((k:Int):Re)<al/\al<((k+1:Int):Re)/\evR row al=0:=by
 have e1:rr (k:Rat)=((k:Int):Re):=rfl
 have e2:rr ((k:Rat)+hN 0)=((k+1:Int):Re):=by rw[nc,ba,show hN 0=((1:Int):Rat) from by unfold hN;rw[Rat.pow_zero,show ((1:Int):Rat)=1 from rfl];grind];rfl
 have r:=Az (row:=row) (a:=(k:Rat)) (by rw[e1];exact bM h1) (by rw[e2];exact Jx.mpr h2)
 have g1:=@BG row (k:Rat) 0
 have g2:=@Bq row (k:Rat) 0
 change rr (k:Rat)<=_ at g1
 change _<=rr ((k:Rat)+hN 0) at g2
 rw[e1] at g1
 rw[e2] at g2
 generalize Re.mk (bsS row (k:Rat))=al at *
 refine ⟨al,?_,?_,r⟩
 ·rcases Std.le_iff_lt_or_eq.mp g1 with h|h
  ·exact h
  ·rw[h,r] at h1;grind
 ·rcases Std.le_iff_lt_or_eq.mp g2 with h|h
  ·exact h
  ·rw[<- h,r] at h2;grind
end
end Mine
set_option exponentiation.threshold 1000
namespace Mine
open PySem Re
structure PZ (row:List Int)(D:Int)(al lo hi:Re)(p1 q1 p2 q2:Int)(t:Nat):Prop where
 sg:∃σ,(σ=1\/σ=-1)/\SgP row lo hi al σ
 l:lo<al
 u:al<hi
 ne:row≠[]
 ln:row.length<=13
 sm:AllSm 1172 row
 d0:0<D
 d1:Sm 2950000 D
 a1:Pt (D*2^t) lo p1 q1
 a2:Pt (D*2^t) hi p2 q2
 wd:hi-lo<=((2^660:Int):Re)
 b1:-((2^700:Int):Re)<=lo
 b2:hi<=((2^700:Int):Re)
section
variable {row:List Int}{D:Int}{al lo hi:Re}{p1 q1 p2 q2:Int}{t:Nat}
theorem PZ.dpos(d:PZ row D al lo hi p1 q1 p2 q2 t)(s:Nat):0<D*2^s:=Hb d.d0 (cG (by decide) s)
theorem PZ.big(d:PZ row D al lo hi p1 q1 p2 q2 t){s:Nat}(hs:s<=20000):Sm 3000000 ((D*2^s)*2^700):=by
 have h2:Sm 2 (2:Int):=by unfold Sm;decide
 have hB:Sm 701 ((2:Int)^700):=by unfold Sm;decide
 exact ((d.d1.mul (h2.pow s)).mul hB).mono (by exact oqz [s] [] [(.le Y0 20000)] (.le (.a (.a 2950000 (.a (.m 2 Y0) 1)) 701) 3000000) [21] rfl hs)
theorem PZ.lh(d:PZ row D al lo hi p1 q1 p2 q2 t):lo<hi:=fj d.l d.u
theorem PZ.low(d:PZ row D al lo hi p1 q1 p2 q2 t){s:Nat}(hs:s<=20000){x:Re}{p q:Int}(a:Pt (D*2^s) x p q)(h1:lo<=x)(h2:x<=hi):Low 3000000 p q:=
 a.low (B:=2^700) (d.dpos s) (by decide) (bU d.b1 h1) (bU h2 d.b2) (d.big hs)
theorem PZ.nb(d:PZ row D al lo hi p1 q1 p2 q2 t)(ht:t<=20000):NB row al lo hi p1 q1 p2 q2 3000000:=
 ⟨d.sg,d.l,d.u,d.ne,d.ln,d.sm,d.low ht d.a1 (Ha _) (bM d.lh),d.low ht d.a2 (bM d.lh) (Ha _),d.a1.val,d.a2.val,GU _⟩
theorem PZ.k1(d:PZ row D al lo hi p1 q1 p2 q2 t)(ht:t<=20000):PK 3000000 lo p1 q1:=⟨(d.nb ht).l1,d.a1.val⟩
theorem PZ.k2(d:PZ row D al lo hi p1 q1 p2 q2 t)(ht:t<=20000):PK 3000000 hi p2 q2:=⟨(d.nb ht).l2,d.a2.val⟩
theorem CQ{lo hi lo' hi' C:Re}(h1:lo<=lo')(h2:hi'<=hi)(h:hi-lo<=C):hi'-lo'<=C:=by grind
theorem PZ.cut(d:PZ row D al lo hi p1 q1 p2 q2 t){t':Nat}{lo' hi':Re}{x1 y1 x2 y2:Int}(a1:Pt (D*2^t') lo' x1 y1)(a2:Pt (D*2^t') hi' x2 y2)(h1:lo<=lo')(h2:lo'<al)(h3:al<hi')(h4:hi'<=hi):PZ row D al lo' hi' x1 y1 x2 y2 t':=by
 obtain ⟨σ,hσ,sg⟩:=d.sg
 exact ⟨⟨σ,hσ,fun x p q hq hx k1 k2=>sg x p q hq hx (bU h1 k1) (bU k2 h4)⟩,h2,h3,d.ne,d.ln,d.sm,d.d0,d.d1,a1,a2,CQ h1 h4 d.wd,bU d.b1 h1,bU h4 d.b2⟩
theorem uq{x:Re}{p q:Int}{s:Nat}(a:Pt (D*2^t) x p q)(h:t<=s):Pt (D*2^s) x p q:=by
 have:=a.scale (2^(s-t))
 rw[show D*2^s=2^(s-t)*(D*2^t) by rw[Int.mul_left_comm,<- IZ,JE h]]
 exact this
theorem PZ.up(d:PZ row D al lo hi p1 q1 p2 q2 t){s:Nat}(h:t<=s):PZ row D al lo hi p1 q1 p2 q2 s:=d.cut (uq d.a1 h) (uq d.a2 h) (Ha _) d.l d.u (Ha _)
theorem Fb{m:Re}(d:PZ row D al lo hi p1 q1 p2 q2 t)(em:2*m=lo+hi):∃a:Int,((D*2^(t+1):Int):Re)*m=a:=by
 obtain ⟨a,ha⟩:=d.a1.un
 obtain ⟨b,hb⟩:=d.a2.un
 refine ⟨a+b,?_⟩
 have e2:((2:Int):Re)=2:=rfl
 rw[Hr,<- HJ,au,e2,ba,<- ha,<- hb]
 generalize ((D*2^t:Int):Re)=Z
 grind
theorem Gs{m s:Re}{c:Int}(d:PZ row D al lo hi p1 q1 p2 q2 t)(em:2*m=lo+hi)(es:16384*s=(c:Re)):(∃a:Int,((D*2^(t+14):Int):Re)*(m+-s)=a)/\∃a:Int,((D*2^(t+14):Int):Re)*(m+s)=a:=by
 obtain ⟨a,ha⟩:=Fb d em
 have e14:((16384:Int):Re)=16384:=rfl
 have e13:((8192:Int):Re)=8192:=rfl
 have k1:((D*2^(t+14):Int):Re)*s=((D*2^t*c:Int):Re):=by
  rw[IZ,<- HJ,au,au _ c,<- es,show ((2^14:Int):Re)=16384 from e14]
  grind
 have k2:((D*2^(t+14):Int):Re)*m=((8192*a:Int):Re):=by
  rw[show D*2^(t+14)=8192*(D*2^(t+1)) by rw[IZ _ t 14,IZ _ t 1];generalize (2:Int)^t=T;grind,au 8192 (D*2^(t+1)),au 8192 a,<- ha]
  grind
 refine ⟨⟨8192*a-D*2^t*c,?_⟩,8192*a+D*2^t*c,?_⟩
 ·rw[show (8192*a-D*2^t*c)=8192*a+-(D*2^t*c) from Int.sub_eq_add_neg,ba,cP,<- k1,<- k2];grind
 ·rw[ba,<- k1,<- k2];grind
theorem GI{i:Nat}{w wr:Re}(h:((2^i:Int):Re)*w<=((2^660:Int):Re))(h1:1<=4096*wr)(h2:wr<w):i<672:=by
 refine JU fun hi=>?_
 obtain ⟨d,rfl⟩:=Ik hi
 rw[show (2^(672+d):Int)=2^660*(4096*2^d) by rw[IZ,show (2:Int)^672=2^660*4096 by decide,HJ],au,au] at h
 have p1:(1:Re)<=((2^d:Int):Re):=aZ (show (1:Int)<=2^d from Ho (by decide))
 have p2:0<((2^660:Int):Re):=bD (cG (by decide) 660)
 have e:((4096:Int):Re)=4096:=rfl
 rw[e] at h
 generalize ((2^660:Int):Re)=B at *
 generalize ((2^d:Int):Re)=E at *
 have k0:1<4096*w:=by grind
 have k1:0<=(E-1)*(4096*w):=ac (cH p1) (by grind)
 have k2:0<B*(4096*E*w-1):=mul_pos p2 (by grind)
 grind
theorem s4{s wr:Re}{c:Int}(h:4*s=wr)(g:4096*wr=(c:Re)):16384*s=(c:Re):=by grind
theorem wsb{a lo hi:Re}(h:a<hi+-lo):a<hi-lo:=by grind
theorem zb{lo hi m s wr al:Re}(em:2*m=lo+hi)(es:4*s=wr)(h:wr<hi+-lo)(w1:1<=4096*wr)(ea:m=al):lo<=m+-s/\m+-s<al/\al<m+s/\m+s<=hi:=by grind
end
inductive qS (H:Hp) (one wv v:V) (row:List Int) (D:Int) (al lo hi:Re) (t n:Nat) (ρ:Loc) (H':Hp):Prop
 |mk (i:Nat) (lo' hi':Re) (x1 y1 x2 y2:Int) (o5 o6 o7:Option V) (c0:n+i=680) (c1:H'=H) (c2:PZ row D al lo' hi' x1 y1 x2 y2 (t+i)) (c3:lo<=lo'/\hi'<=hi) (c4:((2^i:Int):Re)*(hi'-lo')<=((2^660:Int):Re)) (c5:ρ=[some one,some wv,some v,some (pt x1 y1),some (pt x2 y2),o5,o6,o7])
section
variable {sub:Nat->Nat->Bool}{P:List Fn}{n:Nat}{H:Hp}{Q:V->Hp->Prop}{X:Nat->Hp->Prop}
theorem DC(zT:TT P)
  {v:V}{row:List Int}{D p1 q1 p2 q2 wp wq c:Int}{al lo hi wr:Re}{t:Nat} (hv:items H v=some (row.map .int)) (d:PZ row D al lo hi p1 q1 p2 q2 t) (ht:t<=10000) (w:Low 1500000 wp wq) (hw:(wq:Re)*wr=wp) (w0:0<wp) (w1:1<=4096*wr) (wc:4096*wr=(c:Re))
  (hQ:∀lo' hi' x1 y1 x2 y2,PZ row D al lo' hi' x1 y1 x2 y2 (t+700)->lo<=lo'->hi'<=hi->Q (.tup [v,pt x1 y1,pt x2 y2]) H) :
  ag sub P (n+4) 20 [.tup [v,pt p1 q1,pt p2 q2],pt wp wq] H Q X:=by
 refine ao zT.a20 rfl ?_
 dsimp only[oe]
 generalize hC:qe 2 3 5=CC
 generalize hB:mO 3 4 5 6=BB
 dsimp only[qS1,qS2,qS4,qS9,bw,jW,vq,qE1,qE5,bx,aU,dN,aA,az,yY,bu,aN,aD,aB,ay,ax,aO,aC,aq,fq,aa,fy,af,aH,iz,Nat.reduceSub,Nat.reduceAdd,List.length_nil]
 rw[decide_eq_false (IM.mpr w0)]
 dsimp only[aR]
 subst hC hB
 refine ⟨rfl,fun ρ H'=>∃n,qS H (.tup [v,pt p1 q1,pt p2 q2]) (pt wp wq) v row D al lo hi t n ρ H',muI (qS H (.tup [v,pt p1 q1,pt p2 q2]) (pt wp wq) v row D al lo hi t),⟨680,0,lo,hi,p1,q1,p2,q2,_,_,_,rfl,rfl,d,⟨Ha _,Ha _⟩,?_,rfl⟩,?_⟩
 ·rw[HH,show ((1:Int):Re)=1 from rfl,Lean.Grind.Semiring.one_mul];exact d.wd
 intro ρ H' hex
 have hI:=nC hex
 have hle:∀ {n ρ H'},qS H (.tup [v,pt p1 q1,pt p2 q2]) (pt wp wq) v row D al lo hi t n ρ H'->muI (qS H (.tup [v,pt p1 q1,pt p2 q2]) (pt wp wq) v row D al lo hi t) ρ H'<=n:=fun h=>nO h
 generalize muI (qS H (.tup [v,pt p1 q1,pt p2 q2]) (pt wp wq) v row D al lo hi t)=μ at *
 generalize μ ρ H'=nn at *
 obtain ⟨i,lo',hi',x1,y1,x2,y2,o5,o6,o7,hn,rfl,d',⟨c1,c2⟩,cw,rfl⟩:=hI
 have ti:t+i<=20000:=oqz [t,i,nn] [] [(.le Y0 10000),(.eq (Y2+Y1) 680)] (.le (Y0+Y1) 20000) [111] rfl ht hn
 have N:=d'.nb ti
 refine nr zT.a2 zT.a3 zT.a5 zT.a1 zT.a0 w hw (GU _) N.l1 N.l2 N.v1 N.v2 fun b hb=>?_
 cases b with
 |false=>exact hQ _ _ _ _ _ _ (d'.up (s:=t+700) (by exact oqz [t,i,nn] [] [(.eq (Y2+Y1) 680)] (.le (Y0+Y1) (Y0+700)) [11] rfl hn)) c1 c2
 |true =>
  have hlt:=hb.mp rfl
  have hi6:i<672:=GI cw w1 (wsb hlt)
  have ti1:t+i+1<=20000:=oqz [t,i,nn] [] [(.le Y0 10000),(.eq (Y2+Y1) 680)] (.le (Y0+Y1+1) 20000) [111] rfl ht hn
  have nx:∀ (lo2 hi2:Re) (z1 w1 z2 w2:Int) (o5 o6:Option V),PZ row D al lo2 hi2 z1 w1 z2 w2 (t+i+1)->lo'<=lo2->hi2<=hi'->2*(hi2-lo2)<=hi'-lo'->(∃n,qS H' (.tup [v,pt p1 q1,pt p2 q2]) (pt wp wq) v row D al lo hi t n [some (.tup [v,pt p1 q1,pt p2 q2]),some (pt wp wq),some v,some (pt z1 w1),some (pt z2 w2),o5,o6,o7] H')/\μ [some (.tup [v,pt p1 q1,pt p2 q2]),some (pt wp wq),some v,some (pt z1 w1),some (pt z2 w2),o5,o6,o7] H'<nn:=fun lo2 hi2 z1 w1 z2 w2 o5 o6 d2 k1 k2 kw=>by
   have hN:qS H' (.tup [v,pt p1 q1,pt p2 q2]) (pt wp wq) v row D al lo hi t (nn-1) [some (.tup [v,pt p1 q1,pt p2 q2]),some (pt wp wq),some v,some (pt z1 w1),some (pt z2 w2),o5,o6,o7] H':=
    ⟨i+1,_,_,_,_,_,_,_,_,_,by exact oqz [nn-1,nn,i] [] [(.eq (Y1+Y2) 680),(.le (Y2+1) 672),(osb Y1 1 Y0)] (.eq (Y0+(Y2+1)) 680) [100101,11100,1000011] rfl hn hi6 (am (nn) (1)),rfl,d2,⟨bU c1 k1,bU k2 c2⟩,by rw[Hr,au];exact nl (G4 (bD (cG (by decide) i))) cw kw,rfl⟩
   exact ⟨⟨_,hN⟩,Hx (hle hN) (by exact oqz [nn-1,nn,i] [] [(.eq (Y1+Y2) 680),(.le (Y2+1) 672),(osb Y1 1 Y0)] (.le (Y0+1) Y1) [1000001,11100] rfl hn hi6 (am (nn) (1)))⟩
  have hlh:=d'.lh
  have PM:∀ {m m1 m2 K},2*m=lo'+hi'->Low K m1 m2->(m2:Re)*m=m1->Pt (D*2^(t+i+1)) m m1 m2:=fun em M vm=>Pt.of_low M vm (Fb d' em)
  dsimp only[aN,aX,aa,af]
  refine xT zT hv N w hw (fun m m1 m2 K em M vm=>?_) (fun m s z1 w1' z2 w2 K em e4 ea Z1 h1 Z2 h2=>?_) (fun m m1 m2 o5 o6 em M vm h=>?_) fun m m1 m2 o5 o6 em M vm h=>?_
  ·exact d'.low ti1 (PM em M vm) (bM (qo em hlh)) (bM (pV em hlh))
  ·obtain ⟨u1,u2⟩:=Gs d' em (s4 e4 wc)
   refine g7 (zb em e4 hlt w1 ea) fun k1 k2 k3 k4=>?_
   exact hQ _ _ _ _ _ _ ((d'.cut (Pt.of_low Z1 h1 u1) (Pt.of_low Z2 h2 u2) k1 k2 k3 k4).up (s:=t+700) (by exact oqz [t,i,nn] [] [(.eq (Y2+Y1) 680)] (.le (Y0+Y1+14) (Y0+700)) [11] rfl hn)) (bU c1 k1) (bU k4 c2)
  ·exact nx _ _ _ _ _ _ _ _ (d'.cut (PM em M vm) (uq d'.a2 (Ij _)) (bM (qo em hlh)) h d'.u (Ha _)) (bM (qo em hlh)) (Ha _) (yq em)
  ·exact nx _ _ _ _ _ _ _ _ (d'.cut (uq d'.a1 (Ij _)) (PM em M vm) (Ha _) d'.l h (bM (pV em hlh))) (Ha _) (bM (pV em hlh)) (yf em)
end
end Mine
set_option exponentiation.threshold 1000
namespace Mine
open PySem Re
theorem PG.toZ{row:List Int}{N:Int}{al lo hi:Re}{p1 q1 p2 q2:Int}(d:PG row N al lo hi p1 q1 p2 q2 0):PZ row N al lo hi p1 q1 p2 q2 0:=by
 have k1:=aZ (show (2^450:Int)<=2^660 by decide)
 have k2:=aZ (show (2^200:Int)<=2^700 by decide)
 have w:=d.wd
 have b1:=d.b1
 have b2:=d.b2
 rw[HH,show ((1:Int):Re)=1 from rfl,Lean.Grind.Semiring.one_mul] at w
 refine ⟨d.sg,d.l,d.u,d.ne,d.ln,d.sm.mono (by decide),d.n0,d.n1.mono (by decide),d.a1,d.a2,bU w k1,?_,bU b2 k2⟩
 generalize ((2^200:Int):Re)=A at *
 generalize ((2^700:Int):Re)=B at *
 clear w
 grind
theorem uj{row:List Int}{lo hi al:Re}{σ:Int}(h:CA row lo hi al σ):∃σ,(σ=1\/σ=-1)/\SgP row lo hi al σ:=⟨σ,h.sg,fun x _ _ _ _ h1 h2=>h.val x h1 h2⟩
theorem Ek{g lo hi A B C:Re}(h1:lo<g)(h2:g<hi)(w:hi-lo<=B)(a1:g<=A)(a2:-g<=A)(k:A+B<=C):-C<=lo/\hi<=C:=by grind
theorem PgG.toZ{R:List Int}{g:Re}{p1 q1 p2 q2:Int}(h:PgG R g p1 q1 p2 q2)(h13:R.length<=13):∃lo hi,PZ R (q1*q2) g lo hi p1 q1 p2 q2 0:=by
 obtain ⟨lo,hi,A,w⟩:=h.ab
 obtain ⟨σ,r⟩:=vL A.l1.pos A.l2.pos A.v1 A.v2 A.lt A.gt h.rt h.al
 obtain ⟨g1,g2⟩:=cT g
 have k:=aZ (show (((2^50:Nat):Int)+2^660:Int)<=2^700 by decide)
 rw[ba] at k
 obtain ⟨b1,b2⟩:=Ek A.lt A.gt w (bU g1 h.gb) (bU g2 h.gb) k
 refine ⟨lo,hi,uj r,A.lt,A.gt,fun e=>?_,h13,h.sm,Hb A.l1.pos A.l2.pos,(A.l1.bot.mul A.l2.bot).mono (by decide),⟨A.l1.pos,A.l1.one,A.v1,p1*q2,?_⟩,⟨A.l2.pos,A.l2.one,A.v2,q1*p2,?_⟩,w,b1,b2⟩
 ·have:=h.l2;rw[e] at this;exact absurd this (by decide)
 ·rw[HH,H7,au,au,<- A.v1];grind
 ·rw[HH,H7,au,au,<- A.v2];grind
structure WdO (wq:Int):Prop where
 pos:0<wq
 sm:Sm 14 wq
 ex:∃k:Int,1<=k/\wq*k=4096
theorem WdO.one:WdO 1:=⟨by decide,by unfold Sm;decide,4096,by decide,by decide⟩
theorem WdO.two:WdO 16:=⟨by decide,by unfold Sm;decide,256,by decide,by decide⟩
theorem WdO.three:WdO 4096:=⟨by decide,by unfold Sm;decide,1,by decide,by decide⟩
theorem WdO.val{wq:Int}(h:WdO wq):∃ (wr:Re) (c:Int),(wq:Re)*wr=((1:Int):Re)/\1<=4096*wr/\4096*wr=(c:Re):=by
 obtain ⟨k,k1,e⟩:=h.ex
 have hm:=dw (p:=1) (GY h.pos)
 generalize rq 1 wq=wr at *
 have e2:4096*wr=(k:Re):=by
  have e3:((4096:Int):Re)=4096:=rfl
  rw[<- e3,<- e,au,show (wq:Re)*k*wr=k*(wq*wr) by grind,hm,show ((1:Int):Re)=1 from rfl];grind
 exact ⟨wr,k,hm,by rw[e2];exact aZ k1,e2⟩
theorem pT{H:Hp}{xs ys:List Int}{Q:Bool->Prop}(hQ:Q (decide (xs=ys))):l6 (.tup (xs.map .int)) (.tup (ys.map .int)) H Q:=
 ⟨_,_,.inl ⟨xs,rfl,rfl⟩,.inl ⟨ys,rfl,rfl⟩,by rw[PyData.eqv,eW];exact hQ⟩
theorem wE{x:Int}(h:sgn x=-1):x<0:=by
 unfold sgn at h;split at h
 ·assumption
 ·split at h <;> cases h
theorem xo{x:Int}(h:sgn x=1):0<x:=by
 unfold sgn at h;split at h
 ·cases h
 ·split at h
  ·assumption
  ·cases h
theorem PZ.sg2{row:List Int}{D:Int}{al lo hi:Re}{p1 q1 p2 q2:Int}{t:Nat}(d:PZ row D al lo hi p1 q1 p2 q2 t):(sgn (aw p1 q1 row)=-1/\sgn (aw p2 q2 row)=1)\/(sgn (aw p1 q1 row)=1/\sgn (aw p2 q2 row)=-1):=by
 obtain ⟨σ,hσ,e⟩:=d.sg
 have e1:=e lo p1 q1 d.a1.pos d.a1.val (Ha _) (bM d.lh)
 have e2:=e hi p2 q2 d.a2.pos d.a2.val (bM d.lh) (Ha _)
 rw[bh (Ay d.l),<- eJ d.ne d.a1.pos d.a1.val] at e1
 rw[bj (eO d.u),<- eJ d.ne d.a2.pos d.a2.val] at e2
 rcases hσ with rfl|rfl
 ·exact .inl ⟨e1,e2⟩
 ·exact .inr ⟨e1,e2⟩
theorem PZ.sgn{row:List Int}{D:Int}{al lo hi:Re}{p1 q1 p2 q2:Int}{t:Nat}(d:PZ row D al lo hi p1 q1 p2 q2 t):aw p1 q1 row*aw p2 q2 row<0:=
 d.sg2.elim (fun h=>Int.mul_neg_of_neg_of_pos (wE h.1) (xo h.2)) fun h=>Int.mul_neg_of_pos_of_neg (xo h.1) (wE h.2)
section
variable {sub:Nat->Nat->Bool}{P:List Fn}{n:Nat}{H:Hp}{Q:V->Hp->Prop}{X:Nat->Hp->Prop}
theorem Ga(zT:TT P)
  {row:List Int}{D p1 q1 p2 q2 wq:Int}{al lo hi:Re}{t:Nat} (d:PZ row D al lo hi p1 q1 p2 q2 t) (ht:t<=10000) (w:WdO wq)
  (hQ:∀lo' hi' x1 y1 x2 y2,PZ row D al lo' hi' x1 y1 x2 y2 (t+700)->Q (pg row x1 y1 x2 y2) H):ag sub P (n+5) 50 [pg row p1 q1 p2 q2,pt 1 wq] H Q X:=by
 obtain ⟨wr,c,w1,w2,w3⟩:=w.val
 refine ao zT.a50 rfl ?_
 dsimp only[bNw]
 generalize hT:Ds 45 49 41=T
 dsimp only[qS1,qS2,qS3,qS9,bw,qE5,aM,aA,az,aD,aB,ay,ax,aO,aC,aq,aa,af,aH,Nat.reduceSub]
 refine DC zT (n:=n) (c:=c) (wr:=wr) (v:=.tup (row.map .int)) rfl d ht ⟨Sm.one (k:=1499999),w.sm.mono (by decide),w.pos,by rw[Int.one_gcd]⟩ w1 (by decide) w2 w3 fun lo' hi' x1 y1 x2 y2 d' c1 c2=>?_
 have hB:1172+1+(row.length+1)*(3000000+2)<=60000000:=n4 d.ln (GU _)
 have K:=d.nb (GP ht (by decide))
 have K':=d'.nb (by exact oqz [t] [] [(.le Y0 10000)] (.le (Y0+700) 20000) [11] rfl ht)
 dsimp only[qE1,qE4,qE5,jh,bx,iP,b6,w8,aU,aA,az,bX,jR,eF,cE,aN,aa,af]
 refine ifSome.mk (v:=[true]) rfl ?_
 refine (if_pos (show (![true].any id)=false from rfl)).mpr ?_
 refine (if_pos (show (!decide ((([V.tup (row.map .int),pt x1 y1,pt x2 y2].length:Nat):Int)=3))=false from rfl)).mpr ?_
 dsimp only[Fm]
 refine pT ?_
 rw[decide_eq_true rfl]
 subst hT
 dsimp only[Ds,qS1,qS2,qS9,bw,qE1,qE4,qE5,jh,iP,aM,aU,aA,az,bX,bJ,bI,aN,aR,gf,aa,af]
 refine iD zT K'.l1 ?_
 dsimp only[aN,aR,du,gf,aa]
 refine iD zT K'.l2 ?_
 dsimp only[EJ,qS1,qS2,qS9,bw,qE1,qE4,qE5,iP,aM,aU,aA,az,bX,bJ,bI,aN,aR,gf,aa,af]
 refine kJ zT.a49 ⟨K'.l1,K'.v1⟩ ⟨K.l1,K.v1⟩ (by decide) (by decide) (fun h=>absurd h (IN.mpr c1)) fun _=>?_
 dsimp only[aN,aR,du,aa]
 refine kJ zT.a49 ⟨K.l2,K.v2⟩ ⟨K'.l2,K'.v2⟩ (by decide) (by decide) (fun h=>absurd h (IN.mpr c2)) fun _=>?_
 dsimp only[Fd,qS1,qS2,qS9,bw,qE1,qE4,qE5,qE8,bx,aM,aU,aA,az,cE,bJ,bI,aN,aR,aa,af]
 refine oB zT (v:=.tup (row.map .int)) rfl (GP d.ln (by decide)) d.sm K'.l1.top K'.l1.bot hB ?_
 refine oB zT (v:=.tup (row.map .int)) rfl (GP d.ln (by decide)) d.sm K'.l2.top K'.l2.bot hB ?_
 have hB2:1172+1+row.length*(3000000+2)<=60000000:=GP (Ih (HM _ (Ij _)) _) hB
 dsimp only[dm,oK,aN,aa]
 refine ⟨IntMulOk.sm (fS K'.l1.top K'.l1.bot d.sm) (fS K'.l2.top K'.l2.bot d.sm) (GP hB2 (by decide)) (GP hB2 (by decide)),?_⟩
 rw[decide_eq_false (IM.mpr d'.sgn)]
 exact hQ _ _ _ _ _ _ d'
end
end Mine
namespace Mine
open PySem Re
theorem AO{a b c:Re}(h:-a<b)(g:a<c):-b<c:=by grind
theorem zp{a b c:Re}(h:b < -a)(g:c<a):c < -b:=by grind
section
variable {sub:Nat->Nat->Bool}{P:List Fn}{n:Nat}{H:Hp}{Q:V->Hp->Prop}{X:Nat->Hp->Prop}
theorem GM(zT:TT P)
  (hn:∀ {row:List Int}{D p1 q1 p2 q2 wq:Int}{al lo hi:Re}{t:Nat}{H:Hp}{Q:V->Hp->Prop}{X:Nat->Hp->Prop},PZ row D al lo hi p1 q1 p2 q2 t->t<=10000->WdO wq->(∀lo' hi' x1 y1 x2 y2,PZ row D al lo' hi' x1 y1 x2 y2 (t+700)->Q (pg row x1 y1 x2 y2) H)->ag sub P (n+5) 50 [pg row p1 q1 p2 q2,pt 1 wq] H Q X)
  {row row':List Int}{D D' p1 q1 p2 q2 r1 s1 r2 s2:Int}{al lo hi lo' hi':Re} (d:PZ row D al lo hi p1 q1 p2 q2 0) (d':PZ row' D' (-al) lo' hi' r1 s1 r2 s2 0) (hQ:∀H',H<+:H'->Q (.bool true) H') :
  ag sub P (n+6) 56 [pg row' r1 s1 r2 s2,pg row p1 q1 p2 q2] H Q X:=by
 refine ao zT.a56 rfl ?_
 dsimp only[bMt]
 generalize hT:tMt 49=T
 dsimp only[qS1,qS2,qS3,qS9,bw,qE1,qE5,aM,dN,aA,az,aD,aB,ay,ax,aO,aC,aq,aa,af,aH,Nat.reduceSub]
 refine hn d (Hl _) WdO.three fun lo1 hi1 x1 y1 x2 y2 z=>?_
 refine hn d' (Hl _) WdO.three fun lo2 hi2 u1 v1 u2 v2 z'=>?_
 subst hT
 dsimp only[tMt,qS1,qS2,qS3,qS9,qE1,qE2,qE4,qE5,qE8,bx,lZ,iP,aM,aU,dN,fY,aA,az,bX,EW,e6,bJ,bI,bu,bS,aN,aR,du,aa,af,aH]
 have i0:∀ {k:Nat}{x:V}{Z:V->Hp->Prop},([pt (0-u2) v2,pt (0-u1) v1])[k]?=some x->Z x (H++[[pt (0-u2) v2,pt (0-u1) v1]])->dX (.lst H.length) (.int (k:Int)) (H++[[pt (0-u2) v2,pt (0-u1) v1]]) Z:=fun hx hz=>ix3 (ai _ _ _) (aG (GX.mp hx).1) hx hz
 have k1:=z.k1 (by decide)
 have k2:=z.k2 (by decide)
 have j1:=(z'.k1 (by decide)).neg
 have j2:=(z'.k2 (by decide)).neg
 refine i0 (k:=0) rfl ?_
 refine kJ zT.a49 j2 k2 (by decide) (by decide) (fun _=>?_) fun h=>absurd (AO z'.u z.u) h
 dsimp only[aN,aX,aa]
 refine i0 (k:=1) rfl ?_
 refine kJ zT.a49 k1 j1 (by decide) (by decide) (fun _=>?_) fun h=>absurd (zp z'.l z.l) h
 exact hQ _ (aj _ _)
end
end Mine
namespace Mine
open PySem Re
theorem sO:∀xs:List Int,bv (bv xs)=xs
 | []=>rfl
 | [x]=>rfl
 |x::y::r=>by rw[rf,rf,sO r,Int.neg_neg]
theorem qj(c:Int):∀xs:List Int,bv (smul c xs)=smul c (bv xs)
 | []=>rfl
 | [x]=>rfl
 |x::y::r=>by
  show bv (c*x::c*y::smul c r)=c*x::c*-y::smul c (bv r)
  rw[rf,qj c r,Int.mul_neg]
theorem Aa(xs:List Int):smul 1 xs=xs:=by
 show xs.map _=xs
 rw[show (fun x:Int=>1*x)=id from funext fun x=>Hs x,List.map_id]
theorem y9{row:List Int}{l σ τ:Int}(hl:row.getLast?=some l)(l0:0<l)(h1:σ=1\/σ=-1)(h2:τ=1\/τ=-1)(h:(smul τ (bv (smul σ (bv row)))).getLast?=some l):smul τ (bv (smul σ (bv row)))=row:=by
 rw[qj,sO,mc] at *
 have:τ*σ*l=l:=G5 ((ir hl).symm.trans h)
 have e:τ*σ=1:=by
  rcases h1 with rfl|rfl <;> rcases h2 with rfl|rfl <;> first|rfl | (exfalso;omega)
 rw[e,Aa]
theorem uJ{A r:List Int}(tA:Tr A)(R:Rst A A r):r=[]:=by
 rcases R.tr with h|h
 ·exact h
 ·obtain ⟨c,d,q,hc,hd,pq,e⟩:=R.eq
  have D:Dv (ev A) (ev r):=⟨d,fun t=>c-q t,hd,(PF.const c).sub pq,fun t=>by have:=e t;dsimp only;rw[Int.mul_sub];rw[HS c,HS (q t)] at this;exact oqz [] [d*ev r t,ev A t*c,ev A t*q t] [(.ie Y1 (Y2+Y0))] (.ie Y0 (.s Y1 Y2)) [11,101] rfl this⟩
  obtain ⟨_,K,_,hK,hl,_⟩:=EA tA h D
  have:=HA.mpr hK
  have:=R.len
  omega
inductive CsI (H:Hp) (w:V) (A:List Int) (ρ:Loc) (H':Hp):Prop
 |beg (v:V) (o:Option V) (e:ρ=[some v,some w,o]) (hp:H<+:H') (hv:items H' v=some (A.map .int)) (hw:items H' w=some (A.map .int))
 |fin (k:Nat) (o:Option V) (e:ρ=[some w,some (.lst k),o]) (hp:H<+:H') (hk:H'[k]?=some []) (hw:items H' w=some (A.map .int))
section
variable {sub:Nat->Nat->Bool}{P:List Fn}{n:Nat}{H:Hp}{Q:V->Hp->Prop}{X:Nat->Hp->Prop}
theorem uM(zT:TT P)
  {v w:V}{A:List Int}{l:Int} (hv:items H v=some (A.map .int)) (hw:items H w=some (A.map .int)) (hl:A.getLast?=some l) (l0:0<l) (one:br A 0=1) (hA:A.length<=13) (sA:AllSm 1172 A)
  (hQ:∀H' k,H<+:H'->H'[k]?=some (A.map .int)->Q (.lst k) H'):ag sub P (n+4) 12 [v,w] H Q X:=by
 have tA:Tr A:=⟨l,hl,GY l0⟩
 refine ao zT.a12 rfl ?_
 dsimp only[j4,nQ]
 dsimp only[qS1,qS2,qS3,qS9,jW,qE5,aM,aA,az,aD,aB,ay,ax,aO,aC,aq,Nat.reduceSub]
 refine ⟨CsI H w A,fun ρ H'=>jp H' (af ρ 1),.beg v none rfl (JB _) hv hw,?_⟩
 rintro ρ H' (⟨v,o,rfl,hp,hv,hw⟩ | ⟨k,o,rfl,hp,hk,hw⟩)
 ·dsimp only[aa,af,aH]
  refine ifSome.mk (eY hw) ?_
  have hne:(!(A.map V.int).isEmpty)=true:=by
   cases A with
   |nil=>exact absurd rfl tA.ne
   |cons _ _=>rfl
  rw[hne]
  dsimp only[aX]
  refine tc zT hv hw (.inr tA) hl (GY l0) (GP hA (by decide)) sA sA (by rw[Nat.sub_self];decide) fun H2 k r hp2 hr R _=>?_
  have:=uJ tA R
  subst this
  refine ⟨.fin k _ rfl (ah hp hp2) hr (b7 hp2 hw),?_⟩
  show jp H2 (some (V.lst k))<jp H' (some w)
  rw[e5 (x:=.lst k) hr,e5 hw,GO,GO]
  exact HA.mpr tA.ne
 ·dsimp only[aa,af,aH]
  refine ifSome.mk (eY (x:=.lst k) hk) ?_
  refine (if_neg (show ¬ (!([]:List V).isEmpty)=true by decide)).mpr ?_
  refine iV (n:=n+2) (ng:=ngQ) kK zT.a8 (fun a b H' Z X' hz=>fo zT.a0 hz) hw hl (GY l0) (GP hA (by decide)) ?_
  rw[oI one l0]
  exact hQ _ _ (ah hp (aj _ _)) (ai _ _ _)
theorem qE(zT:TT P)
  {row:List Int}{D p1 q1 p2 q2 l:Int}{al lo hi:Re} (d:PZ row D al lo hi p1 q1 p2 q2 0) (hl:row.getLast?=some l) (l0:0<l) (one:br row 0=1) (hQ:∀H',H<+:H'->Q (.int 0) H') :
  ag sub P (n+6) 23 [pg row p1 q1 p2 q2,pg row p1 q1 p2 q2] H Q X:=by
 have k1:=d.k1 (by decide)
 have k2:=d.k2 (by decide)
 have hB:=n4 d.ln (GU 3000000)
 refine ao zT.a23 rfl ?_
 dsimp only[wM]
 generalize hL:BX 2 21=LL
 dsimp only[qS1,qS2,qS9,bw,qE1,qE5,aM,aA,az,aD,aB,ay,ax,aC,aq,aa,af,Nat.reduceSub]
 refine ao zT.a22 rfl ?_
 dsimp only[wG,yr,v9,qS1,qS2,qS3,qS9,bw,qE1,qE2,qE5,jh,aM,aU,aA,az,bJ,bI,aD,aB,ay,ax,aO,aC,aq,aa,af,aH,Nat.reduceSub]
 refine kJ zT.a2 k1 k1 (by decide) (by decide) (fun h=>(Std.lt_irrefl h).elim) fun _=>?_
 dsimp only[aN,aR,aa]
 refine kJ zT.a2 k2 k2 (by decide) (by decide) (fun h=>(Std.lt_irrefl h).elim) fun _=>?_
 dsimp only[aN,aR,aa]
 refine kJ zT.a2 k1 k2 (by decide) (by decide) (fun _=>?_) fun h=>absurd d.lh h
 dsimp only[w7,qS1,qS2,qS3,qS9,qE1,qE5,qE8,bx,aM,aU,aA,az,cE,aN,aR,gf,aa,af,aH]
 refine uM zT (v:=.tup (row.map .int)) (w:=.tup (row.map .int)) rfl rfl hl l0 one d.ln d.sm fun H1 k hp hk=>?_
 refine gg zT (v:=.lst k) hk d.sm k1.l.top k1.l.bot hB ?_
 refine gg zT (v:=.lst k) hk d.sm k2.l.top k2.l.bot hB ?_
 have s0:Mine.sgn (aw p1 q1 row)*Mine.sgn (aw p2 q2 row)<0:=by rcases d.sg2 with h|h <;> rw[h.1,h.2] <;> decide
 dsimp only[dm,fh,aN,aa]
 refine ⟨by rw[eJ d.ne k1.l.pos k1.v];exact IntMulOk.left (CL _),?_⟩
 rw[decide_eq_true s0]
 exact hQ _ hp
end
end Mine
namespace Mine
open PySem
structure yd (m:Nat)(row:List Int)(l:Int):Prop where
 len:2<=row.length
 len':row.length<=m
 last:row.getLast?=some l
 pos:0<l
 one:br row 0=1
 sm:AllSm 4 row
theorem zc{m:Nat}{row:List Int}{l:Int}(h1:2<=row.length)(h2:row.length<=m)(hl:row.getLast?=some l)(h0:l≠0)(hs:AllSm 4 row):yd m (cv row l) (l.fdiv (gOf row l)):=by
 have hmem:=Hd hl
 refine ⟨by rw[cV];exact h1,by rw[cV];exact h2,?_,cL hmem h0,eI hmem h0,fV hmem h0 hs⟩
 unfold cv
 rw[IA,hl];rfl
theorem vN{β:Type}{xs:List β}{x y:β}:(xs++[x]).set xs.length y=xs++[y]:=by
 rw[JO _ _ (GU _)];simp
section
variable {sub:Nat->Nat->Bool}{P:List Fn}{n sm:Nat}{H:Hp}{Q:V->Hp->Prop}{X:Nat->Hp->Prop}
theorem AG(zT:TT P){m:Nat}{cells:List Int}(hm:H[m]?=some (cells.map .int))(hl:cells.length<=63)
  (hQ:∀H' k row l,H<+:H'->H'[k]?=some ((row:List Int).map .int)->yd (max 3 cells.length) row l->Q (.lst k) H'):ag sub P (n+3) 47 [.lst m] H Q X:=by
 refine ao zT.a47 rfl ?_
 dsimp only[qB,qS1,qS2,qS3,qS9,bw,qE1,qE5,qE8,qE9,bx,b6,fY,f9,aA,az,qO1,qI1,fh,cJ,aN,dc,cg,aD,aB,ay,ax,aO,aC,aq,aX,aa,af,aH,Nat.reduceSub]
 refine ifSome.mk hm ⟨by rw[GO];unfold lim;exact owk (by decide) hl,?_⟩
 refine ej (g:=fun x=>match x with | .int y=>V.int (y.fmod 13-6) |x=>x) (fun x hx k hk=>?_) ?_
 ·obtain ⟨y,_,rfl⟩:=Hq.mp hx
  exact ⟨by decide,hk⟩
 rw[Hw]
 have eM:(cells.map ((fun x=>match x with | .int y=>V.int (y.fmod 13-6) |x=>x) ∘ V.int))=(cells.map fun y=>y.fmod 13-6).map V.int:=by rw[Hw];rfl
 rw[eM]
 have hxs:AllSm 4 (cells.map fun y=>y.fmod 13-6):=fun x hx=>by
  obtain ⟨y,_,rfl⟩:=Hq.mp hx
  have h1:=Im y (b:=13) (by decide)
  have h2:=IJ y (b:=13) (by decide)
  unfold Sm;exact oqz [(y.fmod 13-6).natAbs] [y.fmod 13] [(.il 0 Y0),(.il (Y0+1) 13),(ona (.s Y0 6) Y0)] (.le (Y0+1) 16) [10101,10011] rfl h1 h2 (bn (y.fmod 13-6))
 have hxl:(cells.map fun y=>y.fmod 13-6).length=cells.length:=GO ..
 revert hxs hxl
 generalize (cells.map fun y=>y.fmod 13-6)=xs
 intro hxs hxl
 refine ifSome.mk (ai _ _ _) ?_
 rw[GO]
 by_cases h2:((xs.length:Nat):Int)<2
 ·rw[decide_eq_true h2]
  refine hQ _ _ [-2,0,1] 1 (ah (aj _ _) (aj _ _)) (ai _ _ _) ⟨by decide,Nat.le_max_left _ _,rfl,by decide,by decide +kernel,fun x hx=>?_⟩
  have hx':x=-2\/x=0\/x=1:=by simpa using hx
  unfold Sm;exact oqz [x.natAbs] [x] [(.or (.ie Y0 (.g 2)) (.or (.ie Y0 0) (.ie Y0 1))),(ona Y0 Y0)] (.le (Y0+1) 16) [10011,10101] rfl hx' (bn (x))
 rw[decide_eq_false h2]
 dsimp only[xU,qS1,qS2,qS5,qS9,bw,qE1,qE5,qE9,bx,aM,aU,aA,az,cu,aR,aa,bO,fu,af]
 have h2':2<=xs.length:=oqz [xs.length] [] [(.no (.il (.a (.c Y0) 1) 2))] (.le 2 Y0) [11] rfl h2
 obtain ⟨r0,c,hrow⟩:∃r0 c,xs=r0++[c]:=⟨xs.dropLast,xs.getLast (by intro h;rw[h] at h2';simp at h2'),(List.dropLast_concat_getLast _).symm⟩
 have hxl1:(xs.map V.int).length=r0.length+1:=by rw[hrow];simp
 have fin:∀ (ys:List Int) (l:Int),ys.getLast?=some l->l≠0->AllSm 4 ys->ys.length=cells.length->ag sub P (n+2) 40 [.lst H.length] (H++[ys.map .int]) Q fun _ _=>False:=fun ys l hy h0 hs hyl=>by
  refine iV (n:=n+1) (fun g ρ H' Z hg hz=>?_) zT.a40 (fun a b H' Z X' hz=>vI zT hz) (v:=.lst H.length) (ai _ _ _) hy h0 (by exact oqz [ys.length,cells.length] [] [(.le Y1 63),(.eq Y0 Y1)] (.le Y0 1000) [111] rfl hl hyl) ?_
  ·dsimp only[ngL,qE1,qE5,qE8]
   refine ifSome.mk hg ?_
   show Z (.int (0-g)) H'
   rw[Int.zero_sub];exact hz
  exact hQ _ _ _ _ (ah (aj _ _) (aj _ _)) (ai _ _ _) (zc (by exact oqz [ys.length,cells.length,xs.length] [] [(.eq Y2 Y1),(.le 2 Y2),(.eq Y0 Y1)] (.le 2 Y0) [101011] rfl hxl h2' hyl) (by rw[hyl];exact Nat.le_max_right _ _) hy h0 hs)
 refine ifSome.mk (ai _ _ _) (ifSome.mk (cq (by exact oqz [(List.map V.int xs).length,r0.length] [] [(.eq Y0 (Y1+1))] (.le 1 Y0) [101] rfl hxl1)) (ifSome.mk (v:=.int c) ?_ ?_))
 ·rw[hrow,G9,GR,GO];simp
 dsimp only[dQ,aN,aa]
 by_cases hc:c=0
 ·rw[decide_eq_true hc]
  refine ⟨GU _,?_⟩
  refine ifSome.mk (ai _ _ _) (ifSome.mk (cq (by exact oqz [(List.map V.int xs).length,r0.length] [] [(.eq Y0 (Y1+1))] (.le 1 Y0) [101] rfl hxl1)) ?_)
  rw[cy,hxl1,Nat.add_sub_cancel,hrow,G9]
  have:=@vN V (r0.map V.int) (V.int c) (V.int 1)
  rw[GO] at this
  rw[G1,List.map_nil,this]
  have e2:r0.map V.int++[V.int 1]=(r0++[1]).map V.int:=by rw[G9];rfl
  rw[e2]
  refine fin _ 1 (by simp) (by decide) (fun x hx=>?_) ?_
  ·rcases Hy.mp hx with hx|hx
   ·exact hxs x (by rw[hrow];exact I7 _ hx)
   ·rw[He.mp hx];unfold Sm;decide
  ·rw[<- hxl,hrow];simp
 ·rw[decide_eq_false hc]
  exact fin xs c (by rw[hrow];simp) hc hxs hxl
structure PegBy (m:Nat)(row:List Int)(l a:Int):Prop where
 ok:yd m row l
 lo:-9<=a
 hi:a<=8
 neg:aw a 1 row*aw (a+1) 1 row<0
 tv:tv 0 (hs (a*1) ((a+1)*1) (1*1) row)=1
theorem EX{m:Nat}(hm:3<=m):PegBy m [-2,0,1] 1 1:=by
 refine ⟨⟨by decide,hm,rfl,by decide,by decide +kernel,fun x hx=>?_⟩,by decide,by decide,by decide,by decide⟩
 have hx':x=-2\/x=0\/x=1:=by simpa using hx
 unfold Sm;exact oqz [x.natAbs] [x] [(.or (.ie Y0 (.g 2)) (.or (.ie Y0 0) (.ie Y0 1))),(ona Y0 Y0)] (.le (Y0+1) 16) [10011,10101] rfl hx' (bn (x))
inductive PbI (m k M:Nat) (draw:Int) (H1 H2:Hp) (rest:List V) (ρ:Loc) (H':Hp):Prop
 |mk (j t:Nat) (xs:List V) (K:Hp) (o:Option V) (c0:j+t=18) (c1:rest=(List.range' j t).map fun (i:Nat)=>V.int (i:Int)) (c2:ρ=[some (.lst m),some (.int draw),some (.lst k),some (.lst H1.length),some (.lst H2.length),o]) (c3:H'=H2++xs::K) (c4:xs.length<=j) (c5:∀x∈xs,∃row l a,x=pg row a 1 (a+1) 1/\PegBy M row l a)
theorem A6(zT:TT P)
  {m:Nat}{cells:List Int}{draw:Int} (hm:H[m]?=some (cells.map .int)) (hl:cells.length<=63)
  (hQ:∀H' row l a,H<+:H'->PegBy (max 3 cells.length) row l a->Q (pg row a 1 (a+1) 1) H'):ag sub P (n+4) 48 [.lst m,.int draw] H Q X:=by
 refine ao zT.a48 rfl ?_
 dsimp only[rG,qS2,qS3,dp,qE1,qE5,qE9,aM,dN,fY,f9,aA,az,qO1,qI3,cg,aD,aB,ay,ax,aO,aC,aq,aX,aa,af,aH,Nat.reduceSub]
 refine AG zT hm hl fun H1 k row l hp1 hk hok=>?_
 have hrl:row.length<=63:=GP hok.len' (by exact oqz [max 3 cells.length,cells.length] [] [(.le Y1 63),(.or (.an (.le Y1 3) (.eq Y0 3)) (.an (.le 3 Y1) (.eq Y0 Y1)))] (.le Y0 63) [1001,1011] rfl hl (Mine.fJ (3) (cells.length)))
 refine uE (aK (by decide) (by decide)) (aK (by decide) (by decide)) ⟨by rw[GO,H9];decide,?_⟩
 refine e7 (g:=fun (i:Nat)=>V.int (aw (-9+(i:Int)) 1 row)) (fun i hi k' hk'=>?_) ?_
 ·show ag sub P (n+3) 41 [.lst k,.tup [.int (-9+(i:Int)),.int 1]] H1 (fun y H4=>k' (some y) H4) fun _ _=>False
  have hi':=List.mem_range'_1.mp hi
  refine oB zT (v:=.lst k) (K:=4) (L:=5) hk (by exact owk (by decide) hrl) hok.sm ?_ (by unfold Sm;decide) ?_ hk'
  ·have:i<19:=by have:=hi'.2;simpa using this
   unfold Sm;exact oqz [(-9+(↑i:Int)).natAbs,i] [] [(.le (Y1+1) 19),(ona (.a (.g 9) (.c Y1)) Y0)] (.le (Y0+1) 32) [1011] rfl this (bn (-9+(↑i:Int)))
  ·have:=HM (5+2) (IH hrl);exact oqz [row.length] [] [(.le Y0 63)] (.le (.a 5 (.r (Y0+1) 7)) 60000000) [71] rfl hrl
 rw[show ((10:Int) - -9).toNat=19 from rfl]
 refine iC (aK (by decide) (by decide)) ?_
 rw[show ((18:Int)).toNat=18 from rfl]
 generalize hH2:H1++[(List.range' 0 19).map fun (i:Nat)=>V.int (aw (-9+(i:Int)) 1 row)]=H2
 have hk2:H2[k]?=some (row.map .int):=by rw[<- hH2];exact av (aj _ _) hk
 have hv2:H2[H1.length]?=some ((List.range' 0 19).map fun (i:Nat)=>V.int (aw (-9+(i:Int)) 1 row)):=by rw[<- hH2];exact ai _ _ _
 have hp2:H<+:H2:=by rw[<- hH2];exact ah hp1 (aj _ _)
 have hval_get:∀t:Nat,t<19->((List.range' 0 19).map fun (i:Nat)=>V.int (aw (-9+(i:Int)) 1 row))[t]?=some (.int (aw (-9+(t:Int)) 1 row)):=fun t ht=>by
  rw[Hj,List.getElem?_range' ht];simp
 refine bo (PbI m k (max 3 cells.length) draw H1 H2) ?_ ?_ _ _ _ ⟨0,18,[],[],_,rfl,rfl,rfl,rfl,GU _,fun x hx=>nomatch hx⟩
 ·rintro x rest ρ H' k' ⟨j,t,xs,K,o,hjt,hx,rfl,rfl,hxl,hall⟩ hk'
  cases t with
  |zero=>cases hx
  |succ t =>
   rw[JT] at hx
   cases hx
   have hj:j<18:=oqz [j,t] [] [(.eq (Y0+(Y1+1)) 18)] (.le (Y0+1) 18) [11] rfl hjt
   dsimp only[vZ,qS1,qS2,qS6,bw,qE1,qE5,qE8,bx,lZ,aM,b6,aU,dN,aA,az,bX,cO,e6,kr,cu,dc,aa,bO,af,aH]
   have hvv:(H2++xs::K)[H1.length]?=_:=av (aj _ _) hv2
   refine ifSome.mk hvv (ifSome.mk (v:=j) ?_ (ifSome.mk (hval_get j (by exact oqz [j] [] [(.le (Y0+1) 18)] (.le (Y0+1) 19) [11] rfl hj)) ?_))
   ·rw[GO,H9];exact aG (by exact oqz [j] [] [(.le (Y0+1) 18)] (.le (Y0+1) 19) [11] rfl hj)
   refine ifSome.mk hvv (ifSome.mk (v:=j+1) ?_ (ifSome.mk (hval_get (j+1) (by exact oqz [j] [] [(.le (Y0+1) 18)] (.le (Y0+1+1) 19) [11] rfl hj)) ?_))
   ·rw[GO,H9];exact aG (n:=19) (k:=j+1) (by exact oqz [j] [] [(.le (Y0+1) 18)] (.le (Y0+1+1) 19) [11] rfl hj)
   have hsv:∀i:Int,-9<=i->i<=9->Sm (4+1+row.length*(5+2)) (aw i 1 row):=fun i h1 h2=>fS (l:=5) (by unfold Sm;exact oqz [i.natAbs] [i] [(.il (.g 9) Y0),(.il Y0 9),(ona Y0 Y0)] (.le (Y0+1) 32) [10101,10011] rfl h1 h2 (bn (i))) (by unfold Sm;decide) hok.sm
   have hsz:4+1+row.length*(5+2)<=67108864:=by have:=HM (5+2) hrl;exact oqz [row.length] [] [(.le Y0 63)] (.le (.a 5 (.r Y0 7)) 67108864) [71] rfl hrl
   refine ⟨IntMulOk.sm (hsv _ (by exact oqz [j] [] [] (.il (.g 9) (.a (.g 9) (.c Y0))) [1] rfl) (by exact oqz [j] [] [(.le (Y0+1) 18)] (.il (.a (.g 9) (.c Y0)) 9) [11] rfl hj)) (hsv _ (by exact oqz [j] [] [] (.il (.g 9) (.a (.g 9) (.c (Y0+1)))) [1] rfl) (by exact oqz [j] [] [(.le (Y0+1) 18)] (.il (.a (.g 9) (.c (Y0+1))) 9) [11] rfl hj)) hsz hsz,?_⟩
   have stay:∀K',k' [some (.lst m),some (.int draw),some (.lst k),some (.lst H1.length),some (.lst H2.length),some (.int (j:Int))] (H2++xs::(K++K')):=fun K' =>
    hk' _ _ ⟨j+1,t,xs,K++K',_,by exact oqz [j,t] [] [(.eq (Y0+(Y1+1)) 18)] (.eq (Y0+1+Y1) 18) [101,11] rfl hjt,rfl,rfl,rfl,by exact oqz [xs.length,j] [] [(.le Y0 Y1)] (.le Y0 (Y1+1)) [11] rfl hxl,hall⟩
   have stay0:=stay []
   rw[List.append_nil] at stay0
   dsimp only[fh,aN,aa]
   by_cases hneg:aw (-9+(j:Int)) 1 row*aw (-9+((j+1:Nat):Int)) 1 row<0
   ·rw[decide_eq_true hneg]
    dsimp only[aX]
    have e9:(j:Int)-9=-9+(j:Int):=oqz [j] [] [] (.ie (.s (.c Y0) 9) (.a (.g 9) (.c Y0))) [1] rfl
    have e8:(j:Int)-8=-9+((j+1:Nat):Int):=oqz [j] [] [] (.ie (.s (.c Y0) 8) (.a (.g 9) (.c (Y0+1)))) [1] rfl
    rw[e9,e8]
    have s1:Sm 5 (-9+(j:Int)):=by unfold Sm;exact oqz [(-9+(↑j:Int)).natAbs,j] [] [(.le (Y1+1) 18),(ona (.a (.g 9) (.c Y1)) Y0)] (.le (Y0+1) 32) [1011] rfl hj (bn (-9+(↑j:Int)))
    have s2:Sm 5 (-9+((j+1:Nat):Int)):=by unfold Sm;exact oqz [(-9+(↑(j+1):Int)).natAbs,j] [] [(.le (Y1+1) 18),(ona (.a (.g 9) (.c (Y1+1))) Y0)] (.le (Y0+1) 32) [1011] rfl hj (bn (-9+(↑(j+1):Int)))
    have o1:Sm 5 (1:Int):=by unfold Sm;decide
    refine qm zT (K:=4) (L:=10) (av (aj _ _) hk2) (by exact owk (by decide) hrl) hok.sm (s1.mul o1) (s2.mul o1) (o1.mul o1) (IntMulOk.sm s1 o1 (by decide) (by decide)) (IntMulOk.sm s2 o1 (by decide) (by decide)) (IntMulOk.sm o1 o1 (by decide) (by decide)) (by have:=HM (10+2) hrl;exact om [row.length] [] [(.le Y0 63)] (.le (.a 16 (.r Y0 12)) 60000000) [[1,12]] rfl hrl) fun H3 hp3=>?_
    obtain ⟨K',rfl⟩:=hp3
    have eK:H2++xs::K++K'=H2++xs::(K++K'):=by rw[G0];rfl
    rw[eK]
    dsimp only[dQ,aN,aa]
    by_cases htv:tv 0 (hs ((-9+(j:Int))*1) ((-9+((j+1:Nat):Int))*1) (1*1) row)=1
    ·rw[decide_eq_true htv]
     dsimp only[aX]
     refine ⟨⟨?_,Ii _⟩,?_⟩
     ·rw[<- hH2,GR];exact GP (List.IsPrefix.length_le hp1) (Io _ _)
     refine ifSome.mk (av (aj _ _) hk2) ?_
     refine ifSome.mk (ai _ _ _) ⟨by unfold lim;exact oqz [xs.length,j] [] [(.le Y0 Y1),(.le (Y1+1) 18)] (.le (Y0+1) 1000000) [111] rfl hxl hj,?_⟩
     rw[cy]
     refine hk' _ _ ⟨j+1,t,xs++[pg row (-9+(j:Int)) 1 (-9+((j+1:Nat):Int)) 1],K++K',_,by exact oqz [j,t] [] [(.eq (Y0+(Y1+1)) 18)] (.eq (Y0+1+Y1) 18) [101,11] rfl hjt,rfl,rfl,rfl,by rw[GR,G8];exact oqz [xs.length,j] [] [(.le Y0 Y1)] (.le (Y0+1) (Y1+1)) [11] rfl hxl,fun x hx=>?_⟩
     rcases Hy.mp hx with hx|hx
     ·exact hall x hx
     ·rw[He.mp hx]
      have e1:-9+((j+1:Nat):Int)=-9+(j:Int)+1:=oqz [j] [] [] (.ie (.a (.g 9) (.c (Y0+1))) (.a (.a (.g 9) (.c Y0)) 1)) [1] rfl
      rw[e1] at hneg htv ⊢
      exact ⟨row,l,_,rfl,hok,by exact oqz [j] [] [] (.il (.g 9) (.a (.g 9) (.c Y0))) [1] rfl,by exact oqz [j] [] [(.le (Y0+1) 18)] (.il (.a (.g 9) (.c Y0)) 8) [11] rfl hj,hneg,htv⟩
    ·rw[decide_eq_false htv]
     dsimp only[aR]
     exact stay K'
   ·rw[decide_eq_false hneg]
    dsimp only[aR]
    exact stay0
 ·rintro ρ H' ⟨j,t,xs,K,o,hjt,hx,rfl,rfl,hxl,hall⟩
  dsimp only[wI,qS1,qS2,qS9,bw,qE1,qE5,qE8,qE9,bx,b6,aU,dN,fY,aA,az,ub,FX,cJ,cu,aN,aR,aa,af]
  have hxs:(H2++xs::K)[H2.length]?=some xs:=ai _ _ _
  have hxs':(H2++xs::K++[[]])[H2.length]?=some xs:=av (aj _ _) hxs
  have hnil:(H2++xs::K++[[]])[(H2++xs::K).length]?=some []:=ai _ _ _
  have hp3:H<+:H2++xs::K++[[]]:=ah hp2 (ah (aj _ _) (aj _ _))
  cases xs with
  |nil =>
   refine .inl (mI (cs:=[]) (ds:=[]) hxs' hnil ?_)
   exact hQ _ [-2,0,1] 1 1 hp3 (EX (Nat.le_max_left _ _))
  |cons x xs =>
   refine .inr ⟨_,_,x,xs,rfl,rfl,hxs',hnil,?_⟩
   refine ifSome.mk hxs' ?_
   have hn0:(((x::xs).length:Nat):Int)≠0:=by rw[List.length_cons];exact oqz [xs.length] [] [] (.no (.ie (.c (Y0+1)) 0)) [1] rfl
   have hpos:(0:Int)<(((x::xs).length:Nat):Int):=by rw[List.length_cons];exact oqz [xs.length] [] [] (.il (0+1) (.c (Y0+1))) [1] rfl
   refine ⟨hn0,?_⟩
   have r1:=Im draw hpos
   have r2:=IJ draw hpos
   obtain ⟨i,hi⟩:=Int.eq_ofNat_of_zero_le r1
   have hi':i<(x::xs).length:=oqz [i,xs.length] [draw.fmod (↑(x::xs).length:Int)] [(.il (Y0+1) (.c (Y1+1))),(.ie Y0 (.c Y0))] (.le (Y0+1) (Y1+1)) [1011] rfl r2 hi
   refine ifSome.mk hxs' (ifSome.mk (v:=i) (by show cD _ (draw.fmod (((x::xs).length:Nat):Int))=_;rw[hi];exact aG hi') (ifSome.mk (v:=(x::xs)[i]) (G2 hi') ?_))
   obtain ⟨row',l',a',hx',hpb⟩:=hall _ (List.getElem_mem hi')
   rw[hx']
   exact hQ _ _ _ _ hp3 hpb
end
end Mine
set_option exponentiation.threshold 1000
namespace Mine
open PySem Re
theorem fw(p q:Int):∀xs:List Int,aw p q (bv xs)=aw (-p) q xs
 | []=>rfl
 | [x]=>by show 0*p+x*q^0=0*-p+x*q^0;rw[HO,HO]
 |x::y::r=>by
  show (aw p q (bv r)*p+-y*q^(bv r).length)*p+x*q^(bv r).length.succ=(aw (-p) q r*-p+y*q^r.length)*-p+x*q^r.length.succ
  rw[fw p q r,cY];grind
theorem DL{p1 q1 p2 q2 τ:Int}{row:List Int}:hs (-p2*q1) (-p1*q2) (q2*q1) (smul (-τ) (bv row))=smul (-1) (hs (p1*q2) (p2*q1) (q1*q2) (smul τ row)).reverse:=by
 refine lS (by rw[dT,aW,cY,aW,Hz,dT,aW]) fun t=>?_
 rw[j7,bE,fw,bE,pB,j7,bE]
 rw[show -(-p2*q1*1+-p1*q2*t)=p1*q2*t+p2*q1*1 by grind,show q2*q1*1+q2*q1*t=q1*q2*t+q1*q2*1 by grind]
 grind
theorem Ax{row:List Int}{p1 q1 p2 q2 σ:Int}(h1:0<q1)(h2:0<q2)(lt:p1*q2<p2*q1)(h:Aln row p1 q1 p2 q2)(hσ:σ=1\/σ=-1):Aln (smul σ (bv row)) (-p2) q2 (-p1) q1:=by
 obtain ⟨τ,hτ,U⟩:=x5 h1 h2 lt h
 have s0:σ≠0:=by rcases hσ with rfl|rfl <;> decide
 have lo:=U.lo
 have hi:=U.hi
 rw[bE] at lo hi
 have U':UP (smul (-τ) (bv row)) (-p2) q2 (-p1) q1:=⟨h2,h1,by rw[HC,HC];exact Int.neg_lt_neg lt,by rw[bE,fw,Int.neg_neg,HC];exact oqz [] [τ*aw p2 q2 row] [(.il (0+1) Y0)] (.il (.a (.g Y0) 1) 0) [11] rfl hi,by rw[bE,fw,Int.neg_neg,HC];exact oqz [] [τ*aw p1 q1 row] [(.il (Y0+1) 0)] (.il (0+1) (.g Y0)) [11] rfl lo,by rw[DL];exact U.up.rev⟩
 have ht:=U'.tv
 refine ⟨by rw[bE,fw,Int.neg_neg];exact HF s0 h.2.1,by rw[bE,fw,Int.neg_neg];exact HF s0 h.1,?_⟩
 rw[nG] at ht ⊢
 have e1:=gC s0 (hs (-p2*q1) (-p1*q2) (q2*q1) (bv row)) 0
 have e2:=gC (g:=-τ) (by rcases hτ with rfl|rfl <;> decide) (hs (-p2*q1) (-p1*q2) (q2*q1) (bv row)) 0
 rw[Hh] at e1 e2
 rw[e1,<- e2];exact ht
structure BP (row:List Int)(l:Int)(al:Re)(a:Int):Prop where
 len:2<=row.length
 last:row.getLast?=some l
 pos:0<l
 one:br row 0=1
 sm:AllSm 4 row
 pg:PG row 1 al ((a:Int):Re) ((a+1:Int):Re) a 1 (a+1) 1 0
 aln:Aln row a 1 (a+1) 1
 lo:-9<=a
 hi:a<=8
theorem sv:∀n:Nat,(1:Re)^n=1
 |0=>GT _
 |n+1=>by rw[GQ,sv n];grind
theorem oD{a:Int}{row:List Int}(h:row≠[]):((aw a 1 row:Int):Re)=evR row ((a:Int):Re):=by
 cases row with
 |nil=>exact absurd rfl h
 |cons c r =>
  rw[fv (p:=a) (q:=1) (t:=((a:Int):Re)) (by show (1:Re)*_=_;grind)]
  show (1:Re)^_*_=_
  rw[show (1:Re)^r.length=1 from sv _];grind
theorem ic1(a:Int):((1:Int):Re)*((a:Int):Re)=((a:Int):Re):=by show (1:Re)*_=_;grind
theorem PegBy.bp{m:Nat}{row:List Int}{l a:Int}(h:PegBy m row l a)(hm:m<=7):∃al,BP row l al a:=by
 have ne:row≠[]:=fun e=>by have:=h.ok.len;rw[e] at this;exact absurd this (by decide)
 have neg:=h.neg
 have v1:aw a 1 row≠0:=fun e=>by rw[e,HO] at neg;exact absurd neg (by decide)
 have v2:aw (a+1) 1 row≠0:=fun e=>by rw[e,Hh] at neg;exact absurd neg (by decide)
 have A:Aln row a 1 (a+1) 1:=⟨v1,v2,h.tv⟩
 have e1:=oD (a:=a) ne
 have e2:=oD (a:=a+1) ne
 have rt:∃al:Re,((a:Int):Re)<al/\al<((a+1:Int):Re)/\evR row al=0:=by
  rcases Jj v1 with k|k
  ·have k2:0<aw (a+1) 1 row:=IM.mp fun hle=>by have:=IP (Hn k) hle;exact oqz [] [aw a 1 row*aw (a+1) 1 row] [(.il (Y0+1) 0),(.il 0 Y0)] .ff [11] rfl neg this
   exact tD (by rw[<- e1];have:=io k;rwa [aE] at this) (by rw[<- e2];exact bD k2)
  ·have k2:aw (a+1) 1 row<0:=IM.mp fun hle=>by have:=Int.mul_nonneg (Hn k) hle;exact oqz [] [aw a 1 row*aw (a+1) 1 row] [(.il (Y0+1) 0),(.il 0 Y0)] .ff [11] rfl neg this
   have en:∀t:Re,evR (smul (-1) row) t=-evR row t:=fun t=>by rw[bG,show ((-1:Int):Re)=-1 from rfl];grind
   obtain ⟨al,g1,g2,g3⟩:=tD (row:=smul (-1) row) (k:=a) (by rw[en,<- e1];have:=bD k;grind) (by rw[en,<- e2];have:=io k2;rw[aE] at this;grind)
   exact ⟨al,g1,g2,by rw[en] at g3;grind⟩
 obtain ⟨al,g1,g2,g3⟩:=rt
 obtain ⟨σ,r⟩:=vL (p1:=a) (q1:=1) (p2:=a+1) (q2:=1) (by decide) (by decide) (ic1 a) (ic1 (a+1)) g1 g2 g3 A
 have hpt:∀x:Int,Pt (1*8^0) ((x:Int):Re) x 1:=fun x=>⟨by decide,by rw[Int.gcd_one],ic1 x,x,ic1 x⟩
 have b1:=aZ (show -(2^200)<=a from HY (by decide) h.lo)
 have b2:=aZ (show a+1<=2^200 from HY (Int.add_le_add_right h.hi 1) (by decide))
 rw[cP] at b1
 refine ⟨al,h.ok.len,h.ok.last,h.ok.pos,h.ok.one,h.ok.sm,⟨uj r,g1,g2,g3,ne,GP h.ok.len' (GP hm (by decide)),h.ok.sm.mono (by decide),by decide,by unfold Sm;decide,hpt _,hpt _,?_,b1,b2⟩,A,h.lo,h.hi⟩
 have k:=aZ (show (1:Int)<=2^450 by decide)
 rw[HH,ba]
 show (1:Re)*(((a:Int):Re)+1-((a:Int):Re))<=_
 rw[show (1:Re)*(((a:Int):Re)+1-((a:Int):Re))=1 by grind];exact k
section
variable {row:List Int}{l a:Int}{al:Re}
theorem BP.tgt(h:BP row l al a):Tgt 1 ((a:Int):Re) ((a+1:Int):Re) 0:=by
 have b1:=aZ (show -(2^31)<=a from HY (by decide) h.lo)
 have b2:=aZ (show a+1<=2^31 from HY (Int.add_le_add_right h.hi 1) (by decide))
 have k:=aZ (show (1:Int)<=2^7 by decide)
 rw[cP] at b1
 refine ⟨by unfold Sm;decide,?_,b1,b2⟩
 rw[HH,ba]
 show (1:Re)*(((a:Int):Re)+1-((a:Int):Re))<=_
 rw[show (1:Re)*(((a:Int):Re)+1-((a:Int):Re))=1 by grind];exact k
theorem tj{x:Int}(h1:-9<=x)(h2:x<=9):Low 5 x 1:=⟨by unfold Sm;exact oqz [x.natAbs] [x] [(.il (.g 9) Y0),(.il Y0 9),(ona Y0 Y0)] (.le (Y0+1) 32) [10101,10011] rfl h1 h2 (bn (x)),by unfold Sm;decide,by decide,by rw[Int.gcd_one]⟩
theorem BP.isopp(h:BP row l al a){σ:Int}(hσ:σ=1\/σ=-1)(hl:(smul σ (bv row)).getLast?=some l)(h1:br (smul σ (bv row)) 0=1):ud 4 5 (smul σ (bv row)) l (-(a+1)) 1 (-a) 1:=by
 have lo:=h.lo
 have hi:=h.hi
 have A:=Ax (q1:=1) (q2:=1) (by decide) (by decide) (by exact oqz [] [a] [] (.il (.a (.r Y0 1) 1) (.r (Y0+1) 1)) [1] rfl) h.aln hσ
 have s4:AllSm 4 (smul σ (bv row)):=fun x hx=>by
  obtain ⟨y,hy,rfl⟩:=Hq.mp hx
  have:=qL h.sm y hy
  rcases hσ with rfl|rfl
  ·rw[Hs];exact this
  ·rw[HC,Hs];exact this.neg
 exact ⟨by rw[aW,cY];exact h.len,by rw[aW,cY];exact GP h.pg.ln (by decide),hl,h.pos,h1,s4,tj (by exact oqz [] [a] [(.il Y0 8)] (.il (.g 9) (.g (Y0+1))) [11] rfl hi) (by exact oqz [] [a] [(.il (.g 9) Y0)] (.il (.g (Y0+1)) 9) [11] rfl lo),tj (by exact oqz [] [a] [(.il Y0 8)] (.il (.g 9) (.g Y0)) [11] rfl hi) (by exact oqz [] [a] [(.il (.g 9) Y0)] (.il (.g Y0) 9) [11] rfl lo),by exact oqz [] [a] [] (.il (.a (.r (.g (Y0+1)) 1) 1) (.r (.g Y0) 1)) [1] rfl,A.1,A.2.1,A.2.2⟩
theorem BP.bd(h:BP row l al a):ab al<=((9:Int):Re):=by
 have b1:=aZ h.lo
 have b2:=aZ (Int.add_le_add_right h.hi 1)
 have l:=h.pg.l
 have u:=h.pg.u
 have e9:((8+1:Int):Re)=((9:Int):Re):=rfl
 have en:((-9:Int):Re)=-((9:Int):Re):=rfl
 rw[e9] at b2
 rw[en] at b1
 rcases f7 al with e|e <;> rw[e]
 ·exact bM (uG u b2)
 ·have:=rJ b1 l;grind
theorem BP.ne0(h:BP row l al a):al≠0:=fun e=>by
 have l:=h.pg.l
 have u:=h.pg.u
 rw[e,<- aE] at l u
 have:=jt l
 have:=jt u
 omega
end
end Mine
namespace Mine
open PySem Re
noncomputable def bTk(ad op:Nat):PS:=(.seq (.ret (.call ad (.cons (.var 0) (.cons (.call op (.cons (.var 1) .nil)) .nil))))
 .skip)
noncomputable def EI(dv:Nat):PS:=(.seq (.ret (.call dv (.cons (.var 1) (.cons (.var 2) .nil))))
 .skip)
noncomputable def D6(ti dv:Nat):PS:=(.seq (.ite (.cmp .eq (.var 0) (.cint 2)) (.seq (.ret (.call ti (.cons (.var 1) (.cons (.var 2) .nil))))
 .skip) .skip)
 (EI dv))
noncomputable def Ev(tk ti dv:Nat):PS:=(.seq (.ite (.cmp .eq (.var 0) (.cint 1)) (.seq (.ret (.call tk (.cons (.var 1) (.cons (.var 2) .nil))))
 .skip) .skip)
 (D6 ti dv))
noncomputable def bTo(ad tk ti dv:Nat):PS:=(.seq (.ite (.cmp .eq (.var 0) (.cint 0)) (.seq (.ret (.call ad (.cons (.var 1) (.cons (.var 2) .nil))))
 .skip) .skip)
 (Ev tk ti dv))
end Mine
namespace Mine
noncomputable abbrev kk4:PE:=.cint 4
noncomputable abbrev kk5:PE:=.cint 5
noncomputable abbrev Gq:PE:=.cint 12
noncomputable abbrev F9:PE:=.cint 16
noncomputable abbrev Gv:PE:=.cint 36
namespace L12
open PySem
noncomputable def sX:PS:=(.seq (.ret (.cbool true))
 .skip)
noncomputable def ka:PS:=(.seq (.ite (.or (ss2 (.nt (.call 49 (ss2 (.idx vv9 kk0) (.idx C5 kk2)))) (.nt (.call 49 (ss2 (.idx C5 kk1) (.idx vv9 kk1)))))) (.seq (.ret (.cbool false))
 .skip) .skip)
 .skip)
noncomputable def nq:PS:=(.seq (.ite (.cmp .eq vv3 kk3) (.seq (.assign 9 (.call 52 (ss3 kk2 (.idx vv7 kk2) (.idx vv7 kk1))))
 (.seq (.assign 10 (.idx vv7 kk0))
 .skip)) (.seq (.assign 9 (.call 52 (ss3 vv3 (.idx vv7 kk0) (.idx vv7 kk1))))
 (.seq (.assign 10 (.idx vv7 kk2))
 .skip)))
 ka)
noncomputable def uA:PE:=(.call 50 (ss2 vv0 vv1))
noncomputable def ki:PS:=(.seq (.assign 7 (.comp uA 1 [8] (.seq vv7) .no))
 (.seq (.ite (.cmp .isin .cnone vv7) (.seq (.ret (.cbool false))
 .skip) .skip)
 nq))
noncomputable def iG:PS:=(.seq (.assign 7 (.lst (ss3 vv1 vv2 vv6)))
 (.seq (.forr 8 (.seq (.lst (ss3 (.tup (ss2 kk1 kk1)) (.tup (ss2 kk1 F9)) (.tup (ss2 kk1 qD))))) ki)
 sX))
noncomputable def gj:PS:=(.seq (.ite (.or (.cons (.nt (.call 46 (ss1 vv6))) (.cons (.cmp .gt (.bi .len (ss1 (.idx vv6 kk0))) (.bin .add kk1 (.bin .mul (.bin .sub (.bi .len (ss1 (.idx vv1 kk0))) kk1) (.bin .sub (.bi .len (ss1 (.idx vv2 kk0))) kk1)))) .nil))) (.seq (.ret (.cbool false))
 .skip) .skip)
 iG)
noncomputable def ib:PS:=(.seq (.assign 6 (.call 55 (ss3 vv3 vv1 vv2)))
 gj)
noncomputable def nu:PS:=(.seq (.ite (.or (ss2 (.cmp .ne (.call 23 (ss2 (.call 33 (ss1 vv5)) vv4)) kk0) (.nt (.call 56 (ss2 vv5 vv4))))) (.seq (.ret (.cbool false))
 .skip) .skip)
 .skip)
noncomputable def iQ:PS:=(.seq (.assign 5 (.call 33 (ss1 vv4)))
 (.seq (.ite (.or (ss2 (.nt (.call 46 (ss1 vv5))) (.cmp .ne (.bi .len (ss1 (.idx vv5 kk0))) (.bi .len (ss1 (.idx vv4 kk0)))))) (.seq (.ret (.cbool false))
 .skip) .skip)
 nu))
noncomputable def iH:PS:=(.seq (.forr 4 (.seq (.lst (ss2 vv1 vv2))) iQ)
 ib)
noncomputable def iU:PS:=(.seq (.ite (.and (.cons (.cmp .eq vv3 kk3) (ss3 (.cmp .eq (.idx (.idx vv2 kk0) kk0) kk0) (.cmp .lt (.idx (.idx vv2 kk1) kk0) kk0) (.cmp .gt (.idx (.idx vv2 kk2) kk0) kk0)))) (.seq (.assign 3 kk2)
 .skip) .skip)
 iH)
noncomputable def iX:PS:=(.seq (.assign 3 (.bin .mod (.call 37 (ss2 vv0 kk3)) kk4))
 (.seq (.ite (.and (ss2 (.cmp .eq (.bin .mod (.bin .fdiv (.call 37 (ss2 vv0 kk3)) kk4) kk8) kk1) (.cmp .lt (.bi .len (ss1 (.idx vv1 kk0))) kk5))) (.seq (.assign 2 vv1)
 .skip) .skip)
 iU))
noncomputable def ga:PS:=(.seq (.ite (.cmp .eq (.bin .mod (.bin .fdiv (.call 37 (ss2 vv0 kk0)) kk9) kk4) kk1) (.seq (.assign 1 (.call 48 (.cons (.slc vv0 (.some Gq) (.some (.bin .add F9 (.bin .mod (.bin .fdiv (.call 37 (ss2 vv0 kk0)) Gv) kk4)))) (ss1 (.call 37 (ss2 vv0 kk1))))))
 (.seq (.assign 2 (.call 48 (ss2 (.slc vv0 (.some kk8) (.some DZ)) (.call 37 (ss2 vv0 kk2)))))
 .skip)) .skip)
 iX)
noncomputable def f5:PS:=(.seq (.assign 2 (.call 48 (.cons (.slc vv0 (.some kk8) (.some (.bin .add DZ (.bin .mod (.bin .fdiv (.call 37 (ss2 vv0 kk0)) kk3) kk3)))) (ss1 (.call 37 (ss2 vv0 kk2))))))
 ga)
noncomputable def yM:PS:=(.seq (.assign 1 (.call 48 (ss2 (.slc vv0 (.some kk4) (.some (.bin .add kk6 (.bin .mod (.call 37 (ss2 vv0 kk0)) kk3)))) (.call 37 (ss2 vv0 kk1)))))
 f5)
noncomputable def fnNames:List Str:=[(Str.ofString "divisor"),(Str.ofString "part"),(Str.ofString "below"),(Str.ofString "part_sum"),(Str.ofString "part_product"),(Str.ofString "turned_about"),(Str.ofString "sign_at"),(Str.ofString "trimmed"),(Str.ofString "reduced"),(Str.ofString "slope"),(Str.ofString "without_last"),(Str.ofString "rest_of"),(Str.ofString "common"),(Str.ofString "quotient"),(Str.ofString "plain"),(Str.ofString "multiplied"),(Str.ofString "seen"),(Str.ofString "turns"),(Str.ofString "is_alone"),(Str.ofString "width_of"),(Str.ofString "narrowed"),(Str.ofString "halved"),(Str.ofString "is_same"),(Str.ofString "compare"),(Str.ofString "sign_of_peg"),(Str.ofString "power_sums"),(Str.ofString "signed"),(Str.ofString "row_of"),(Str.ofString "settled"),(Str.ofString "sum_bounds"),(Str.ofString "product_bounds"),(Str.ofString "added"),(Str.ofString "times"),(Str.ofString "opposite"),(Str.ofString "taken"),(Str.ofString "divided"),(Str.ofString "_law_whole"),(Str.ofString "_law_cell_at"),(Str.ofString "_law_divisor"),(Str.ofString "_law_part"),(Str.ofString "_law_smallest"),(Str.ofString "_law_value"),(Str.ofString "_law_by"),(Str.ofString "_law_seen"),(Str.ofString "_law_turns"),(Str.ofString "_law_is_part"),(Str.ofString "_law_is_peg"),(Str.ofString "_law_row_by"),(Str.ofString "_law_peg_by"),(Str.ofString "_law_below"),(Str.ofString "_law_narrow"),(Str.ofString "_law_span"),(Str.ofString "_law_stretch"),(Str.ofString "_law_plus"),(Str.ofString "_law_corners"),(Str.ofString "_law_told"),(Str.ofString "_law_meets"),(Str.ofString "law")]
noncomputable def clsNames:List Str:=["PegError","NoPart","NoRow","NoStretch","NoQuotient","ValueError"]
noncomputable def fnTab:List Fn:=[⟨2,3,lq⟩,⟨2,3,gW 0⟩,⟨2,2,eT⟩,⟨2,2,jO 1⟩,⟨2,2,rL 1⟩,⟨1,1,ul⟩,⟨2,5,v8⟩,⟨1,2,wy⟩,⟨1,3,vo 0 ngQ⟩,⟨1,1,qY⟩,⟨4,7,bWl⟩,⟨2,3,xO 7 10 8⟩,⟨2,3,j4 11 8⟩,⟨2,5,x7 10⟩,⟨1,2,qG 7 8 13 12 9⟩,⟨3,5,CI⟩,⟨3,9,wZ 15⟩,⟨3,6,qJ 16⟩,⟨3,3,rR 6 17⟩,⟨1,1,CX 3 5⟩,⟨2,8,oe 3 2 3 4 5 6⟩,⟨1,1,yy 20 4 19⟩,⟨2,5,wG 2 12 6⟩,⟨2,2,wM 22 2 21⟩,⟨1,4,bSp 6⟩,⟨2,7,Da 1 3 4⟩,⟨2,2,DE 5⟩,⟨1,10,bRo 0 3 4 26 14⟩,⟨4,6,Dk 18 21 29⟩,⟨2,2,xQ 3⟩,⟨2,8,bPB 2 4⟩,⟨2,11,D5 25 3 4 28 27 29⟩,⟨2,6,Er 25 4 28 27 30⟩,⟨1,3,DO 8 5⟩,⟨2,2,bTk 31 33⟩,⟨2,5,wX 4 24 21 8 7 1 32⟩,⟨1,1,xf⟩,⟨2,2,ym⟩,⟨2,3,Cu⟩,⟨2,3,vE 38⟩,⟨1,3,vo 38 ngL⟩,⟨2,5,CY⟩,⟨2,5,bBy⟩,⟨3,7,qC 42⟩,⟨3,6,mX 43⟩,⟨1,1,nP 36 39⟩,⟨1,4,rA 36 40 45 41 44⟩,⟨1,2,qB 40⟩,⟨2,6,rG 47 41 44⟩,⟨2,2,eT⟩,⟨2,3,bNw 20 45 49 41⟩,⟨1,4,yT 49⟩,⟨3,3,vP 53 51 54 39⟩,⟨2,2,jO 39⟩,⟨2,2,Es⟩,⟨3,3,bTo 31 34 32 35⟩,⟨2,5,bMt 50 49⟩,⟨1,11,yM⟩]
theorem zT0:TT fnTab:=⟨rfl,rfl,rfl,rfl,rfl,rfl,rfl,rfl,rfl,rfl,rfl,rfl,rfl,rfl,rfl,rfl,rfl,rfl,rfl,rfl,rfl,rfl,rfl,rfl,rfl,rfl,rfl,rfl,rfl,rfl,rfl,rfl,rfl,rfl,rfl,rfl,rfl,rfl,rfl,rfl,rfl,rfl,rfl,rfl,rfl,rfl,rfl,rfl,rfl,rfl,rfl,rfl,rfl,rfl,rfl⟩
noncomputable def varTab:List (List Str):=([["one","other","rest"],["top","bottom","many"],["one","other"],["one","other"],["one","other"],["one"],["row","at","value","scale","number"],["row","found"],["row","many","number"],["row"],["left","other","many","scale","found","ahead","k"],["one","other","left"],["one","other","rest"],["one","other","left","found","many"],["row","kept"],["row","first","second","found","k"],["row","low","high","begin","end","scale","found","power","number"],["row","low","high","many","ahead","number"],["row","low","high"],["one"],["one","width","row","low","high","middle","side","step"],["one"],["one","other","low","high","shared"],["one","other"],["one","row","low","high"],["row","many","last","found","power","total","k"],["one","k"],["sums","many","found","power","total","k","scale","one","row","told"],["row","bounds","one","other","low","high"],["one","other"],["one","other","corners","first","second","low","high","corner"],["one","other","many","left","right","sums","choices","power","total","k","both"],["one","other","many","left","right","sums"],["one","row","k"],["one","other"],["one","other","row","low","high"],["_law_found"],["_law_script","_law_k"],["_law_one","_law_other","_law_over"],["_law_top","_law_bottom","_law_by_here"],["_law_row","_law_by_here","_law_one"],["_law_row","_law_at","_law_total","_law_scale","_law_k"],["_law_row","_law_other","_law_found","_law_k","_law_j"],["_law_row","_law_low","_law_high","_law_found","_law_k","_law_made","_law_j"],["_law_row","_law_low","_law_high","_law_count","_law_last","_law_one"],["_law_found"],["_law_found","_law_row","_law_low","_law_high"],["_law_cells","_law_row"],["_law_cells","_law_draw","_law_row","_law_values","_law_found","_law_k"],["_law_one","_law_other"],["_law_one","_law_width","_law_found"],["_law_ends","_law_low","_law_high","_law_one"],["_law_way","_law_one","_law_two"],["_law_one","_law_other"],["_law_one","_law_two"],["_law_way","_law_one","_law_two"],["_law_turned_one","_law_each","_law_low","_law_high","_law_ends"],["_law_script","_law_one","_law_two","_law_way","_law_each","_law_turned_one","_law_found","_law_last","_law_width","_law_span_here","_law_ends"]]:List (List String)).map fun l=>l.map Str.ofString
end L12
end Mine
namespace Mine
namespace L12
open PySem Re
noncomputable def nosub:Nat->Nat->Bool:=fun _ _=>false
inductive Rl (w:Int) (a b g:Re):Prop
 |add (e:w=0) (h:g=a+b)
 |sub (e:w=1) (h:g=a+-b)
 |mul (e:w=2) (h:g=a*b)
 |div (e:w=3) (h:g*b=a)
theorem Co(x y:Re):ab (x+y)<=ab x+ab y:=by
 have h1:=cT x
 have h2:=cT y
 rcases f7 (x+y) with e|e <;> rw[e] <;> grind
theorem lN{x y:Re}(h1:ab x<=((9:Int):Re))(h2:ab y<=((9:Int):Re)):ab (x+y)<=(((2^50:Nat):Int):Re):=by
 have k:=aZ (show (9+9:Int)<=((2^50:Nat):Int) by decide)
 have t:=Co x y
 rw[ba] at k
 exact bU (bU t (by grind)) k
theorem js{x y:Re}{c d:Int}(h1:ab x<=(c:Re))(h2:ab y<=(d:Re))(h:c*d<=((2^50:Nat):Int)):ab (x*y)<=(((2^50:Nat):Int):Re):=by
 have k:=aZ h
 rw[au] at k
 rw[cQ]
 have a1:=aI x
 have a2:=aI y
 have k1:=ac a2 (cH h1)
 have k2:=ac (bU a1 h1) (cH h2)
 exact bU (by grind) k
theorem Dg{x y C:Re}(e:x*y=1)(h:1<=C*x)(hy:0<=y):y<=C:=by
 have:=ac hy (cH h)
 rw[show y*(C*x-1)=C*(x*y)-y by grind,e] at this
 grind
theorem sj{a b c d:Re}(h:a<b)(k:c<d):a+c<b+d:=by grind
theorem BE{a b:Re}(h:a<b):-b < -a:=by grind
theorem zW(x:Re):ab (-x)=ab x:=by
 rw[show -x=-1*x by grind,cQ]
 have:ab (-1:Re)=1:=by
  have h:=cT (-1:Re)
  have:=jQ
  rcases f7 (-1:Re) with e|e <;> grind
 rw[this];grind
section
variable {n:Nat}{H:Hp}{Q:V->Hp->Prop}{X:Nat->Hp->Prop}
theorem mw{A A0 B B0:List Int}{l m Na Nb p1 q1 p2 q2 r1 s1 r2 s2:Int}{a b lo1 hi1 lo2 hi2:Re}{b1 b2:Nat}(hA:RwB A A0 l b1)(hB:RwB B B0 m b2)(dA:PG A Na a lo1 hi1 p1 q1 p2 q2 0)(dB:PG B Nb b lo2 hi2 r1 s1 r2 s2 0)
  (hN:A0.length*B0.length<=12) (hb:(2*(b1+b2)+55)*(A0.length*B0.length)+3<=1000) (hg:ab (a*b)<=(((2^50:Nat):Int):Re))
  (hQ:∀R x1 y1 x2 y2 H',H<+:H'->PgG R (a*b) x1 y1 x2 y2->R.length<=A0.length*B0.length+1->Q (pg R x1 y1 x2 y2) H'):ag nosub fnTab (n+7) 32 [pg A p1 q1 p2 q2,pg B r1 s1 r2 s2] H Q X:=
 x3 zT0
 (.inr rfl) hA hB dA dB hN hb hg hQ
theorem mR{A A0 B B0:List Int}{l m Na Nb p1 q1 p2 q2 r1 s1 r2 s2:Int}{a b lo1 hi1 lo2 hi2:Re}{b1 b2:Nat}(hA:RwB A A0 l b1)(hB:RwB B B0 m b2)(dA:PG A Na a lo1 hi1 p1 q1 p2 q2 0)(dB:PG B Nb b lo2 hi2 r1 s1 r2 s2 0)
  (hN:A0.length*B0.length<=12) (hb:(2*(b1+b2)+55)*(A0.length*B0.length)+3<=1000) (hg:ab (a+b)<=(((2^50:Nat):Int):Re))
  (hQ:∀R x1 y1 x2 y2 H',H<+:H'->PgG R (a+b) x1 y1 x2 y2->R.length<=A0.length*B0.length+1->Q (pg R x1 y1 x2 y2) H'):ag nosub fnTab (n+7) 31 [pg A p1 q1 p2 q2,pg B r1 s1 r2 s2] H Q X:=
 xY zT0
 (.inl rfl) hA hB dA dB hN hb hg hQ
theorem nS{row:List Int}{l p1 q1 p2 q2:Int}(hl:row.getLast?=some l)(l0:0<l)(one:br row 0=1)(h13:row.length<=13)
  (hQ:∀σ H',H<+:H'->(σ=1\/σ=-1)->(smul σ (bv row)).getLast?=some l->br (smul σ (bv row)) 0=1->Q (pg (smul σ (bv row)) (-p2) q2 (-p1) q1) H'):ag nosub fnTab (n+3) 33 [pg row p1 q1 p2 q2] H Q X:=
 Ce zT0 hl l0 one h13 hQ
theorem nj{row:List Int}{D p1 q1 p2 q2 wq:Int}{al lo hi:Re}{t:Nat}(d:PZ row D al lo hi p1 q1 p2 q2 t)(ht:t<=10000)(w:WdO wq)
  (hQ:∀lo' hi' x1 y1 x2 y2,PZ row D al lo' hi' x1 y1 x2 y2 (t+700)->Q (pg row x1 y1 x2 y2) H):ag nosub fnTab (n+5) 50 [pg row p1 q1 p2 q2,pt 1 wq] H Q X:=
 Ga zT0 d ht w hQ
variable {row1 row2:List Int}{l1 l2 a1 a2:Int}{al be:Re}
theorem qR{N A B r s:Nat}(hN:(r-1)*(s-1)<=N)(h1:A+1=r)(h2:B+1<=s):A*B<=(r-1)*(s-1):=HP (by exact oqz [A,r-1,r] [] [(.eq (Y0+1) Y2),(.an (.le Y2 (Y1+1)) (.le Y1 Y2))] (.le Y0 Y1) [1011] rfl h1 (aV (r) (1))) (by exact oqz [B,s-1,s] [] [(.le (Y0+1) Y2),(.an (.le Y2 (Y1+1)) (.le Y1 Y2))] (.le Y0 Y1) [111] rfl h2 (aV (s) (1)))
theorem v5{w:Int}(h1:BP row1 l1 al a1)(h2:BP row2 l2 be a2)(hN:(row1.length-1)*(row2.length-1)<=12)(w0:0<=w)(w4:w<4)
  (hQ:∀R g x1 y1 x2 y2 H',H<+:H'->PgG R g x1 y1 x2 y2->R.length<=(row1.length-1)*(row2.length-1)+1->Rl w al be g->Q (pg R x1 y1 x2 y2) H'):ag nosub fnTab 9 55 [.int w,pg row1 a1 1 (a1+1) 1,pg row2 a2 1 (a2+1) 1] H Q X:=by
 obtain ⟨A0,hA,eA⟩:=RwB.of h1.last h1.pos h1.len h1.sm
 obtain ⟨B0,hB,eB⟩:=RwB.of h2.last h2.pos h2.len h2.sm
 have hle:=qR hN eA (HZ eB)
 have hbb:∀ {k:Nat},k<=12->(2*(4+4)+55)*k+3<=1000:=fun h=>by exact om [_] [] [(.le Y0 12)] (.le (.a (.m 71 Y0) 3) 1000) [[1,71]] rfl h
 refine ao (d:=⟨3,3,bTo 31 34 32 35⟩) rfl rfl ?_
 dsimp only[bTo]
 generalize hT:Ev 34 32 35=T
 dsimp only[qS1,qS2,qS9,bw,qE1,qE5,bx,aM,aA,az,dQ,aN,aD,aB,ay,ax,aC,aq,aa,af,Nat.reduceSub]
 by_cases e0:w=0
 ·rw[decide_eq_true e0]
  dsimp only[aX]
  exact mR (n:=1) hA hB h1.pg h2.pg (GP hle hN) (hbb (GP hle hN)) (lN h1.bd h2.bd) fun R x1 y1 x2 y2 H' hp o ho=>hQ _ _ _ _ _ _ _ hp o (GP ho (IH hle)) (.add e0 rfl)
 rw[decide_eq_false e0]
 subst hT
 dsimp only[Ev]
 generalize hT:D6 32 35=T
 dsimp only[qS1,qS2,qS9,bw,qE1,qE5,bx,aM,aA,az,dQ,aN,aR,aa,af]
 by_cases e1:w=1
 ·rw[decide_eq_true e1]
  dsimp only[aX]
  refine ao (d:=⟨2,2,bTk 31 33⟩) rfl rfl ?_
  dsimp only[bTk,qS1,qS2,qS9,qE5,aM,aA,az,aD,aB,ay,ax,aC,aq,aa,af,Nat.reduceSub]
  refine nS (n:=4) h2.last h2.pos h2.one h2.pg.ln fun σ H1 hp1 hσ hl ho=>?_
  have I:=h2.isopp hσ hl ho
  obtain ⟨C0,hC,eC⟩:=RwB.of I.last I.pos I.len I.sm
  rw[aW,cY] at eC
  have hle:=qR hN eA (HZ eC)
  exact mR (n:=0) hA hC h1.pg (h2.pg.opp hσ) (GP hle hN) (hbb (GP hle hN)) (lN h1.bd (by rw[zW];exact h2.bd)) fun R x1 y1 x2 y2 H' hp o ho=>hQ _ _ _ _ _ _ _ (ah hp1 hp) o (GP ho (IH hle)) (.sub e1 rfl)
 rw[decide_eq_false e1]
 subst hT
 dsimp only[D6]
 generalize hT:EI 35=T
 dsimp only[qS1,qS2,qS9,bw,qE1,qE5,bx,aM,aA,az,dQ,aN,aR,aa,af]
 by_cases e2:w=2
 ·rw[decide_eq_true e2]
  dsimp only[aX]
  exact mw (n:=1) hA hB h1.pg h2.pg (GP hle hN) (hbb (GP hle hN)) (js h1.bd h2.bd (by decide)) fun R x1 y1 x2 y2 H' hp o ho=>hQ _ _ _ _ _ _ _ hp o (GP ho (IH hle)) (.mul e2 rfl)
 rw[decide_eq_false e2]
 have e3:w=3:=oqz [] [w] [(.il 0 Y0),(.il (Y0+1) 4),(.no (.ie Y0 0)),(.no (.ie Y0 1)),(.no (.ie Y0 2))] (.ie Y0 3) [1010,11000,110000,100001,101] rfl w0 w4 e0 e1 e2
 subst hT
 dsimp only[EI,qS1,qS2,qS9,qE5,aM,aA,az,aR,aa,af]
 have tB:∃x∈row2,x≠0:=⟨l2,Hd h2.last,GY h2.pos⟩
 obtain ⟨β,hβ⟩:=wm h2.ne0 tB h2.pg.rt
 have nz:=tZ (q8 h2.ne0 tB h2.sm h2.pg.rt) (aI _) (HM (2^4) h2.pg.ln)
 have bβ:ab β<=((208:Int):Re):=by
  have e:ab be*ab β=1:=by
   rw[<- cQ,hβ]
   rcases f7 (1:Re) with e|e
   ·exact e
   ·have:=aI (1:Re);have:=jQ;grind
  exact Dg e nz (aI β)
 refine Dl zT0 (n:=0) (b:=4) tB h2.sm (by decide) h2.pg h2.tgt hβ fun zs lz lo' hi' u1 v1 u2 v2 N' H1 hp1 hz z0 hlen hm dz=>?_
 have hmem:=Hd hz
 obtain ⟨C0,hC,eC⟩:=RwB.of (bT hz) (cL hmem z0) (u9 (bT hz) (cL hmem z0) dz.rt) (fV hmem z0 (fun x hx=>h2.sm x (hm x hx)))
 rw[cV] at eC
 have hle:=qR hN eA (by rw[eC];exact hlen)
 exact mw (n:=0) hA hC h1.pg dz (GP hle hN) (hbb (GP hle hN)) (js h1.bd bβ (by decide)) fun R x1 y1 x2 y2 H' hp o ho=>hQ _ _ _ _ _ _ _ (ah hp1 hp) o (GP ho (IH hle)) (.div e3 (by rw[show al*β*be=al*(be*β) by grind,hβ];grind))
variable {W:Nat->Prop}{NN:Loc->Hp->Prop}{R:V->Hp->Prop}{Y:Nat->Hp->Prop}{o0 o1 o2 o4 o5 o6 o7 o8 o9 o10:Option V}{Rw:List Int}{D1 D2 D3:Int}{g:Re}{t:Nat}{w wq:Int}
inductive Tri (row1 row2 Rw:List Int) (D1 D2 D3:Int) (al be g:Re) (t:Nat) (vs:List V):Prop
 |mk (lo1 hi1 lo2 hi2 lo3 hi3:Re) (p1 q1 p2 q2 r1 s1 r2 s2 x1 y1 x2 y2:Int) (d1:PZ row1 D1 al lo1 hi1 p1 q1 p2 q2 t) (d2:PZ row2 D2 be lo2 hi2 r1 s1 r2 s2 t) (d3:PZ Rw D3 g lo3 hi3 x1 y1 x2 y2 t) (e:vs=[pg row1 p1 q1 p2 q2,pg row2 r1 s1 r2 s2,pg Rw x1 y1 x2 y2])
theorem si{row:List Int}{D x1 y1 x2 y2 p q r s:Int}{z lo hi lo' hi':Re}(d:PZ row D z lo' hi' x1 y1 x2 y2 t)(ht:t<=20000)(k1:PK 6000001 lo p q)(k2:PK 6000001 hi r s)(h1:lo<z)(h2:z<hi){ρ:Loc}(e9:af ρ 9=some (.tup [pt p q,pt r s]))(e10:af ρ 10=some (pg row x1 y1 x2 y2))(hN:NN ρ H) :
  wpS nosub (ag nosub fnTab 9) W ka ρ H NN R Y:=by
 dsimp only[ka,qS1,qS2,qS9,bw,qE1,qE2,qE5,jh,iP,aM,aU,aA,az,bX]
 rw[e9,e10]
 dsimp only[bu,bS,bJ,bI,aa]
 refine kJ (be:=49) rfl k1 (d.k2 ht) (by decide) (by decide) (fun _=>?_) fun h=>absurd (fj h1 d.u) h
 dsimp only[aN,gf,aR,du,aa]
 refine kJ (be:=49) rfl (d.k1 ht) k2 (by decide) (by decide) (fun _=>?_) fun h=>absurd (fj d.l h2) h
 exact hN
theorem oh(wo:WdO wq)(ht:t<=9000)(w0:0<=w)(w4:w<4)(rl:Rl w al be g){k:Nat}{vs:List V}(hk:H[k]?=some vs)(T:Tri row1 row2 Rw D1 D2 D3 al be g t vs)
  (hN:∀H' k' vs' o9 o10,H<+:H'->H'[k']?=some vs'->Tri row1 row2 Rw D1 D2 D3 al be g (t+700) vs'->NN [o0,o1,o2,some (.int w),o4,o5,o6,some (.lst k'),some (pt 1 wq),o9,o10] H') :
  wpS nosub (ag nosub fnTab 9) W ki [o0,o1,o2,some (.int w),o4,o5,o6,some (.lst k),some (pt 1 wq),o9,o10] H NN R Y:=by
 obtain ⟨lo1,hi1,lo2,hi2,lo3,hi3,p1,q1,p2,q2,r1,s1,r2,s2,x1,y1,x2,y2,d1,d2,d3,rfl⟩:=T
 have ht':t<=10000:=GP ht (by decide)
 have ht2:t+700<=20000:=oqz [t] [] [(.le Y0 9000)] (.le (Y0+700) 20000) [11] rfl ht
 dsimp only[ki,uA]
 generalize hT:nq=T
 dsimp only[qS1,qS2,qS3,qS9,bw,qE2,qE4,qE5,bx,aM,f9,aA,az,qO1,qI1,dc,aa,af,aH]
 refine ifSome.mk hk ⟨show 3<=lim by unfold lim;decide,?_⟩
 dsimp only[tX,x4,cg,aX,ay,ax,aa,af]
 refine ifSome.mk (v:=pt 1 wq) rfl ?_
 refine nj (n:=4) d1 ht' wo fun lo1 hi1 p1 q1 p2 q2 d1=>?_
 refine ifSome.mk (v:=pt 1 wq) rfl ?_
 refine nj (n:=4) d2 ht' wo fun lo2 hi2 r1 s1 r2 s2 d2=>?_
 refine ifSome.mk (v:=pt 1 wq) rfl ?_
 refine nj (n:=4) d3 ht' wo fun lo3 hi3 x1 y1 x2 y2 d3=>?_
 dsimp only[ER]
 refine ifSome.mk (ai _ _ _) ⟨fun z hz=>?_,?_⟩
 ·simp only[Hf,List.not_mem_nil,or_false] at hz
  rcases hz with rfl|rfl|rfl
  ·exact ⟨_,rfl⟩
  ·exact ⟨_,rfl⟩
  ·exact ⟨_,rfl⟩
 have fin:∀H' o9 o10,H++[[pg row1 p1 q1 p2 q2,pg row2 r1 s1 r2 s2,pg Rw x1 y1 x2 y2]]<+:H'->NN [o0,o1,o2,some (.int w),o4,o5,o6,some (.lst H.length),some (pt 1 wq),o9,o10] H':=fun H' o9 o10 hp =>
  hN _ _ _ _ _ (ah (aj _ _) hp) (av hp (ai _ _ _)) ⟨lo1,hi1,lo2,hi2,lo3,hi3,p1,q1,p2,q2,r1,s1,r2,s2,x1,y1,x2,y2,d1,d2,d3,rfl⟩
 have i0:∀ {k:Nat}{x:V}{Z:V->Hp->Prop}{H':Hp},H++[[pg row1 p1 q1 p2 q2,pg row2 r1 s1 r2 s2,pg Rw x1 y1 x2 y2]]<+:H'->([pg row1 p1 q1 p2 q2,pg row2 r1 s1 r2 s2,pg Rw x1 y1 x2 y2])[k]?=some x->Z x H'->dX (.lst H.length) (.int (k:Int)) H' Z:=fun hp hx hz=>ix3 (av hp (ai _ _ _)) (aG (GX.mp hx).1) hx hz
 generalize H++[[pg row1 p1 q1 p2 q2,pg row2 r1 s1 r2 s2,pg Rw x1 y1 x2 y2]]=H1 at *
 have pr:=JB H1
 subst hT
 dsimp only[nq]
 generalize hT:ka=T
 dsimp only[qS1,qS2,qS3,bw,qE1,qE5,bx,aM,aU,aA,az,dQ,aN,aR,aa,af,aH]
 subst hT
 have A1:=d1.k1 ht2;have A2:=d1.k2 ht2;have B1:=d2.k1 ht2;have B2:=d2.k2 ht2;have C1:=d3.k1 ht2;have C2:=d3.k2 ht2
 by_cases e3:w=3
 ·rw[decide_eq_true e3]
  dsimp only[aX]
  refine i0 (k:=2) pr rfl (i0 (k:=1) pr rfl ?_)
  refine yH zT0 (n:=5) (by decide) (by decide) C1 C2 B1 B2 fun lo hi p q r s H2 hp2 K1 K2 hc=>?_
  refine i0 (k:=0) hp2 rfl ?_
  have e:g*be=al:=by
   rcases rl with ⟨e,_⟩ | ⟨e,_⟩ | ⟨e,_⟩ | ⟨_,h⟩
   ·omega
   ·omega
   ·omega
   ·exact h
  have c1:=hc _ (.inl rfl);have c2:=hc _ (.inr (.inl rfl));have c3:=hc _ (.inr (.inr (.inl rfl)));have c4:=hc _ (.inr (.inr (.inr rfl)))
  refine si d1 ht2 K1 K2 ?_ ?_ rfl rfl (fin _ _ _ hp2)
  ·rw[<- e];exact gw d3.l d3.u d2.l d2.u c1.1 c2.1 c3.1 c4.1
  ·rw[<- e];exact jc d3.l d3.u d2.l d2.u c1.2 c2.2 c3.2 c4.2
 ·rw[decide_eq_false e3]
  dsimp only[aR]
  refine i0 (k:=0) pr rfl (i0 (k:=1) pr rfl ?_)
  rcases rl with ⟨rfl,h⟩ | ⟨rfl,h⟩ | ⟨rfl,h⟩ | ⟨e,_⟩
  ·refine Cx zT0 (n:=5) A1 A2 B1 B2 fun p q r s K1 K2=>?_
   refine i0 (k:=2) pr rfl ?_
   exact si d3 ht2 K1 K2 (by rw[h];exact sj d1.l d2.l) (by rw[h];exact sj d1.u d2.u) rfl rfl (fin _ _ _ pr)
  ·refine EC zT0 (n:=5) A1 A2 B1 B2 fun p q r s K1 K2=>?_
   refine i0 (k:=2) pr rfl ?_
   exact si d3 ht2 K1 K2 (by rw[h];exact sj d1.l (BE d2.u)) (by rw[h];exact sj d1.u (BE d2.l)) rfl rfl (fin _ _ _ pr)
  ·refine yH zT0 (n:=5) (by decide) (by decide) A1 A2 B1 B2 fun lo hi p q r s H2 hp2 K1 K2 hc=>?_
   refine i0 (k:=2) hp2 rfl ?_
   have c1:=hc _ (.inl rfl);have c2:=hc _ (.inr (.inl rfl));have c3:=hc _ (.inr (.inr (.inl rfl)));have c4:=hc _ (.inr (.inr (.inr rfl)))
   refine si d3 ht2 K1 K2 ?_ ?_ rfl rfl (fin _ _ _ hp2)
   ·rw[h];exact gw d1.l d1.u d2.l d2.u c1.1 c2.1 c3.1 c4.1
   ·rw[h];exact jc d1.l d1.u d2.l d2.u c1.2 c2.2 c3.2 c4.2
  ·exact absurd e e3
theorem st4(w0:0<=w)(w4:w<4)(rl:Rl w al be g){one two found:V}(T:Tri row1 row2 Rw D1 D2 D3 al be g 0 [one,two,found])(hR:∀H',R (.bool true) H') :
  wpS nosub (ag nosub fnTab 9) W iG [o0,some one,some two,some (.int w),o4,o5,some found,o7,o8,o9,o10] H NN R Y:=by
 dsimp only[iG]
 generalize hB:ki=B
 dsimp only[sX,qS1,qS2,qS3,qS9,dp,qE1,qE2,qE5,dN,fY,aA,az,qI1,dc,jx,aa,af,aH]
 subst hB
 refine ifSome.mk (ai _ _ _) ?_
 dsimp only[cU,aH]
 have hk:(H++[[one,two,found]]++[[pt 1 1,pt 1 16,pt 1 4096]])[H.length]?=some [one,two,found]:=av (aj _ _) (ai _ _ _)
 refine oh WdO.one (by decide) w0 w4 rl hk T fun H1 k1 vs1 o9 o10 hp1 hk1 T1=>?_
 refine oh WdO.two (by decide) w0 w4 rl hk1 T1 fun H2 k2 vs2 o9 o10 hp2 hk2 T2=>?_
 refine oh WdO.three (by decide) w0 w4 rl hk2 T2 fun H3 k3 vs3 o9 o10 hp3 hk3 T3=>?_
 exact hR _
theorem pO{row:List Int}{l p1 q1 p2 q2:Int}{k m:Nat}(hk:k<=200000)(hm:m<=2000000)(h13:row.length<=13)(I:ud k m row l p1 q1 p2 q2)(hQ:∀H',H<+:H'->Q (.bool true) H'):ag nosub fnTab (n+4) 46 [pg row p1 q1 p2 q2] H Q X:=
 zu zT0 hk hm h13 I hQ
theorem Gm{g:Re}{x1 y1 x2 y2:Int}(h1:BP row1 l1 al a1)(h2:BP row2 l2 be a2)(hN:(row1.length-1)*(row2.length-1)<=12)(w0:0<=w)(w4:w<4)(o:PgG Rw g x1 y1 x2 y2)(ho:Rw.length<=(row1.length-1)*(row2.length-1)+1)(rl:Rl w al be g)(hR:∀H',R (.bool true) H') :
  wpS nosub (ag nosub fnTab 9) W gj [o0,some (pg row1 a1 1 (a1+1) 1),some (pg row2 a2 1 (a2+1) 1),some (.int w),o4,o5,some (pg Rw x1 y1 x2 y2),o7,o8,o9,o10] H NN R Y:=by
 have h13:Rw.length<=13:=GP ho (IH hN)
 obtain ⟨l,I⟩:=o.peg h13
 obtain ⟨lo,hi,d3⟩:=o.toZ h13
 have key:∀H',wpS nosub (ag nosub fnTab 9) W iG [o0,some (pg row1 a1 1 (a1+1) 1),some (pg row2 a2 1 (a2+1) 1),some (.int w),o4,o5,some (pg Rw x1 y1 x2 y2),o7,o8,o9,o10] H' NN R Y:=fun H'=>st4 w0 w4 rl ⟨_,_,_,_,lo,hi,_,_,_,_,_,_,_,_,_,_,_,_,h1.pg.toZ,h2.pg.toZ,d3,rfl⟩ hR
 dsimp only[gj]
 revert key
 generalize iG=T
 intro key
 dsimp only[qS1,qS2,qS9,bw,qE2,qE5,jh,iP,aM,aA,az,bX,aa,af]
 refine pO (n:=5) (by decide) (by decide) h13 I fun H2 hp2=>?_
 dsimp only[qE1,qE5,qE8,bx,b6,aU,aA,az,aN,gf,aR,du,cE,eF,e6,cO,dm,vv,aa,af]
 have e1:=h1.len
 have e2:=h2.len
 have c1:(((row1.map V.int).length:Nat):Int)-1=((row1.length-1:Nat):Int):=by rw[GO];exact oqz [row1.length,row1.length-1] [] [(.le 2 Y0),(osb Y0 1 Y1)] (.ie (.s (.c Y0) 1) (.c Y1)) [10001,1011,1001,101] rfl e1 (am (row1.length) (1))
 have c2:(((row2.map V.int).length:Nat):Int)-1=((row2.length-1:Nat):Int):=by rw[GO];exact oqz [row2.length,row2.length-1] [] [(.le 2 Y0),(osb Y0 1 Y1)] (.ie (.s (.c Y0) 1) (.c Y1)) [10001,1011,1001,101] rfl e2 (am (row2.length) (1))
 rw[c1,c2]
 refine ⟨IntMulOk.sm (k:=64) (l:=64) (by have:=h1.pg.ln;unfold Sm;exact oqz [(↑(row1.length-1):Int).natAbs,row1.length-1,row1.length] [] [(.le Y2 13),(.an (.le Y2 (Y1+1)) (.le Y1 Y2)),(ona (.c Y1) Y0)] (.le (Y0+1) 18446744073709551616) [101011] rfl this (aV (row1.length) (1)) (bn ((↑(row1.length-1):Int)))) (by have:=h2.pg.ln;unfold Sm;exact oqz [(↑(row2.length-1):Int).natAbs,row2.length-1,row2.length] [] [(.le Y2 13),(.an (.le Y2 (Y1+1)) (.le Y1 Y2)),(ona (.c Y1) Y0)] (.le (Y0+1) 18446744073709551616) [101011] rfl this (aV (row2.length) (1)) (bn ((↑(row2.length-1):Int)))) (by decide) (by decide),?_⟩
 rw[decide_eq_false (by rw[<- HQ,GO];exact oqz [(row1.length-1)*(row2.length-1),Rw.length] [] [(.le Y1 (Y0+1))] (.no (.il (.a (.a 1 (.c Y0)) 1) (.c Y1))) [11] rfl ho)]
 exact key _
theorem st5(h1:BP row1 l1 al a1)(h2:BP row2 l2 be a2)(hN:(row1.length-1)*(row2.length-1)<=12)(w0:0<=w)(w4:w<4)(hR:∀H',R (.bool true) H') :
  wpS nosub (ag nosub fnTab 9) W ib [o0,some (pg row1 a1 1 (a1+1) 1),some (pg row2 a2 1 (a2+1) 1),some (.int w),o4,o5,o6,o7,o8,o9,o10] H NN R Y:=by
 have key:∀ {Rw:List Int}{g:Re}{p1 q1 p2 q2:Int}{H':Hp},PgG Rw g p1 q1 p2 q2->Rw.length<=(row1.length-1)*(row2.length-1)+1->Rl w al be g->wpS nosub (ag nosub fnTab 9) W gj [o0,some (pg row1 a1 1 (a1+1) 1),some (pg row2 a2 1 (a2+1) 1),some (.int w),o4,o5,some (pg Rw p1 q1 p2 q2),o7,o8,o9,o10] H' NN R Y:=fun o ho rl=>Gm h1 h2 hN w0 w4 o ho rl hR
 dsimp only[ib]
 revert key
 generalize gj=T
 intro key
 dsimp only[qS2,qS3,qE5,aM,aA,az,aa,af,aH]
 exact v5 h1 h2 hN w0 w4 fun Rr g x1 y1 x2 y2 H1 hp o ho rl=>key o ho rl
theorem GE{row:List Int}{l a:Int}{al:Re}{o3:Option V}(h:BP row l al a)(hN:∀H' o5,H<+:H'->NN [o0,o1,o2,o3,some (pg row a 1 (a+1) 1),o5,o6,o7,o8,o9,o10] H') :
  wpS nosub (ag nosub fnTab 9) W iQ [o0,o1,o2,o3,some (pg row a 1 (a+1) 1),o5,o6,o7,o8,o9,o10] H NN R Y:=by
 dsimp only[iQ]
 generalize hT:nu=T
 dsimp only[qS1,qS2,qS3,qS9,bw,qE2,qE5,jh,bx,iP,aM,b6,aU,qE1,aA,az,bX,aa,af,aH]
 refine nS (n:=6) h.last h.pos h.one h.pg.ln fun σ H1 hp1 hσ hl ho=>?_
 have h13:(smul σ (bv row)).length<=13:=by rw[aW,cY];exact h.pg.ln
 refine pO (n:=5) (by decide) (by decide) h13 (h.isopp hσ hl ho) fun H2 hp2=>?_
 dsimp only[aN,gf,aR,du,cE,eF,jR,aa]
 rw[GO,GO,aW,cY,decide_eq_true rfl]
 subst hT
 dsimp only[nu,qS1,qS2,qS9,bw,qE1,qE2,qE5,jh,bx,iP,aM,aA,az,bX,gf,aR,aa,af]
 refine nS (n:=6) hl h.pos ho h13 fun τ H3 hp3 hτ hl' ho'=>?_
 rw[y9 h.last h.pos hσ hτ hl',Int.neg_neg,Int.neg_neg]
 refine qE zT0 (n:=3) h.pg.toZ h.last h.pos h.one fun H4 hp4=>?_
 dsimp only[jR,aN,aa]
 rw[decide_eq_true rfl]
 dsimp only[gf,aR,du]
 refine GM zT0 (n:=3) (fun d ht w hQ=>nj (n:=3) d ht w hQ) h.pg.toZ (h.pg.opp hσ).toZ fun H5 hp5=>?_
 exact hN _ _ (ah hp1 (ah hp2 (ah hp3 (ah hp4 hp5))))
theorem st7(h1:BP row1 l1 al a1)(h2:BP row2 l2 be a2)(hN:(row1.length-1)*(row2.length-1)<=12)(w0:0<=w)(w4:w<4)(hR:∀H',R (.bool true) H') :
  wpS nosub (ag nosub fnTab 9) W iH [o0,some (pg row1 a1 1 (a1+1) 1),some (pg row2 a2 1 (a2+1) 1),some (.int w),o4,o5,o6,o7,o8,o9,o10] H NN R Y:=by
 have key:∀o4 o5 H',wpS nosub (ag nosub fnTab 9) W ib [o0,some (pg row1 a1 1 (a1+1) 1),some (pg row2 a2 1 (a2+1) 1),some (.int w),o4,o5,o6,o7,o8,o9,o10] H' NN R Y:=fun _ _ _=>st5 h1 h2 hN w0 w4 hR
 have kE:∀ {row:List Int}{l a:Int}{al:Re}{o5:Option V}{H:Hp}{W:Nat->Prop}{NN:Loc->Hp->Prop}{Y:Nat->Hp->Prop},BP row l al a->(∀H' o5,H<+:H'->NN [o0,some (pg row1 a1 1 (a1+1) 1),some (pg row2 a2 1 (a2+1) 1),some (.int w),some (pg row a 1 (a+1) 1),o5,o6,o7,o8,o9,o10] H') ->
   wpS nosub (ag nosub fnTab 9) W iQ [o0,some (pg row1 a1 1 (a1+1) 1),some (pg row2 a2 1 (a2+1) 1),some (.int w),some (pg row a 1 (a+1) 1),o5,o6,o7,o8,o9,o10] H NN R Y:=fun h hN=>GE h hN
 dsimp only[iH]
 revert key kE
 generalize ib=T
 generalize iQ=B
 intro key kE
 dsimp only[qS2,dp,qE5,fY,aA,az,qI1,dc,jx,aa,af]
 refine ifSome.mk (ai _ _ _) ?_
 dsimp only[cU,aH]
 refine kE h1 fun H1 o5 hp1=>?_
 refine kE h2 fun H2 o5 hp2=>?_
 exact key _ _ _
theorem st8(h1:BP row1 l1 al a1)(h2:BP row2 l2 be a2)(hN:(row1.length-1)*(row2.length-1)<=12)(w0:0<=w)(w4:w<4)(hR:∀H',R (.bool true) H') :
  wpS nosub (ag nosub fnTab 9) W iU [o0,some (pg row1 a1 1 (a1+1) 1),some (pg row2 a2 1 (a2+1) 1),some (.int w),o4,o5,o6,o7,o8,o9,o10] H NN R Y:=by
 have key:wpS nosub (ag nosub fnTab 9) W iH [o0,some (pg row1 a1 1 (a1+1) 1),some (pg row2 a2 1 (a2+1) 1),some (.int w),o4,o5,o6,o7,o8,o9,o10] H NN R Y:=st7 h1 h2 hN w0 w4 hR
 dsimp only[iU]
 revert key
 generalize iH=T
 intro key
 obtain ⟨c,r,rfl⟩:∃c r,row2=c::r:=by
  have:=h2.len
  cases row2 with
  |nil=>exact absurd this (by decide)
  |cons c r=>exact ⟨c,r,rfl⟩
 dsimp only[qS1,qS2,qS3,bw,qE1,qE5,bx,lZ,aU,bX,dQ,aN,aa,af,aH]
 by_cases e3:w=3
 ·rw[decide_eq_true e3]
  dsimp only[aX,cE]
  have i0:∀Z:V->Hp->Prop,Z (.int c) H->dX (.tup ((c::r).map .int)) (.int 0) H Z:=fun Z hz=>ix3 (v:=.int c) rfl (aG (k:=0) (Ja _)) rfl hz
  refine i0 _ ?_
  dsimp only[dQ,aN,aa]
  by_cases c0:c=0
  ·rw[decide_eq_true c0]
   dsimp only[aX,bJ,bI,bu,fh,vv,aN,aa]
   by_cases n0:a2<0
   ·rw[decide_eq_true n0,decide_eq_false (show ¬ 0<a2+1 by exact oqz [] [a2] [(.il (Y0+1) 0)] (.no (.il (0+1) (Y0+1))) [11] rfl n0)]
    exact key
   ·rw[decide_eq_false n0]
    exact key
  ·rw[decide_eq_false c0]
   exact key
 ·rw[decide_eq_false e3]
  exact key
theorem st9{ns:List Int}(hH:H[0]?=some (ns.map .int))(h1:BP row1 l1 al a1)(h2:BP row2 l2 be a2)(hl:(row1.length<=4/\row2.length<=4)\/(row1.length<=7/\row2.length<=3))(hR:∀H',R (.bool true) H'){o3:Option V} :
  wpS nosub (ag nosub fnTab 9) W iX [some (.lst 0),some (pg row1 a1 1 (a1+1) 1),some (pg row2 a2 1 (a2+1) 1),o3,o4,o5,o6,o7,o8,o9,o10] H NN R Y:=by
 have hN:(row1.length-1)*(row2.length-1)<=12:=by
  rcases hl with ⟨k1,k2⟩ | ⟨k1,k2⟩
  ·exact GP (HP (show row1.length-1<=3 by exact oqz [row1.length-1,row1.length] [] [(.le Y1 4),(osb Y1 1 Y0)] (.le Y0 3) [10011,1001] rfl k1 (am (row1.length) (1))) (show row2.length-1<=3 by exact oqz [row2.length-1,row2.length] [] [(.le Y1 4),(osb Y1 1 Y0)] (.le Y0 3) [10011,1001] rfl k2 (am (row2.length) (1)))) (by decide)
  ·exact GP (HP (show row1.length-1<=6 by exact oqz [row1.length-1,row1.length] [] [(.le Y1 7),(osb Y1 1 Y0)] (.le Y0 6) [10011,1001] rfl k1 (am (row1.length) (1))) (show row2.length-1<=2 by exact oqz [row2.length-1,row2.length] [] [(.le Y1 3),(osb Y1 1 Y0)] (.le Y0 2) [10011,1001] rfl k2 (am (row2.length) (1)))) (by decide)
 have key:∀ {row:List Int}{l a:Int}{be:Re}{c:Int},BP row l be a->(row1.length-1)*(row.length-1)<=12->wpS nosub (ag nosub fnTab 9) W iU [some (.lst 0),some (pg row1 a1 1 (a1+1) 1),some (pg row a 1 (a+1) 1),some (.int (c.fmod 4)),o4,o5,o6,o7,o8,o9,o10] H NN R Y:=fun h hN=>st8 h1 h hN (Im _ (by decide)) (IJ _ (by decide)) hR
 dsimp only[iX]
 revert key
 generalize iU=T
 intro key
 dsimp only[qS2,qS3,qE1,qE5,qE8,aM,aA,az,aa,af,aH]
 refine hX zT0 (by decide) (ns:=ns) hH ?_
 refine ⟨by decide,?_⟩
 dsimp only[qS1,bw,qE1,qE5,qE8,bx,lZ,aM,b6,aU,aA,az,bX,aa,af]
 refine hX zT0 (by decide) (ns:=ns) hH ?_
 generalize jD ns (3:Int).toNat=c3
 refine ⟨show (4:Int)≠0 by decide,⟨by decide,?_⟩⟩
 dsimp only[dQ,aN,aa]
 by_cases e:(c3.fdiv 4).fmod 8=1
 ·rw[decide_eq_true e]
  dsimp only[aX,cE,eF,fh,aN,aa]
  rw[GO]
  by_cases k:((row1.length:Nat):Int)<5
  ·rw[decide_eq_true k]
   exact key h1 (GP (HP (show row1.length-1<=3 by exact oqz [row1.length-1,row1.length] [] [(.il (.a (.c Y1) 1) 5),(osb Y1 1 Y0)] (.le Y0 3) [10011,1001] rfl k (am (row1.length) (1))) (show row1.length-1<=3 by exact oqz [row1.length-1,row1.length] [] [(.il (.a (.c Y1) 1) 5),(osb Y1 1 Y0)] (.le Y0 3) [10011,1001] rfl k (am (row1.length) (1)))) (by decide))
  ·rw[decide_eq_false k]
   exact key h2 hN
 ·rw[decide_eq_false e]
  exact key h2 hN
theorem qd{n:Nat}{k:Int}(h:0<=k):dH n k=min k.toNat n:=by
 unfold dH
 rw[if_neg (Iv.mpr h)]
 rcases Int.le_total k n with h1|h1
 ·rw[Int.min_eq_left h1,Int.max_eq_right h];exact (Jl (Int.toNat_le.mpr h1)).symm
 ·rw[Int.min_eq_right h1,Int.max_eq_right (HW n),Iz];exact (Je ((Int.le_toNat h).mpr h1)).symm
theorem jZ{ns:List Int}{lo hi:Int}(hH:H[0]?=some (ns.map .int))(h0:0<=lo)(h1:lo<=hi)(hQ:∀cells:List Int,cells.length<=(hi-lo).toNat->Q (.lst H.length) (H++[cells.map .int])):mL (.lst 0) (some (.int lo)) (some (.int hi)) H Q:=by
 refine ifSome.mk hH (ifSome.mk rfl ?_)
 dsimp only
 rw[qd h0,qd (HY h0 h1)]
 have:=hQ ((ns.take (min hi.toNat (ns.map V.int).length)).drop (min lo.toNat (ns.map V.int).length)) (by rw[List.length_drop,JA];exact oqz [min (min hi.toNat (List.map V.int ns).length) ns.length-min lo.toNat (List.map V.int ns).length,min (min hi.toNat (List.map V.int ns).length) ns.length,min hi.toNat (List.map V.int ns).length,hi.toNat,(List.map V.int ns).length,ns.length,min lo.toNat (List.map V.int ns).length,lo.toNat,(hi-lo).toNat] [hi,lo] [(.an (.le Y2 Y3) (.le Y2 Y4)),(.an (.le Y1 Y2) (.le Y1 Y5)),(.il Y1 (.c Y7)),(.il (.s Y0 Y1) (.c Y8)),(otn Y0 Y3),(.or (.an (.le Y7 Y4) (.eq Y6 Y7)) (.an (.le Y4 Y7) (.eq Y6 Y4))),(osb Y1 Y6 Y0)] (.le Y0 Y8) [1001000101101011,100000000000001,1001000000001101,1000000100001011] rfl (Mine.kD (hi.toNat) ((List.map V.int ns).length)) (Mine.kD (min hi.toNat (List.map V.int ns).length) (ns.length)) (Int.self_le_toNat (lo)) (Int.self_le_toNat (hi-lo)) (aQ (hi)) (Mine.lP (lo.toNat) ((List.map V.int ns).length)) (am (min (min hi.toNat (List.map V.int ns).length) ns.length) (min lo.toNat (List.map V.int ns).length)))
 rw[List.map_drop,List.map_take] at this
 exact this
theorem gy{ns:List Int}{k:Int}{Z:V->Hp->Prop}{c:Nat}(hc:c<=7)(hH:H[0]?=some (ns.map .int)){cells:List Int}(hl:cells.length<=c)(hk:0<=k)(hZ:∀row l al a H',H<+:H'->BP row l al a->row.length<=max 3 c->Z (pg row a 1 (a+1) 1) H') :
  ag nosub fnTab 9 37 [.lst 0,.int k] (H++[cells.map .int]) (fun v H1=>ag nosub fnTab 9 48 [.lst H.length,v] H1 Z fun _ _=>False) fun _ _=>False:=by
 refine hX zT0 (n:=8) hk (ns:=ns) (av (aj _ _) hH) ?_
 refine A6 zT0 (n:=5) (cells:=cells) (ai _ _ _) (by exact oqz [cells.length,c] [] [(.le Y1 7),(.le Y0 Y1)] (.le Y0 63) [111] rfl hc hl) fun H' row l a hp pb=>?_
 obtain ⟨al,h⟩:=pb.bp (by exact oqz [max 3 cells.length,cells.length,c] [] [(.le Y2 7),(.le Y1 Y2),(.or (.an (.le Y1 3) (.eq Y0 3)) (.an (.le 3 Y1) (.eq Y0 Y1)))] (.le Y0 7) [10001,10111] rfl hc hl (Mine.fJ (3) (cells.length)))
 exact hZ _ _ _ _ _ (ah (aj _ _) hp) h (GP pb.ok.len' (by exact oqz [max 3 cells.length,cells.length,max 3 c,c] [] [(.le Y1 Y3),(.an (.le 3 Y2) (.le Y3 Y2)),(.or (.an (.le Y1 3) (.eq Y0 3)) (.an (.le 3 Y1) (.eq Y0 Y1)))] (.le Y0 Y2) [100101,101011] rfl hl (Mine.D4 (3) (c)) (Mine.fJ (3) (cells.length))))
theorem GK{ns:List Int}(hH:H[0]?=some (ns.map .int))(h1:BP row1 l1 al a1)(h2:BP row2 l2 be a2)(k1:row1.length<=4)(k2:row2.length<=4)(hR:∀H',R (.bool true) H') :
  wpS nosub (ag nosub fnTab 9) W ga [some (.lst 0),some (pg row1 a1 1 (a1+1) 1),some (pg row2 a2 1 (a2+1) 1),none,o4,o5,o6,o7,o8,o9,o10] H NN R Y:=by
 have key:∀ {row1 row2:List Int}{l1 l2 a1 a2:Int}{al be:Re}{H:Hp},H[0]?=some (ns.map .int)->BP row1 l1 al a1->BP row2 l2 be a2->(row1.length<=4/\row2.length<=4)\/(row1.length<=7/\row2.length<=3)->wpS nosub (ag nosub fnTab 9) W iX [some (.lst 0),some (pg row1 a1 1 (a1+1) 1),some (pg row2 a2 1 (a2+1) 1),none,o4,o5,o6,o7,o8,o9,o10] H NN R Y:=fun hH h1 h2 hl=>st9 hH h1 h2 hl hR
 dsimp only[ga]
 revert key
 generalize iX=T
 intro key
 dsimp only[qS1,qS2,qS3,bw,qE1,qE5,qE8,bx,aM,xW,qO2,aA,az,aa,af,aH]
 refine hX zT0 (by decide) (ns:=ns) hH ?_
 refine ⟨show (9:Int)≠0 by decide,⟨by decide,?_⟩⟩
 dsimp only[dQ,aN,aa]
 by_cases e:((jD ns (0:Int).toNat).fdiv 9).fmod 4=1
 ·rw[decide_eq_true e]
  dsimp only[aX]
  refine hX zT0 (by decide) (ns:=ns) hH ?_
  generalize jD ns (0:Int).toNat=c0
  refine ⟨show (36:Int)≠0 by decide,⟨by decide,?_⟩⟩
  have f1:=Im (c0.fdiv 36) (b:=4) (by decide)
  have f2:=IJ (c0.fdiv 36) (b:=4) (by decide)
  dsimp only[cO]
  refine jZ hH (by decide) (by exact oqz [] [(c0.fdiv 36).fmod 4] [(.il 0 Y0)] (.il 12 (16+Y0)) [11] rfl f1) fun cells hc=>?_
  refine gy (c:=7) (by decide) hH (by exact oqz [cells.length,(16+(c0.fdiv 36).fmod 4-12).toNat] [(c0.fdiv 36).fmod 4] [(.il (Y0+1) 4),(.le Y0 Y1),(otn (.s (16+Y0) 12) Y1)] (.le Y0 7) [10111,10101] rfl f2 hc (aQ (16+(c0.fdiv 36).fmod 4-12))) (by decide) fun row l al' a H1 hp1 g1 m1=>?_
  refine jZ (av hp1 hH) (by decide) (by decide) fun cells hc=>?_
  refine gy (c:=2) (by decide) (av hp1 hH) hc (by decide) fun row' l' be' a' H2 hp2 g2 m2=>?_
  exact key (av hp2 (av hp1 hH)) g1 g2 (.inr ⟨m1,m2⟩)
 ·rw[decide_eq_false e]
  exact key hH h1 h2 (.inl ⟨k1,k2⟩)
theorem GN{ns:List Int}(hH:H[0]?=some (ns.map .int))(h1:BP row1 l1 al a1)(k1:row1.length<=4)(hR:∀H',R (.bool true) H') :
  wpS nosub (ag nosub fnTab 9) W f5 [some (.lst 0),some (pg row1 a1 1 (a1+1) 1),none,none,o4,o5,o6,o7,o8,o9,o10] H NN R Y:=by
 have key:∀ {row2:List Int}{l2 a2:Int}{be:Re}{H:Hp},H[0]?=some (ns.map .int)->BP row2 l2 be a2->row2.length<=4->wpS nosub (ag nosub fnTab 9) W ga [some (.lst 0),some (pg row1 a1 1 (a1+1) 1),some (pg row2 a2 1 (a2+1) 1),none,o4,o5,o6,o7,o8,o9,o10] H NN R Y:=fun hH h2 k2=>GK hH h1 h2 k1 k2 hR
 dsimp only[f5]
 revert key
 generalize ga=T
 intro key
 dsimp only[qS2,qS3,qE1,qE5,qE8,aM,xW,qO2,aA,az,aa,af,aH]
 refine hX zT0 (by decide) (ns:=ns) hH ?_
 generalize jD ns (0:Int).toNat=c0
 refine ⟨show (3:Int)≠0 by decide,⟨by decide,?_⟩⟩
 have f1:=Im (c0.fdiv 3) (b:=3) (by decide)
 have f2:=IJ (c0.fdiv 3) (b:=3) (by decide)
 dsimp only[cO]
 refine jZ hH (by decide) (by exact oqz [] [(c0.fdiv 3).fmod 3] [(.il 0 Y0)] (.il 8 (10+Y0)) [11] rfl f1) fun cells hc=>?_
 refine gy (c:=4) (by decide) hH (by exact oqz [cells.length,(10+(c0.fdiv 3).fmod 3-8).toNat] [(c0.fdiv 3).fmod 3] [(.il (Y0+1) 3),(.le Y0 Y1),(otn (.s (10+Y0) 8) Y1)] (.le Y0 4) [10111,10101] rfl f2 hc (aQ (10+(c0.fdiv 3).fmod 3-8))) (by decide) fun row l al' a H1 hp1 g1 m1=>?_
 exact key (av hp1 hH) g1 m1
end
theorem spec(ns:List Int)(h:ns.length<=63):ag nosub fnTab 10 57 [.lst 0] [ns.map .int] (fun v _=>v=.bool true) (fun _ _=>False):=by
 refine ao (d:=⟨1,11,yM⟩) rfl rfl ?_
 have key:∀ {row1:List Int}{l1 a1:Int}{al:Re}{H:Hp},H[0]?=some (ns.map .int)->BP row1 l1 al a1->row1.length<=4->wpS nosub (ag nosub fnTab 9) (fun m=>[ns.map V.int].length<=m) f5 [some (.lst 0),some (pg row1 a1 1 (a1+1) 1),none,none,none,none,none,none,none,none,none] H (fun _ _=>V.none=.bool true) (fun v _=>v=.bool true) (fun _ _=>False):=fun hH h1 k1=>GN hH h1 k1 fun _=>rfl
 dsimp only[yM]
 revert key
 generalize f5=T
 intro key
 dsimp only[qS2,qS3,qE1,qE5,qE8,aM,xW,qO2,aA,az,aD,aB,ay,ax,aO,aC,aq,aa,af,aH,Nat.reduceSub]
 refine hX zT0 (by decide) (ns:=ns) rfl ?_
 generalize jD ns (0:Int).toNat=c0
 refine ⟨by decide,?_⟩
 have f1:=Im c0 (b:=3) (by decide)
 have f2:=IJ c0 (b:=3) (by decide)
 dsimp only[cO]
 refine jZ (ns:=ns) rfl (by decide) (by exact oqz [] [c0.fmod 3] [(.il 0 Y0)] (.il 4 (6+Y0)) [11] rfl f1) fun cells hc=>?_
 refine gy (c:=4) (by decide) (ns:=ns) rfl (by exact oqz [cells.length,(6+c0.fmod 3-4).toNat] [c0.fmod 3] [(.il (Y0+1) 3),(.le Y0 Y1),(otn (.s (6+Y0) 4) Y1)] (.le Y0 4) [10111,10101] rfl f2 hc (aQ (6+c0.fmod 3-4))) (by decide) fun row l al' a H1 hp1 g1 m1=>?_
 exact key (av hp1 rfl) g1 m1
end L12
end Mine
open PySem PyProof.Rows PySem.Calls PySem.W
set_option Elab.async false
namespace Mine
noncomputable def L12.gc:GC:=⟨L12.fnNames,L12.clsNames,[(Str.ofString "HALF",1,2),(Str.ofString "QUARTER",1,4),(Str.ofString "NOUGHT",0,1),(Str.ofString "ONE",1,1)]⟩
theorem L12.chkb:qM L12.gc ((recsOf iB).map mN) L12.fnTab L12.varTab=((recsOf iB).map mN).map fun d=>(d.body,true):=by kernel_rfl
theorem L12.chk:Chk L12.gc ((recsOf iB).map mN) L12.fnTab L12.varTab:=⟨by decide +kernel,L12.chkb⟩
theorem L12.said:PySem.Challenge.rw_uf020007_12.wellSaid=true:=by kernel_rfl
noncomputable def OL(p:Program):PySem.W.OpenLaw:={ prog:=p,name:=Str.ofString "law",about:=[Str.ofString "added"],foot:=22,most:=some 63,bound:=none,writes:=false }
theorem L12.fin{p:Program} (htree:p.given.tree=none) {w:World}{s0 s1:Shared}{mg mb:Str->Option Value}{DT:List dK}{fa:Addr}{args:List WData}{vals:List Value}{as:List Addr} (GF1:GF ⟨mg,mb,hV mg L12.gc.fns,fun _=>.none⟩ L12.gc DT s1.heap) (hlen:L12.gc.fns.length=DT.length) (chk:Chk L12.gc DT L12.fnTab L12.varTab) (hmg:mg (Str.ofString "law")=some (.ref fa)) (hg:s1.gens=#[])
  (hpre:(OL p).row.claim.pre args=true) (hlay:WData.layableAll args=true) (hrd:ReadsAllW (OL p).row.records (classAt s0.heap) s1.heap vals args as) (hwl:WellAll w.params s1.heap vals args) (hlo:∀a,a∈as->(a == sysModules)=false) :
  wpAny (model (OL p).row.prog w) callerA ((fun f vs=>call f vs) (.ref fa) vals) (fun v s'=>GoodWG (OL p).row.claim (classAt s0.heap) (ExcName.means s0.heap) args s1 (Except.ok (Flow.ret v)) s') (fun e s'=>GoodWG (OL p).row.claim (classAt s0.heap) (ExcName.means s0.heap) args s1 (Except.error e) s') s1:=by
 wrow_args hpre hlay hrd hwl hlo
 all_goals (
  first|refine callC_kw (enter_call ?_) |refine enter_call ?_|refine callC_kw (enter_callW ?_) |refine enter_callW ?_|w_how
  w_top on
  try refine codeAny_mono ?_ (fun _ _ g=>GoodW.toG g)
  rename_i hL hlay1 _ _ _ _ _ _ _ hLs _ _ _ hI _ hcond _
  refine Mine.zo htree (gc:=Mine.L12.gc) (P:=Mine.L12.fnTab) (VT:=Mine.L12.varTab) (sub:=Mine.L12.nosub) (k:=57) (n:=10) (x:="law")
   GF1 hlen chk (by decide) hLs hI (by omega) (by decide +kernel) hmg (by decide) (Mine.L12.spec _ (by omega)) ?_
  ·intro h' tk kp
   exact ⟨.inl ⟨_,.bool true,[],rfl,by intro cls;rfl,.bool true,(by first|rfl|exact postW_of rfl rfl (by decide +kernel)),unshared_nil⟩,kp,rfl,hg⟩)
end Mine
theorem PySem.Challenge.cw_uf020007_12_holds : PySem.Challenge.rw_uf020007_12.Holds := by
 w_on
 refine holds_law Mine.L12.said fun said=>?_
 refine holds_open (q:=Mine.iB) (loose:=[]) (XP:=XL Mine.iB []) (YP:=InK Mine.K12) (N:=4500) Mine.Ex (InK.of (fun _=>by kernel_rfl)) InK.keeps (fun s e=>xl_of s (Bool.and_eq_true_iff.mp e).1) XL.keeps (by rfl) (by rfl) (by rfl) (fun s e=>recFacts_of (Bool.and_eq_true_iff.mp e).2) (by rfl) (by first | assumption | decide +kernel) (by decide +kernel) ⟨rfl,rfl,rfl,rfl,rfl,by decide +kernel⟩ ?hw ?hc
 case hw=>w_witness2
 k_fill
 intro w s₀ s₁ mg mb G Y fa o pm cd doc dV kV ho hd hcd hD hmg hg args vals as hpre hlay hrd hwl hlo
 have KX:(Mine.K12 w.params).In s₁.heap:=Y
 refine Ground.open G ?_
 intro T B D TE TW
 have GF0:=Mine.vz (gc:=⟨Mine.L12.gc.fns,Mine.L12.gc.cls,[]⟩) T (by decide +kernel) rfl (by decide +kernel) (by decide +kernel)
 have m0 := mg_of KX T.g (show nsIn (Mine.K12 w.params) mainGlobals (Str.ofString "HALF") = some (some (.ref 194)) by k_is)
 have m1 := mg_of KX T.g (show nsIn (Mine.K12 w.params) mainGlobals (Str.ofString "QUARTER") = some (some (.ref 195)) by k_is)
 have m2 := mg_of KX T.g (show nsIn (Mine.K12 w.params) mainGlobals (Str.ofString "NOUGHT") = some (some (.ref 245)) by k_is)
 have m3 := mg_of KX T.g (show nsIn (Mine.K12 w.params) mainGlobals (Str.ofString "ONE") = some (some (.ref 246)) by k_is)
 have GF1:Mine.GF ⟨mg,mb,Mine.hV mg Mine.L12.gc.fns,fun _=>.none⟩ Mine.L12.gc ((recsOf Mine.iB).map Mine.mN) s₁.heap:=Mine.yC GF0 (fun x a b hx=>by
  rcases List.mem_cons.mp hx with hx | hx
  ·cases hx
   exact ⟨194,431,432,m0,Mine.ua w.params,KX 194 _ rfl,rfl,_,rfl⟩
  rcases List.mem_cons.mp hx with hx | hx
  ·cases hx
   exact ⟨195,434,435,m1,Mine.tM w.params,KX 195 _ rfl,rfl,_,rfl⟩
  rcases List.mem_cons.mp hx with hx | hx
  ·cases hx
   exact ⟨245,505,506,m2,Mine.um w.params,KX 245 _ rfl,rfl,_,rfl⟩
  rcases List.mem_cons.mp hx with hx | hx
  ·cases hx
   exact ⟨246,508,509,m3,Mine.sJ w.params,KX 246 _ rfl,rfl,_,rfl⟩
  cases hx)
 exact Mine.L12.fin rfl GF1 (by decide +kernel) Mine.L12.chk hmg hg hpre hlay hrd hwl hlo
