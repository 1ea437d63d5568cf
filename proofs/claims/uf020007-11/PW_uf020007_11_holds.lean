import PyProof.Rows.All
import Wide.All
import OpenK.AllK
import Wide.FinOn
import Open.Row
import PyProof.Fits
import PyProof.SameEqv
import PyProof.Rows.InDataRows
import PyProof.TupleOfSeq
import PyProof.ListCopy
import PyProof.Rows.TupMore
import KE.KRevIter
import PyProof.ListRange
import PyProof.Rows.Range3
import PyProof.CompFree
import PyProof.CompUse
import PyProof.FitsBits
import KE.KTryDeep
import PyProof.ExcBaseAll.ValueError
import PyProof.ExcArgsOwn
import PyProof.ExcAttrAll.ValueError
import KE.RegKTryMore
import KE.RegKIsAll
import PySem.Challenge.RW_uf020007_11
set_option Elab.async false
set_option autoImplicit false
set_option linter.all false
set_option maxHeartbeats 8000000
set_option maxRecDepth 100000
namespace Mine
def Hi:=@List.length_map
def Hj:=@Nat.le_trans
def Hk:=@PySem.wpAny_bind
def Hl:=@List.length_append
def Hn:=@Lean.Grind.Semiring.pow_succ
def Ho:=@Int.ne_of_gt
def Hq:=@Bool.false_ne_true
def Hr:=@Lean.Grind.Semiring.pow_zero
def Hs:=@List.getElem?_eq_some_iff
def Ht:=@Nat.le_refl
def Hu:=@Std.le_of_lt
def Hv:=@List.append_assoc
def Hw:=@List.map_cons
def Hx:=@List.getElem?_eq_getElem
def Hy:=@List.mem_cons_self
def Hz:=@List.mem_cons_of_mem
def HA:=@Option.some.inj
def HB:=@List.getD_eq_getElem?_getD
def HC:=@PySem.wpAny_pure
def HD:=@List.mem_of_getLast?
def HE:=@List.length_singleton
def HF:=@List.map_append
def HG:=@Int.mul_pos
def HH:=@Nat.add_mul
def HI:=@List.getElem?_append_left
def HJ:=@PySem.Heap.get?_push_size
def HK:=@Nat.mul_le_mul_left
def HL:=@List.getElem?_map
def HM:=@List.mem_cons
def HN:=@List.getElem?_append_right
def HO:=@Int.add_zero
def HP:=@List.mem_map
def HQ:=@Nat.zero_le
def HS:=@Int.mul_zero
def HT:=@Nat.lt_of_le_of_lt
def HU:=@Bool.and_eq_true_iff
def HV:=@Int.natAbs_mul
def HW:=@Classical.byContradiction
def HX:=@List.size_toArray
def HY:=@List.lookup_cons
def HZ:=@Int.le_of_lt
def Ia:=@List.map_map
def Ib:=@Nat.pow_le_pow_right
def Ic:=@Nat.le_of_succ_le
def Id:=@Int.mul_one
def Ie:=@Nat.le_mul_of_pos_right
def Ig:=@Int.pow_succ
def Ih:=@List.length_reverse
def Ii:=@List.length_pos_iff
def Ij:=@Int.natCast_mul
def Ik:=@List.mem_append
def Il:=@Int.le_trans
def Im:=@Lean.Grind.OrderedRing.zero_lt_one
def Io:=@List.eq_nil_of_length_eq_zero
def Ip:=@Int.one_mul
def Iq:=@Int.pow_pos
def Ir:=@Int.mul_comm
def It:=@Int.mul_ne_zero
def Iu:=@Bool.and_eq_true
def Iv:=@Nat.mul_le_mul
def Iw:=@List.mem_singleton
def Ix:=@Int.natCast_nonneg
def Iy:=@Int.neg_mul
def Iz:=@Int.fdiv_mul_cancel
def IA:=@Nat.lt_succ_self
def IB:=@Nat.add_sub_cancel_left
def IC:=@List.getLast?_cons_cons
def ID:=@Int.pow_zero
def IE:=@Nat.le_of_eq
def IF:=@Nat.zero_add
def IG:=@List.mem_of_getElem?
def IH:=@Std.le_refl
def II:=@Int.mul_assoc
def IJ:=@Nat.add_assoc
def IK:=@Int.zero_add
def IL:=@Int.zero_mul
def IM:=@Nat.add_comm
def IN:=@Int.natAbs_dvd_natAbs
def IO:=@Int.ofNat_le
def IP:=@List.getLast?_eq_getElem?
def IQ:=@Option.some_ne_none
def IR:=@decide_eq_true_eq
def IS:=@List.length_range'
def IT:=@Int.not_le
def IU:=@List.cons_ne_nil
def IV:=@Nat.mul_le_mul_right
def IW:=@Nat.succ.inj
def IX:=@Rat.le_of_lt
def IY:=@PySem.Heap.get?_push_of_some
def IZ:=@Nat.le_succ
def I0:=@Nat.le_of_succ_le_succ
def I1:=@Nat.le_of_lt_succ
def I2:=@Nat.add_le_add_left
def I3:=@PySem.Heap.SameBut.update
def I4:=@Int.natCast_pos
def I5:=@Int.eq_of_mul_eq_mul_left
def I6:=@Int.natCast_pow
def I7:=@PySem.wpAny_ite_split
def I8:=@PySem.Heap.lt_size
def I9:=@Bool.false_eq_true
def Ja:=@Nat.le_add_right
def Jb:=@Int.natAbs_natCast
def Jc:=@Int.mul_right_comm
def Jd:=@Rat.mul_nonneg
def Je:=@Int.natAbs_pos
def Jf:=@Nat.exists_eq_add_of_le
def Jg:=@Option.bind_eq_some_iff
def Jh:=@Int.toNat_natCast
def Ji:=@List.getLast?_map
def Jj:=@List.map_congr_left
def Jk:=@Nat.pow_le_pow_left
def Jl:=@Option.map_eq_some_iff
def Jm:=@Nat.ne_of_lt
def Jn:=@Nat.pow_add
def Jo:=@Nat.succ_mul
def Jp:=@Nat.mul_comm
def Jq:=@Lean.Grind.CommSemiring.mul_comm
def Jr:=@PySem.Heap.get?_update_self
def Js:=@Nat.add_sub_add_right
def Jt:=@PySem.builtinLookup_eq_fast
def Ju:=@Lean.Grind.CommSemiring.mul_pow
def Jv:=@PySem.wpAny_of_eq
def Jw:=@Nat.le_add_left
def Jx:=@Nat.pow_succ
def Jy:=@Nat.two_pow_pos
def Jz:=@List.reverse_cons
def JA:=@List.pairwise_map
def JB:=@List.length_range
def JC:=@Lean.Grind.Semiring.mul_assoc
def JD:=@List.getD_cons_zero
def JE:=@List.mem_range
def JF:=@Int.gcd_pos_of_ne_zero_right
def JG:=@Int.not_lt
def JH:=@Std.not_lt
def JI:=@Std.not_le
def JJ:=@Nat.le_of_lt
def JK:=@List.pairwise_cons
def JL:=@Nat.lt_or_eq_of_le
def JM:=@Nat.min_le_left
def JN:=@List.lookup_cons_self
def JO:=@List.eq_nil_or_concat
def JP:=@List.concat_eq_append
def JQ:=@Int.add_assoc
def JR:=@List.mem_append_left
def JS:=@List.getElem?_set_ne
def JT:=@List.getLast?_append
def JU:=@Nat.min_eq_right
def JV:=@List.prefix_refl
def JW:=@Nat.succ_pos
def JX:=@List.reverse_append
def JY:=@List.getD_cons_succ
def JZ:=@Int.pos_of_mul_pos_left
def J1:=@PySem.wpAny_holding
def J2:=@Nat.min_eq_left
def J3:=@Nat.lt_of_lt_of_le
def J4:=@List.mem_filter
def J5:=@Nat.add_right_comm
def J6:=@PySem.typeLookup_type
def J7:=@Int.fmod_nonneg_of_pos
def J8:=@Nat.lt_of_succ_lt_succ
def J9:=@Nat.le_mul_of_pos_left
def Ka:=@List.range_succ_eq_map
def Kb:=@Int.mul_le_mul_of_nonneg_left
def Kc:=@Int.gcd_dvd_right
def Kd:=@PySem.wpAny_newObj_type
def Ke:=@Quotient.sound
def Kf:=@Nat.sub_self
def Kg:=@List.singleton_append
def Kh:=@PySem.isSubtype_type
def Ki:=@List.all_eq_true
def Kj:=@Nat.min_le_right
def Kk:=@List.length_take
def Kl:=@Nat.succ_ne_zero
def Km:=@beq_self_eq_true
def Kn:=@List.cons.inj
def Ko:=@Nat.le_of_dvd
def Kp:=@Int.le_refl
def Kq:=@Int.pow_add
def Kr:=@Nat.le_zero
def Ks:=@PySem.mem_of_lookup
def Kt:=@List.filter_sublist
theorem gf{p0 p1 p2:Prop}{G:Prop}(h:p0/\p1/\p2)(k:p0->p1->p2->G):G:=k h.1 h.2.1 h.2.2
theorem ac{A:Sort _}{p0 p1:A->Prop}{G:Prop}(h:∃x,p0 x/\p1 x)(k:∀x,p0 x->p1 x->G):G:=h.elim fun x h1=>k x h1.1 h1.2
theorem jH{A B:Sort _}{p0:A->B->Prop}{G:Prop}(h:∃x y,p0 x y)(k:∀x y,p0 x y->G):G:=h.elim fun x h1=>h1.elim fun y h2=>k x y h2
theorem cv{p0 p1 p2 p3:Prop}{G:Prop}(h:p0/\p1/\p2/\p3)(k:p0->p1->p2->p3->G):G:=k h.1 h.2.1 h.2.2.1 h.2.2.2
theorem rk{A:Sort _}{p0:Prop}{p1 p2:A->Prop}{G:Prop}(h:p0/\∃x,p1 x/\p2 x)(k:p0->∀x,p1 x->p2 x->G):G:=h.2.elim fun x h1=>k h.1 x h1.1 h1.2
theorem cw{A:Sort _}{p0 p1 p2:A->Prop}{G:Prop}(h:∃x,p0 x/\p1 x/\p2 x)(k:∀x,p0 x->p1 x->p2 x->G):G:=h.elim fun x h1=>k x h1.1 h1.2.1 h1.2.2
theorem cU{A B:Sort _}{p0 p1:A->B->Prop}{G:Prop}(h:∃x y,p0 x y/\p1 x y)(k:∀x y,p0 x y->p1 x y->G):G:=h.elim fun x h1=>h1.elim fun y h2=>k x y h2.1 h2.2
theorem DX{A B C:Sort _}{p0:A->B->C->Prop}{G:Prop}(h:∃x y z,p0 x y z)(k:∀x y z,p0 x y z->G):G:=h.elim fun x h1=>h1.elim fun y h2=>h2.elim fun z h3=>k x y z h3
theorem s7{p0 p1 p2 p3 p4:Prop}{G:Prop}(h:p0/\p1/\p2/\p3/\p4)(k:p0->p1->p2->p3->p4->G):G:=k h.1 h.2.1 h.2.2.1 h.2.2.2.1 h.2.2.2.2
theorem cy{A:Sort _}{p0 p1 p2 p3:A->Prop}{G:Prop}(h:∃x,p0 x/\p1 x/\p2 x/\p3 x)(k:∀x,p0 x->p1 x->p2 x->p3 x->G):G:=h.elim fun x h1=>k x h1.1 h1.2.1 h1.2.2.1 h1.2.2.2
theorem bS{A B:Sort _}{p0 p1:A->Prop}{p2:A->B->Prop}{G:Prop}(h:∃x,p0 x/\p1 x/\∃y,p2 x y)(k:∀x,p0 x->p1 x->∀y,p2 x y->G):G:=h.elim fun x h1=>h1.2.2.elim fun y h2=>k x h1.1 h1.2.1 y h2
theorem tI{A B:Sort _}{p0:A->Prop}{p1 p2:A->B->Prop}{G:Prop}(h:∃x,p0 x/\∃y,p1 x y/\p2 x y)(k:∀x,p0 x->∀y,p1 x y->p2 x y->G):G:=h.elim fun x h1=>h1.2.elim fun y h2=>k x h1.1 y h2.1 h2.2
theorem ay{A B:Sort _}{p0 p1 p2:A->B->Prop}{G:Prop}(h:∃x y,p0 x y/\p1 x y/\p2 x y)(k:∀x y,p0 x y->p1 x y->p2 x y->G):G:=h.elim fun x h1=>h1.elim fun y h2=>k x y h2.1 h2.2.1 h2.2.2
theorem iQ{A B C:Sort _}{p0 p1:A->B->C->Prop}{G:Prop}(h:∃x y z,p0 x y z/\p1 x y z)(k:∀x y z,p0 x y z->p1 x y z->G):G:=h.elim fun x h1=>h1.elim fun y h2=>h2.elim fun z h3=>k x y z h3.1 h3.2
theorem wD{A B C:Sort _}{p0:A->Prop}{p1 p2:A->B->C->Prop}{G:Prop}(h:∃x,p0 x/\∃y z,p1 x y z/\p2 x y z)(k:∀x,p0 x->∀y z,p1 x y z->p2 x y z->G):G:=h.elim fun x h1=>h1.2.elim fun y h2=>h2.elim fun z h3=>k x h1.1 y z h3.1 h3.2
theorem lB{A B:Sort _}{p0 p1 p2 p3:A->B->Prop}{G:Prop}(h:∃x y,p0 x y/\p1 x y/\p2 x y/\p3 x y)(k:∀x y,p0 x y->p1 x y->p2 x y->p3 x y->G):G:=h.elim fun x h1=>h1.elim fun y h2=>k x y h2.1 h2.2.1 h2.2.2.1 h2.2.2.2
theorem cV{A B C:Sort _}{p0 p1 p2:A->B->C->Prop}{G:Prop}(h:∃x y z,p0 x y z/\p1 x y z/\p2 x y z)(k:∀x y z,p0 x y z->p1 x y z->p2 x y z->G):G:=h.elim fun x h1=>h1.elim fun y h2=>h2.elim fun z h3=>k x y z h3.1 h3.2.1 h3.2.2
theorem pV{A B C D:Sort _}{p0 p1:A->B->C->D->Prop}{G:Prop}(h:∃x y z u,p0 x y z u/\p1 x y z u)(k:∀x y z u,p0 x y z u->p1 x y z u->G):G:=h.elim fun x h1=>h1.elim fun y h2=>h2.elim fun z h3=>h3.elim fun u h4=>k x y z u h4.1 h4.2
theorem dy{A B:Sort _}{p0 p1 p2 p3 p4:A->B->Prop}{G:Prop}(h:∃x y,p0 x y/\p1 x y/\p2 x y/\p3 x y/\p4 x y)(k:∀x y,p0 x y->p1 x y->p2 x y->p3 x y->p4 x y->G):G:=h.elim fun x h1=>h1.elim fun y h2=>k x y h2.1 h2.2.1 h2.2.2.1 h2.2.2.2.1 h2.2.2.2.2
theorem bH{A B C:Sort _}{p0 p1 p2 p3:A->B->C->Prop}{G:Prop}(h:∃x y z,p0 x y z/\p1 x y z/\p2 x y z/\p3 x y z)(k:∀x y z,p0 x y z->p1 x y z->p2 x y z->p3 x y z->G):G:=h.elim fun x h1=>h1.elim fun y h2=>h2.elim fun z h3=>k x y z h3.1 h3.2.1 h3.2.2.1 h3.2.2.2
theorem dL{A B C D:Sort _}{p0 p1 p2:A->B->C->D->Prop}{G:Prop}(h:∃x y z u,p0 x y z u/\p1 x y z u/\p2 x y z u)(k:∀x y z u,p0 x y z u->p1 x y z u->p2 x y z u->G):G:=h.elim fun x h1=>h1.elim fun y h2=>h2.elim fun z h3=>h3.elim fun u h4=>k x y z u h4.1 h4.2.1 h4.2.2
theorem lS{A B:Sort _}{p0 p1 p2 p3 p4 p5:A->B->Prop}{G:Prop}(h:∃x y,p0 x y/\p1 x y/\p2 x y/\p3 x y/\p4 x y/\p5 x y)(k:∀x y,p0 x y->p1 x y->p2 x y->p3 x y->p4 x y->p5 x y->G):G:=h.elim fun x h1=>h1.elim fun y h2=>k x y h2.1 h2.2.1 h2.2.2.1 h2.2.2.2.1 h2.2.2.2.2.1 h2.2.2.2.2.2
theorem jA{A B C D:Sort _}{p0 p1 p2 p3 p4:A->B->C->D->Prop}{G:Prop}(h:∃x y z u,p0 x y z u/\p1 x y z u/\p2 x y z u/\p3 x y z u/\p4 x y z u)(k:∀x y z u,p0 x y z u->p1 x y z u->p2 x y z u->p3 x y z u->p4 x y z u->G):G:=h.elim fun x h1=>h1.elim fun y h2=>h2.elim fun z h3=>h3.elim fun u h4=>k x y z u h4.1 h4.2.1 h4.2.2.1 h4.2.2.2.1 h4.2.2.2.2
theorem oU{A B C D E:Sort _}{p0 p1 p2 p3:A->B->C->D->E->Prop}{G:Prop}(h:∃x y z u v,p0 x y z u v/\p1 x y z u v/\p2 x y z u v/\p3 x y z u v)(k:∀x y z u v,p0 x y z u v->p1 x y z u v->p2 x y z u v->p3 x y z u v->G):G:=h.elim fun x h1=>h1.elim fun y h2=>h2.elim fun z h3=>h3.elim fun u h4=>h4.elim fun v h5=>k x y z u v h5.1 h5.2.1 h5.2.2.1 h5.2.2.2
theorem dS{A B C D E:Sort _}{p0:Prop}{p1 p2 p3 p4 p5:A->B->C->D->E->Prop}{G:Prop}(h:p0/\∃x y z u v,p1 x y z u v/\p2 x y z u v/\p3 x y z u v/\p4 x y z u v/\p5 x y z u v)(k:p0->∀x y z u v,p1 x y z u v->p2 x y z u v->p3 x y z u v->p4 x y z u v->p5 x y z u v->G):G:=h.2.elim fun x h1=>h1.elim fun y h2=>h2.elim fun z h3=>h3.elim fun u h4=>h4.elim fun v h5=>k h.1 x y z u v h5.1 h5.2.1 h5.2.2.1 h5.2.2.2.1 h5.2.2.2.2
end Mine
namespace Mine
open PySem PySem.W PySem.Calls PyProof.Rows
noncomputable def gP(tb:String->Option Builtin)(p:Program)(w:World)(n0:Nat)(ann:Option Value):Nat->SharedT->Thread->Option SharedT
 |0,_,_=>none
 |n+1,s,t=>match through t with
  |true=>some s
  |false=>match stepOk n0 ann t with
   |false=>none
   |true=>match stepT (denote tb) p w s t with
    |some (⟨T,m,l,g,d,0,o⟩,t')=>gP tb p w n0 ann n ⟨T,m,l,g,d,0,o⟩ t'
    |some (⟨T,m,l,g,d,k+1,o⟩,t')=>gP tb p w n0 ann n ⟨T,m,l,g,d,k+1,o⟩ t'
    |none=>none
theorem ic{tb:String->Option Builtin}{p:Program}{w:World}{n0:Nat}{ann:Option Value}:∀ {n:Nat}{s s':SharedT}{t:Thread},gP tb p w n0 ann n s t=some s'->topRun tb p w n0 ann n s.abs t=some s'.abs
 |0,_,_,_,h=>by cases h
 |n+1,s,s',t,h=>by
  unfold gP at h
  unfold topRun
  cases he:through t with
  |true=>rw[he] at h;cases h;rfl
  |false =>
   rw[he] at h
   cases hk:stepOk n0 ann t with
   |false=>rw[hk] at h;cases h
   |true =>
    rw[hk] at h
    cases hs:stepT (denote tb) p w s t with
    |none=>rw[hs] at h;cases h
    |some r =>
     obtain ⟨⟨T,m,l,g,d,k,o⟩,t2⟩:=r
     rw[hs] at h
     rw[stepT_spec hs]
     cases k with
     |zero=>exact ic h
     |succ k=>exact ic h
noncomputable def bt:List Obj->Nat->BT->BT
 | [],_,t=>t
 |o::l,n,t=>bt l (n+1) (t.ins n o)
noncomputable def yo(P:Params)(os:OsState):SharedT:=⟨bt (boot_heap P).objs.toList 0 .nil,(boot_heap P).objs.size,(boot_heap P).life,Array.mk [],boot_drawn,boot_toks,os⟩
theorem vj(P:Params)(os:OsState):(yo P os).abs=⟨boot_heap P,Array.mk [],boot_drawn,boot_toks,os⟩:=by kernel_rfl
noncomputable def t6(p q:Program)(loose:List Str)(Xt:Shared->Bool){α:Type}(Yf:Shared->α)(P:Params)(s:Shared):=
 ((staticsOk (importedModules p.main.body) (boot_heap P) s.heap && namesBound p s.heap && gensDone s && laidKept (boot_heap P) s.heap),openSeen q loose (importedModules p.main.body) Xt true s,Yf s)
noncomputable def FB(p q:Program)(loose:List Str)(Xt:Shared->Bool){α:Type}(Yf:Shared->α)(m0:Nat)(ann:Option Value)(N:Nat)(w:World)(os:OsState):=
 (gP treeTable p w m0 ann N (yo w.params os) (topStub p)).map fun s=>t6 p q loose Xt Yf w.params s.abs
theorem yJ{p q:Program}{loose:List Str}{Xt:Shared->Bool}{α:Type}{Yf:Shared->α}{Ya:World->α}{N:Nat}{m0:Nat}{ann:Option Value}
  (e:opening p=plainProg p.main.scope.names) (hN:Nat.ble 600 N=true) (f:∀s,fenceModules? p s=some s)
  (size:∀w:World,((boot_heap w.params).isNs mainGlobals,(boot_heap w.params).objs.size,(boot_heap w.params).nsMap mainGlobals "__annotations__")=(true,m0,ann))
  (run:∀ (w:World) (os:OsState),FB p q loose Xt Yf m0 ann N w os=some (true,openGood q loose,Ya w)):LeftO p q loose Xt Yf Ya N:=fun w=>by
 refine ac (Jl.mp (boot_open e hN f w)) fun zq106 e e'=>?_;obtain ⟨h,gs,d,k,os⟩:=zq106
 obtain ⟨rfl,rfl,rfl,rfl⟩:h=boot_heap w.params/\gs=Array.mk []/\d=boot_drawn/\k=boot_toks:=by simpa using e'
 obtain ⟨z1,z2,z3⟩:_/\_/\_:=by simpa only [Prod.mk.injEq] using size w
 refine ac (Jl.mp (run w os)) fun s1 hr hl=>?_
 have r:=ic hr
 rw[vj] at r
 obtain ⟨l1,l2,l3⟩:_/\_/\_:=by simpa only [t6,Prod.mk.injEq] using hl
 have t:topFrom treeTable p w N ⟨boot_heap w.params,Array.mk [],boot_drawn,boot_toks,os⟩=some s1.abs:=by
  unfold topFrom
  dsimp only
  rw[z1,z2,z3,r]
  show (match staticsOk (importedModules p.main.body) (boot_heap w.params) s1.abs.heap && namesBound p s1.abs.heap && gensDone s1.abs && laidKept (boot_heap w.params) s1.abs.heap with|true=>_|false=>_)=_
  rw[l1]
 unfold openEnds
 rw[e]
 show (topFrom treeTable p w N _).map _=_
 rw[t]
 exact congrArg some (Prod.ext l2 l3)
noncomputable def r5(p:Program)(m0:Nat)(ann:Option Value)(N:Nat)(w:World)(os:OsState):=gP treeTable p w m0 ann N (yo w.params os) (topStub p)
theorem vd{p q:Program}{loose:List Str}{Xt:Shared->Bool}{α:Type}{Yf:Shared->α}{Ya:World->α}{N:Nat}{m0:Nat}{ann:Option Value}
  (e:opening p=plainProg p.main.scope.names) (hN:Nat.ble 600 N=true) (f:∀s,fenceModules? p s=some s)
  (size:∀w:World,((boot_heap w.params).isNs mainGlobals,(boot_heap w.params).objs.size,(boot_heap w.params).nsMap mainGlobals "__annotations__")=(true,m0,ann))
  (r1:∀ (w:World) (os:OsState),(r5 p m0 ann N w os).map (fun s=>((staticsOk (importedModules p.main.body) (boot_heap w.params) s.abs.heap && namesBound p s.abs.heap && gensDone s.abs && laidKept (boot_heap w.params) s.abs.heap),Yf s.abs))=some (true,Ya w))
  (r2:∀ (w:World) (os:OsState),(r5 p m0 ann N w os).map (fun s=>(openSeen q loose (importedModules p.main.body) Xt true s.abs).1)=some (openGood q loose).1)
  (r3:∀ (w:World) (os:OsState),(r5 p m0 ann N w os).map (fun s=>(openSeen q loose (importedModules p.main.body) Xt true s.abs).2)=some (openGood q loose).2):LeftO p q loose Xt Yf Ya N:=
 yJ e hN f size fun w os=>by
  refine ac (Jl.mp (r1 w os)) fun s hr h1=>?_
  have h2:=r2 w os
  have h3:=r3 w os
  rw[hr] at h2 h3
  obtain ⟨a,b⟩:=Prod.mk.inj h1
  show (r5 p m0 ann N w os).map _=_
  rw[hr]
  exact congrArg some (Prod.ext a (Prod.ext (Prod.ext (HA h2) (HA h3)) b))
end Mine
section
open PySem PyProof.Rows PySem.Calls PySem.W
set_option Elab.async false
namespace Mine
theorem vh(w:World):((boot_heap w.params).isNs mainGlobals,(boot_heap w.params).objs.size,(boot_heap w.params).nsMap mainGlobals "__annotations__")=(true,11,some (.ref 6)):=by kernel_rfl
noncomputable def fN:Program:=PySem.W.view PySem.Challenge.pw_uf020007_11 [1,2,3,4,5,6,8,9,10,11,12,13,15,16,17,18,19,20,21,22,23,25,26,27,29,30,31,32,33,34,35,37,38,39,40,41,42,43,44,45,46,47,48,49,51,52,53,54,55,56,57,58,59,60,61,62,63,64,65,66,67,68,69,70,71,72,73,74,75]
noncomputable def rK(i:Nat):Arguments × List Stmt × Scope:=match PySem.Challenge.pw_uf020007_11.main.body[i]? with|some (.FunctionDef _ ps b _ _ _ sc _ _ _)=>(ps,b,sc) |_=>default
noncomputable def de(P:Params)(x:String)(t:Tok)(v:Value):DictEntry:={ hash:=PyData.keyHash P (Str.ofString x),key:=Value.str (Str.ofString x) t,val:=v }
noncomputable def dr(P:Params)(x:String)(t:Tok)(a:Addr):DictEntry:=de P x t (.ref a)
noncomputable def AM(P:Params):List DictEntry:=[de P "__name__" 165 (Value.str (Str.ofString "law_uf020007_11") 616),de P "__doc__" 166 (Value.none),de P "__package__" 167 (Value.none),de P "__loader__" 168 (Value.builtin "__main__.__loader__#opaque"),de P "__spec__" 169 (Value.none),dr P "__annotations__" 170 6,dr P "__builtins__" 171 4,de P "__file__" 173 (Value.str (Str.ofString "/claim/cut.py") 172)]
noncomputable def AC(P:Params):List DictEntry:=[de P "__cached__" 174 (Value.none),dr P "PegError" 206 24,dr P "NoPart" 222 37,dr P "NoRow" 238 49,dr P "NoStretch" 254 61,dr P "NotAlone" 270 73,dr P "NoQuotient" 286 85,dr P "divisor" 297 94]
noncomputable def zK(P:Params):List DictEntry:=[dr P "part" 306 101,dr P "below" 314 108,dr P "part_sum" 322 115,dr P "part_product" 330 122,dr P "turned_about" 337 129,dr P "sign_at" 350 136,dr P "trimmed" 358 143,dr P "reduced" 364 148]
noncomputable def Am(P:Params):List DictEntry:=[dr P "slope" 370 153,dr P "without_last" 376 158,dr P "rest_of" 385 165,dr P "common" 394 172,dr P "quotient" 405 179,dr P "plain" 413 186,dr P "multiplied" 426 193,dr P "seen" 432 198]
noncomputable def An(P:Params):List DictEntry:=[dr P "turns" 444 205,dr P "HALF" 449 206,dr P "QUARTER" 452 207,dr P "is_alone" 461 214,dr P "width_of" 468 221,dr P "narrowed" 482 228,dr P "halved" 489 235,dr P "sign_of_peg" 499 242]
noncomputable def AU(P:Params):List DictEntry:=[dr P "NOUGHT" 504 243,dr P "ONE" 507 244,dr P "power_sums" 520 251,dr P "signed" 528 258,dr P "row_of" 544 265,dr P "settled" 556 272,dr P "sum_bounds" 564 279,dr P "product_bounds" 578 286]
noncomputable def A5(P:Params):List DictEntry:=[dr P "added" 584 291,dr P "times" 590 296,dr P "opposite" 596 301,dr P "taken" 604 308,dr P "divided" 615 315,dr P "_law_whole" 624 322,dr P "_law_cell_at" 632 329,dr P "_law_divisor" 641 336]
noncomputable def Aw(P:Params):List DictEntry:=[dr P "_law_part" 650 343,dr P "_law_smallest" 656 348,dr P "_law_value" 667 355,dr P "_law_by" 673 360,dr P "_law_seen" 679 365,dr P "_law_turns" 691 372,dr P "_law_is_part" 698 379,dr P "_law_is_peg" 704 384]
noncomputable def zr(P:Params):List DictEntry:=[dr P "_law_sign" 711 391,dr P "_law_two" 720 398,dr P "_law_four" 733 405,dr P "_law_mul" 742 412,dr P "_law_product" 756 419,dr P "_law_many" 762 424,dr P "_law_and" 768 429,dr P "_law_ends" 779 436]
noncomputable def Bj(P:Params):List DictEntry:=[dr P "_law_quad_peg" 790 443,dr P "_law_quad" 801 450,dr P "_law_two_quads" 811 457,dr P "_law_holds" 829 464,dr P "_law_refused" 838 471,dr P "law" 857 478]
noncomputable def Fm(P:Params):Obj:={ cls:=Value.type "dict",data:=Data.dict ⟨AM P ++ (AC P ++ (zK P ++ (Am P ++ (An P ++ (AU P ++ (A5 P ++ (Aw P ++ (zr P ++ (Bj P)))))))))⟩ 78 }
noncomputable def Dg(P:Params):Obj:={ cls:=Value.type "dict",data:=Data.dict #[de P "__module__" 196 (Value.str (Str.ofString "rootpeg.errors") 187),de P "__firstlineno__" 200 (Value.int 2 199),dr P "__static_attributes__" 201 22,dr P "__weakref__" 203 25,de P "__doc__" 204 (Value.none)] 3 }
noncomputable def E8(P:Params):Obj:={ cls:=Value.type "type",data:=Data.cls { name:=Str.ofString "PegError",bases:=[Value.type "ValueError"],mro:=[Value.ref 24,Value.type "ValueError",Value.type "Exception",Value.type "BaseException",Value.type "object"],ns:=23,qualname:=Str.ofString "PegError",subclasses:=[Value.ref 37,Value.ref 49,Value.ref 61,Value.ref 73,Value.ref 85] },slots:=#[some (Value.ref 15),none,some (Value.str (Str.ofString "PegError") 189),some (Value.str (Str.ofString "PegError") 197),some (Value.builtin "ValueError.__new__"),some (Value.bool true)] }
noncomputable def Dc(P:Params):Obj:={ cls:=Value.type "dict",data:=Data.dict #[de P "__module__" 214 (Value.str (Str.ofString "rootpeg.errors") 187),de P "__firstlineno__" 218 (Value.int 4 217),dr P "__static_attributes__" 219 35,de P "__doc__" 220 (Value.none)] 2 }
noncomputable def Df(P:Params):Obj:={ cls:=Value.type "type",data:=Data.cls { name:=Str.ofString "NoPart",bases:=[Value.ref 24],mro:=[Value.ref 37,Value.ref 24,Value.type "ValueError",Value.type "Exception",Value.type "BaseException",Value.type "object"],ns:=36,qualname:=Str.ofString "NoPart" },slots:=#[some (Value.ref 28),none,some (Value.str (Str.ofString "NoPart") 207),some (Value.str (Str.ofString "NoPart") 215),some (Value.builtin "ValueError.__new__"),some (Value.bool true)] }
noncomputable def C0(P:Params):Obj:={ cls:=Value.type "dict",data:=Data.dict #[de P "__module__" 230 (Value.str (Str.ofString "rootpeg.errors") 187),de P "__firstlineno__" 234 (Value.int 6 233),dr P "__static_attributes__" 235 47,de P "__doc__" 236 (Value.none)] 2 }
noncomputable def ES(P:Params):Obj:={ cls:=Value.type "type",data:=Data.cls { name:=Str.ofString "NoRow",bases:=[Value.ref 24],mro:=[Value.ref 49,Value.ref 24,Value.type "ValueError",Value.type "Exception",Value.type "BaseException",Value.type "object"],ns:=48,qualname:=Str.ofString "NoRow" },slots:=#[some (Value.ref 40),none,some (Value.str (Str.ofString "NoRow") 223),some (Value.str (Str.ofString "NoRow") 231),some (Value.builtin "ValueError.__new__"),some (Value.bool true)] }
noncomputable def Ev(P:Params):Obj:={ cls:=Value.type "dict",data:=Data.dict #[de P "__module__" 246 (Value.str (Str.ofString "rootpeg.errors") 187),de P "__firstlineno__" 250 (Value.int 8 249),dr P "__static_attributes__" 251 59,de P "__doc__" 252 (Value.none)] 2 }
noncomputable def DD(P:Params):Obj:={ cls:=Value.type "type",data:=Data.cls { name:=Str.ofString "NoStretch",bases:=[Value.ref 24],mro:=[Value.ref 61,Value.ref 24,Value.type "ValueError",Value.type "Exception",Value.type "BaseException",Value.type "object"],ns:=60,qualname:=Str.ofString "NoStretch" },slots:=#[some (Value.ref 52),none,some (Value.str (Str.ofString "NoStretch") 239),some (Value.str (Str.ofString "NoStretch") 247),some (Value.builtin "ValueError.__new__"),some (Value.bool true)] }
noncomputable def ED(P:Params):Obj:={ cls:=Value.type "dict",data:=Data.dict #[de P "__module__" 262 (Value.str (Str.ofString "rootpeg.errors") 187),de P "__firstlineno__" 266 (Value.int 10 265),dr P "__static_attributes__" 267 71,de P "__doc__" 268 (Value.none)] 2 }
noncomputable def CN(P:Params):Obj:={ cls:=Value.type "type",data:=Data.cls { name:=Str.ofString "NotAlone",bases:=[Value.ref 24],mro:=[Value.ref 73,Value.ref 24,Value.type "ValueError",Value.type "Exception",Value.type "BaseException",Value.type "object"],ns:=72,qualname:=Str.ofString "NotAlone" },slots:=#[some (Value.ref 64),none,some (Value.str (Str.ofString "NotAlone") 255),some (Value.str (Str.ofString "NotAlone") 263),some (Value.builtin "ValueError.__new__"),some (Value.bool true)] }
noncomputable def EI(P:Params):Obj:={ cls:=Value.type "dict",data:=Data.dict #[de P "__module__" 278 (Value.str (Str.ofString "rootpeg.errors") 187),de P "__firstlineno__" 282 (Value.int 12 281),dr P "__static_attributes__" 283 83,de P "__doc__" 284 (Value.none)] 2 }
noncomputable def Dh(P:Params):Obj:={ cls:=Value.type "type",data:=Data.cls { name:=Str.ofString "NoQuotient",bases:=[Value.ref 24],mro:=[Value.ref 85,Value.ref 24,Value.type "ValueError",Value.type "Exception",Value.type "BaseException",Value.type "object"],ns:=84,qualname:=Str.ofString "NoQuotient" },slots:=#[some (Value.ref 76),none,some (Value.str (Str.ofString "NoQuotient") 271),some (Value.str (Str.ofString "NoQuotient") 279),some (Value.builtin "ValueError.__new__"),some (Value.bool true)] }
noncomputable def sM(P:Params):Obj:={ cls:=Value.type "tuple",data:=Data.seq #[Value.int 1 447,Value.int 2 448] }
noncomputable def sQ(P:Params):Obj:={ cls:=Value.type "tuple",data:=Data.seq #[Value.int 1 450,Value.int 4 451] }
noncomputable def uh(P:Params):Obj:={ cls:=Value.type "tuple",data:=Data.seq #[Value.int 0 502,Value.int 1 503] }
noncomputable def tj(P:Params):Obj:={ cls:=Value.type "tuple",data:=Data.seq #[Value.int 1 505,Value.int 1 506] }
noncomputable def A4(P:Params):Obj:={ cls:=Value.type "code",data:=Data.fields #[Value.str (Str.ofString "divided") 605,Value.str (Str.ofString "divided") 606,Value.str (Str.ofString "/claim/cut.py") 607,Value.int 243 0,Value.int 2 0,Value.int 0 0,Value.int 0 0,Value.int 3 0,Value.ref 309,Value.bool true,Value.int 181 0,Value.ref 310,Value.none,Value.ref 311,Value.ref 312,Value.ref 313,Value.int 613 0,Value.int 243 0,Value.str (Str.ofString "/claim/cut.py") 614] }
noncomputable def Ay(P:Params):Obj:=(fun (p:Arguments) (b:List Stmt) (s:Scope) (_:rK 49=(p,b,s))=>({ cls:=Value.type "function",data:=Data.func { name:=Str.ofString "divided",qualname:=Str.ofString "divided",params:=p,body:=.stmts b,scope:=s,globals:=3,closure:=[],defaults:=Value.none,kwdefaults:=Value.none,pyModule:=Value.str (Str.ofString "rootpeg.sums") 500,code:=Value.ref 314 } }:Obj)) _ _ _ rfl
noncomputable def A9(P:Params):Obj:={ cls:=Value.type "code",data:=Data.fields #[Value.str (Str.ofString "_law_refused") 830,Value.str (Str.ofString "_law_refused") 831,Value.str (Str.ofString "/claim/cut.py") 832,Value.int 404 0,Value.int 2 0,Value.int 0 0,Value.int 0 0,Value.int 3 0,Value.ref 465,Value.bool true,Value.int 181 0,Value.ref 466,Value.none,Value.ref 467,Value.ref 468,Value.ref 469,Value.int 836 0,Value.int 404 0,Value.str (Str.ofString "/claim/cut.py") 837] }
noncomputable def zB(P:Params):Obj:=(fun (p:Arguments) (b:List Stmt) (s:Scope) (_:rK 74=(p,b,s))=>({ cls:=Value.type "function",data:=Data.func { name:=Str.ofString "_law_refused",qualname:=Str.ofString "_law_refused",params:=p,body:=.stmts b,scope:=s,globals:=3,closure:=[],defaults:=Value.none,kwdefaults:=Value.none,pyModule:=Value.str (Str.ofString "law_uf020007_11") 616,code:=Value.ref 470 } }:Obj)) _ _ _ rfl
noncomputable def K11:Params->Frag:=fun P=>[(nat_lit 3,Fm P),(nat_lit 23,Dg P),(nat_lit 24,E8 P),(nat_lit 36,Dc P),(nat_lit 37,Df P),(nat_lit 48,C0 P),(nat_lit 49,ES P),(nat_lit 60,Ev P),(nat_lit 61,DD P),(nat_lit 72,ED P),(nat_lit 73,CN P),(nat_lit 84,EI P),(nat_lit 85,Dh P),(nat_lit 206,sM P),(nat_lit 207,sQ P),(nat_lit 243,uh P),(nat_lit 244,tj P),(nat_lit 314,A4 P),(nat_lit 315,Ay P),(nat_lit 470,A9 P),(nat_lit 471,zB P)]
noncomputable def as11:List Addr:=[3,23,24,36,37,48,49,60,61,72,73,84,85,206,207,243,244,314,315,470,471]
theorem Em(w:World)(os:OsState):(r5 PySem.Challenge.pw_uf020007_11 11 (some (.ref 6)) 4500 w os).map (fun s=>((staticsOk (importedModules PySem.Challenge.pw_uf020007_11.main.body) (boot_heap w.params) s.abs.heap && namesBound PySem.Challenge.pw_uf020007_11 s.abs.heap && gensDone s.abs && laidKept (boot_heap w.params) s.abs.heap),(fun s=>as11.map s.heap.get?) s.abs))=some (true,(K11 w.params).map fun p=>some p.2):=by kernel_rfl
theorem De(w:World)(os:OsState):(r5 PySem.Challenge.pw_uf020007_11 11 (some (.ref 6)) 4500 w os).map (fun s=>(openSeen fN [] (importedModules PySem.Challenge.pw_uf020007_11.main.body) (fun s=>xlAt fN [] s && recOk (RowW.records PySem.Challenge.rw_uf020007_11.row.toRowW) s) true s.abs).1)=some (openGood fN []).1:=by kernel_rfl
theorem DI(w:World)(os:OsState):(r5 PySem.Challenge.pw_uf020007_11 11 (some (.ref 6)) 4500 w os).map (fun s=>(openSeen fN [] (importedModules PySem.Challenge.pw_uf020007_11.main.body) (fun s=>xlAt fN [] s && recOk (RowW.records PySem.Challenge.rw_uf020007_11.row.toRowW) s) true s.abs).2)=some (openGood fN []).2:=by kernel_rfl
theorem Db:LeftO PySem.Challenge.pw_uf020007_11 fN [] (fun s=>xlAt fN [] s && recOk (RowW.records PySem.Challenge.rw_uf020007_11.row.toRowW) s) (fun s=>as11.map s.heap.get?) (fun w=>(K11 w.params).map fun p=>some p.2) 4500:=
 vd (by kernel_rfl) (by kernel_rfl) (fun s=>by kernel_rfl) vh Em De DI
end Mine
end
namespace Mine
inductive LX where
 |v (i:Nat)
 |n (k:Nat)
 |a (x y:LX)
 |m (k:Nat) (x:LX)
 |r (x:LX) (k:Nat)
 |s (x y:LX)
 |g (x:LX)
 |c (x:LX)
instance(n:Nat):OfNat LX n:=⟨.n (OfNat.ofNat n)⟩
instance:Add LX:=⟨.a⟩
theorem owk{a b c:Nat}(k:b<=c)(h:a<=b):a<=c:=Hj h k
noncomputable abbrev Y0:LX:=.v 0
noncomputable abbrev Y1:LX:=.v 1
noncomputable abbrev Y2:LX:=.v 2
noncomputable abbrev Y3:LX:=.v 3
noncomputable abbrev Y4:LX:=.v 4
noncomputable abbrev Y5:LX:=.v 5
noncomputable abbrev Y6:LX:=.v 6
noncomputable abbrev Y7:LX:=.v 7
noncomputable abbrev Y8:LX:=.v 8
noncomputable def LX.den(c:List Nat):LX->Nat
 | .v i=>c.getD i 0
 | .n k=>k
 | .a x y=>x.den c+y.den c
 | .m k x=>k*x.den c
 | .r x k=>x.den c*k
 | .s _ _=>0
 | .g _=>0
 | .c _=>0
noncomputable def LX.di(c:List Nat)(d:List Int):LX->Int
 | .v i=>d.getD i 0
 | .n k=>(k:Int)
 | .a x y=>x.di c d+y.di c d
 | .m k x=>(k:Int)*x.di c d
 | .r x k=>x.di c d*(k:Int)
 | .s x y=>x.di c d-y.di c d
 | .g x=>- x.di c d
 | .c x=>((x.den c:Nat):Int)
noncomputable def adz:List Int->List Int->List Int
 | [],ys=>ys
 |x::xs,[]=>x::xs
 |x::xs,y::ys=>(x+y)::adz xs ys
noncomputable def smz(k:Int)(xs:List Int):List Int:=xs.map (k*·)
noncomputable def unz:Nat->List Int
 |0=>[1]
 |i+1=>0::unz i
noncomputable def dtz:List Int->List Int->Int
 | [],_=>0
 |_::_,[]=>0
 |k::r,x::c=>k*x+dtz r c
theorem rz:∀ (xs ys c:List Int),dtz (adz xs ys) c=dtz xs c+dtz ys c
 | [],_,_=>(IK _).symm
 |_::_,[],_=>(HO _).symm
 |_::_,_::_,[]=>rfl
 |x::xs,y::ys,z::c=>by
  show (x+y)*z+dtz (adz xs ys) c=x*z+dtz xs c+(y*z+dtz ys c)
  rw[rz xs ys c,Int.add_mul,JQ,JQ,Int.add_left_comm (y*z)]
theorem qD(k:Int):∀ (xs c:List Int),dtz (smz k xs) c=k*dtz xs c
 | [],_=>(HS k).symm
 |_::_,[]=>(HS k).symm
 |x::xs,z::c=>by
  show k*x*z+dtz (smz k xs) c=k*(x*z+dtz xs c)
  rw[qD k xs c,Int.mul_add,II]
theorem qK:∀ (i:Nat) (c:List Int),dtz (unz i) c=c.getD i 0
 |0,[]=>rfl
 |_+1,[]=>rfl
 |0,x::c=>by show 1*x+dtz [] c=x;rw[Ip];exact HO _
 |i+1,x::c=>by show 0*x+dtz (unz i) c=_;rw[qK i c,IL,IK];rfl
abbrev P2:=List Int × List Int
noncomputable def adp(x y:P2):P2:=(adz x.1 y.1,adz x.2 y.2)
noncomputable def smp(k:Int)(x:P2):P2:=(smz k x.1,smz k x.2)
noncomputable def evw(c:List Nat)(d:List Int)(x:P2):Int:=dtz x.1 (1::c.map Int.ofNat)+dtz x.2 d
theorem jg(c:List Nat)(d:List Int)(x y:P2):evw c d (adp x y)=evw c d x+evw c d y:=by
 show dtz (adz x.1 y.1) _+dtz (adz x.2 y.2) d=dtz x.1 _+dtz x.2 d+(dtz y.1 _+dtz y.2 d)
 rw[rz,rz,JQ,JQ,Int.add_left_comm (dtz y.1 _)]
theorem gC(c:List Nat)(d:List Int)(k:Int)(x:P2):evw c d (smp k x)=k*evw c d x:=by
 show dtz (smz k x.1) _+dtz (smz k x.2) d=k*(dtz x.1 _+dtz x.2 d)
 rw[qD,qD,Int.mul_add]
noncomputable def LX.nf:LX->P2
 | .v i=>(0::unz i,[])
 | .n k=>([(k:Int)],[])
 | .a x y=>adp x.nf y.nf
 | .m k x=>smp k x.nf
 | .r x k=>smp k x.nf
 | .s _ _=>([],[])
 | .g _=>([],[])
 | .c _=>([],[])
noncomputable def LX.ni:LX->P2
 | .v i=>([],unz i)
 | .n k=>([(k:Int)],[])
 | .a x y=>adp x.ni y.ni
 | .m k x=>smp k x.ni
 | .r x k=>smp k x.ni
 | .s x y=>adp x.ni (smp (-1) y.ni)
 | .g x=>smp (-1) x.ni
 | .c x=>x.nf
theorem pH:∀ (c:List Nat) (i:Nat),(c.map Int.ofNat).getD i 0=((c.getD i 0:Nat):Int)
 | [],_=>rfl
 |_::_,0=>rfl
 |_::c,i+1=>pH c i
theorem B6(c:List Nat)(d:List Int)(k:Nat):evw c d ([(k:Int)],[])=(k:Int):=by
 show (k:Int)*1+0+0=k
 rw[HO,HO,Id]
theorem fz(c:List Nat)(d:List Int):∀e:LX,evw c d e.nf=(e.den c:Int)
 | .v i=>by
  show 0*1+dtz (unz i) (c.map Int.ofNat)+0=_
  rw[qK,pH,IL,IK,HO];rfl
 | .n k=>B6 c d k
 | .a x y=>(jg c d _ _).trans (by rw[fz c d x,fz c d y];exact (Int.natCast_add _ _).symm)
 | .m k x=>(gC c d _ _).trans (by rw[fz c d x];exact (Ij _ _).symm)
 | .r x k=>(gC c d _ _).trans (by rw[fz c d x,Ir];exact (Ij _ _).symm)
 | .s _ _=>rfl
 | .g _=>rfl
 | .c _=>rfl
theorem eT(c:List Nat)(d:List Int):∀e:LX,evw c d e.ni=e.di c d
 | .v i=>by show 0+dtz (unz i) d=_;rw[qK,IK];rfl
 | .n k=>B6 c d k
 | .a x y=>(jg c d _ _).trans (by rw[eT c d x,eT c d y];rfl)
 | .m k x=>(gC c d _ _).trans (by rw[eT c d x];rfl)
 | .r x k=>(gC c d _ _).trans (by rw[eT c d x,Ir];rfl)
 | .s x y=>(jg c d _ _).trans (by rw[gC,eT c d x,eT c d y,Iy,Ip];rfl)
 | .g x=>(gC c d _ _).trans (by rw[eT c d x,Iy,Ip];rfl)
 | .c x=>fz c d x
inductive QX where
 |le (x y:LX)
 |eq (x y:LX)
 |il (x y:LX)
 |ie (x y:LX)
 |an (p q:QX)
 |or (p q:QX)
 |no (p:QX)
 |ff
noncomputable def osb(a b s:LX):QX:=.or (.an (.le b a) (.eq a (.a s b))) (.an (.le a b) (.eq s (.n 0)))
noncomputable def otn(z n:LX):QX:=.or (.an (.il (.n 0) z) (.ie (.c n) z)) (.an (.il z (.n 0)) (.eq n (.n 0)))
noncomputable def ona(z n:LX):QX:=.or (.an (.il (.n 0) z) (.ie (.c n) z)) (.an (.il z (.n 0)) (.ie (.c n) (.g z)))
noncomputable def QX.den(c:List Nat)(d:List Int):QX->Prop
 | .le x y=>x.den c<=y.den c
 | .eq x y=>x.den c=y.den c
 | .il x y=>x.di c d<=y.di c d
 | .ie x y=>x.di c d=y.di c d
 | .an p q=>p.den c d/\q.den c d
 | .or p q=>p.den c d\/q.den c d
 | .no p=>¬ p.den c d
 | .ff=>False
noncomputable def ct(k:Int)(x y:P2):P2:=adp (adp y (smp (-1) x)) ([-k],[])
theorem mA(c:List Nat)(d:List Int)(k:Int)(x y:P2)(h:evw c d x+k<=evw c d y):0<=evw c d (ct k x y):=by
 have h1:evw c d (ct k x y)=evw c d y-(evw c d x+k):=by
  unfold ct
  rw[jg,jg,gC,Iy,Ip,show evw c d ([-k],[])=-k from (by show -k*1+0+0=-k;rw[HO,HO,Id])]
  rw[Int.sub_eq_add_neg,Int.neg_add,JQ]
 rw[h1];exact Int.sub_nonneg_of_le h
noncomputable def AB(A B:List (List P2)):List (List P2):=A.flatMap fun a=>B.map (a++·)
noncomputable def leD(x y:P2):Bool->List (List P2)
 |true=>[[ct 0 x y]]
 |false=>[[ct 1 y x]]
noncomputable def eqD(x y:P2):Bool->List (List P2)
 |true=>[[ct 0 x y,ct 0 y x]]
 |false=>[[ct 1 x y],[ct 1 y x]]
noncomputable def QX.dnf:QX->Bool->List (List P2)
 | .le x y,b=>leD x.nf y.nf b
 | .eq x y,b=>eqD x.nf y.nf b
 | .il x y,b=>leD x.ni y.ni b
 | .ie x y,b=>eqD x.ni y.ni b
 | .an p q,true=>AB (p.dnf true) (q.dnf true)
 | .an p q,false=>p.dnf false++q.dnf false
 | .or p q,true=>p.dnf true++q.dnf true
 | .or p q,false=>AB (p.dnf false) (q.dnf false)
 | .no p,b=>p.dnf (!b)
 | .ff,true=>[]
 | .ff,false=>[[]]
noncomputable def Gd(c:List Nat)(d:List Int)(D:List (List P2)):Prop:=∃cs,cs∈D/\∀f,f∈cs->0<=evw c d f
theorem Gd.l{c:List Nat}{d:List Int}{A B:List (List P2)}:Gd c d A->Gd c d (A++B)
 | ⟨x,h,k⟩=>⟨x,JR _ h,k⟩
theorem Gd.r{c:List Nat}{d:List Int}{A B:List (List P2)}:Gd c d B->Gd c d (A++B)
 | ⟨x,h,k⟩=>⟨x,List.mem_append_right _ h,k⟩
theorem Gd.mul{c:List Nat}{d:List Int}{A B:List (List P2)}:Gd c d A->Gd c d B->Gd c d (AB A B)
 | ⟨x,h,k⟩,⟨y,h',k'⟩=>⟨x++y,List.mem_flatMap.mpr ⟨x,h,HP.mpr ⟨y,h',rfl⟩⟩,fun f hf=>(Ik.mp hf).elim (k f) (k' f)⟩
theorem Gd.one{c:List Nat}{d:List Int}{f:P2}(h:0<=evw c d f):Gd c d [[f]]:=
 ⟨[f],Iw.mpr rfl,fun g hg=>Iw.mp hg ▸ h⟩
theorem leD_ok{c:List Nat}{d:List Int}{x y:P2}:(evw c d x<=evw c d y->Gd c d (leD x y true))/\(¬ evw c d x<=evw c d y->Gd c d (leD x y false)):=
 ⟨fun h=>Gd.one (mA _ _ _ _ _ ((HO _).symm ▸ h)),fun h=>Gd.one (mA _ _ _ _ _ (IT.mp h))⟩
theorem eqD_ok{c:List Nat}{d:List Int}{x y:P2}:(evw c d x=evw c d y->Gd c d (eqD x y true))/\(¬ evw c d x=evw c d y->Gd c d (eqD x y false)):=
 ⟨fun h=>Gd.mul (Gd.one (mA _ _ _ _ _ (Int.le_of_eq ((HO _).trans h)))) (Gd.one (mA _ _ _ _ _ (Int.le_of_eq ((HO _).trans h.symm)))),
  fun h=>(Int.lt_or_lt_of_ne h).elim (fun h=>Gd.l (Gd.one (mA _ _ _ _ _ h)) (B:=[[ct 1 y x]])) (fun h=>Gd.r (Gd.one (mA _ _ _ _ _ h)) (A:=[[ct 1 x y]]))⟩
theorem d4(c:List Nat)(d:List Int):∀p:QX,(p.den c d->Gd c d (p.dnf true))/\(¬ p.den c d->Gd c d (p.dnf false))
 | .le x y=>⟨fun h=>leD_ok.1 (by rw[fz,fz];exact IO.mpr h),fun h=>leD_ok.2 (by rw[fz,fz];exact fun k=>h (IO.mp k))⟩
 | .eq x y=>⟨fun h=>eqD_ok.1 (by rw[fz,fz];exact congrArg Int.ofNat h),fun h=>eqD_ok.2 (by rw[fz,fz];exact fun k=>h (Int.ofNat.inj k))⟩
 | .il x y=>⟨fun h=>leD_ok.1 (by rw[eT,eT];exact h),fun h=>leD_ok.2 (by rw[eT,eT];exact h)⟩
 | .ie x y=>⟨fun h=>eqD_ok.1 (by rw[eT,eT];exact h),fun h=>eqD_ok.2 (by rw[eT,eT];exact h)⟩
 | .an p q=>⟨fun h=>Gd.mul ((d4 c d p).1 h.1) ((d4 c d q).1 h.2),fun h=>(Classical.em (p.den c d)).elim (fun k=>Gd.r ((d4 c d q).2 fun l=>h ⟨k,l⟩)) (fun k=>Gd.l ((d4 c d p).2 k))⟩
 | .or p q=>⟨fun h=>h.elim (fun k=>Gd.l ((d4 c d p).1 k)) (fun k=>Gd.r ((d4 c d q).1 k)),fun h=>Gd.mul ((d4 c d p).2 fun k=>h (.inl k)) ((d4 c d q).2 fun k=>h (.inr k))⟩
 | .no p=>⟨(d4 c d p).2,fun h=>(d4 c d p).1 (Classical.not_not.mp h)⟩
 | .ff=>⟨False.elim,fun _=>⟨[],Iw.mpr rfl,fun _ h=>nomatch h⟩⟩
noncomputable def cmb:List P2->List Nat->P2
 |f::fs,k::ks=>adp (smp k f) (cmb fs ks)
 |_,_=>([],[])
theorem yL{c:List Nat}{d:List Int}:∀ (fs:List P2) (ks:List Nat),(∀f,f∈fs->0<=evw c d f)->0<=evw c d (cmb fs ks)
 | [],_,_=>Kp _
 |_::_,[],_=>Kp _
 |f::fs,k::ks,h=>by
  show 0<=evw c d (adp (smp k f) (cmb fs ks))
  rw[jg,gC]
  exact Int.add_nonneg (Int.mul_nonneg (Ix k) (h f (Hy ..))) (yL fs ks fun g hg=>h g (Hz _ hg))
noncomputable def npz(g:List Int):Bool:=g.all fun k=>decide (k<=0)
noncomputable def zrz(g:List Int):Bool:=g.all fun k=>decide (k=0)
noncomputable def ngz:P2->Bool
 | ([],_)=>false
 | (k::r,s)=>decide (k+1<=0) && (npz r && zrz s)
theorem yw:∀ {g:List Int}{c:List Nat},npz g=true->dtz g (c.map Int.ofNat)<=0
 | [],_,_=>Kp _
 |_::_,[],_=>Kp _
 |k::r,x::c,h=>Int.add_nonpos (Int.mul_nonpos_of_nonpos_of_nonneg (of_decide_eq_true (HU.mp h).1) (Ix x)) (yw (HU.mp h).2)
theorem xL:∀ {g d:List Int},zrz g=true->dtz g d=0
 | [],_,_=>rfl
 |_::_,[],_=>rfl
 |k::r,x::c,h=>by
  show k*x+dtz r c=0
  rw[show k=0 from of_decide_eq_true (HU.mp h).1,xL (HU.mp h).2,IL];rfl
theorem CY{c:List Nat}{d:List Int}:∀ {x:P2},ngz x=true->¬ 0<=evw c d x
 | ([],_),h=>nomatch h
 | (k::r,s),h=>fun h0=>by
  have h1:=HU.mp h
  have h2:=HU.mp h1.2
  have h0:0<=k*1+dtz r (c.map Int.ofNat)+dtz s d:=h0
  rw[xL h2.2,HO,Id] at h0
  exact IT.mpr (Int.lt_of_lt_of_le (Int.lt_of_lt_of_le (Int.lt_succ k) (of_decide_eq_true h1.1)) (Kp 0)) (Il h0 (Il (Int.add_le_add_left (yw h2.1) k) (Int.le_of_eq (HO k))))
noncomputable def chk(D:List (List P2))(ks:List (List Nat)):Bool:=D.all fun cs=>ks.any fun k=>ngz (cmb cs k)
theorem Fc{c:List Nat}{d:List Int}(D:List (List P2))(ks:List (List Nat))(h:chk D ks=true):¬ Gd c d D
 | ⟨x,hx,hs⟩=>(List.any_eq_true.mp (Ki.mp h x hx)).elim fun k hk=>CY hk.2 (yL x k hs)
noncomputable def QX.all:List QX->List (List P2)->List (List P2)
 | [],D=>D
 |p::r,D=>QX.all r (AB D (p.dnf true))
noncomputable def Hyp(c:List Nat)(d:List Int):List QX->Prop->Prop
 | [],P=>P
 |p::r,P=>p.den c d->Hyp c d r P
theorem BC{c:List Nat}{d:List Int}{P:Prop}{ks:List (List Nat)}:∀ (hs:List QX) (D:List (List P2)),chk (QX.all hs D) ks=true->(¬ P->Gd c d D)->Hyp c d hs P
 | [],_,h,hp=>HW fun hn=>Fc _ _ h (hp hn)
 |p::r,_,h,hp=>fun h1=>BC r _ h fun hn=>Gd.mul (hp hn) ((d4 c d p).1 h1)
theorem om(c:List Nat)(d:List Int)(hs:List QX)(g:QX)(ks:List (List Nat))(h:chk (QX.all hs (g.dnf false)) ks=true):Hyp c d hs (g.den c d):=
 BC hs _ h (d4 c d g).2
noncomputable def dgs:Nat->Nat->List Nat
 |0,_=>[]
 |k+1,n=>bif Nat.beq n 0 then [] else n%10::dgs k (n/10)
theorem oqz(c:List Nat)(d:List Int)(hs:List QX)(g:QX)(ks:List Nat)(h:chk (QX.all hs (g.dnf false)) (ks.map (dgs 40))=true):Hyp c d hs (g.den c d):=om c d hs g _ h
theorem lin(c:List Nat)(hs:List (Nat × LX × LX))(x y:LX)(h:chk (QX.all (hs.map fun p=>.le p.2.1 p.2.2) (leD x.nf y.nf false)) [1::hs.map fun p=>p.1]=true):Hyp c [] (hs.map fun p=>.le p.2.1 p.2.2) (x.den c<=y.den c):=
 om c [] _ (.le x y) _ h
theorem am(a b:Nat):(b<=a/\a=(a-b)+b)\/(a<=b/\a-b=0):=
 (Nat.le_total b a).imp (fun h=>⟨h,(Nat.sub_add_cancel h).symm⟩) (fun h=>⟨h,Nat.sub_eq_zero_of_le h⟩)
theorem bm(z:Int):(0<=z/\(z.natAbs:Int)=z)\/(z<=0/\(z.natAbs:Int)=-z):=
 (Int.le_total 0 z).imp (fun h=>⟨h,Int.natAbs_of_nonneg h⟩) (fun h=>⟨h,Int.ofNat_natAbs_of_nonpos h⟩)
theorem aR(z:Int):(0<=z/\(z.toNat:Int)=z)\/(z<=0/\z.toNat=0):=
 (Int.le_total 0 z).imp (fun h=>⟨h,Int.toNat_of_nonneg h⟩) (fun h=>⟨h,Int.toNat_of_nonpos h⟩)
theorem oh(a b:Nat):(a<=b/\min a b=a)\/(b<=a/\min a b=b):=
 (Nat.le_total a b).imp (fun h=>⟨h,J2 h⟩) (fun h=>⟨h,JU h⟩)
theorem jo(a b:Nat):(b<=a/\max a b=a)\/(a<=b/\max a b=b):=
 (Nat.le_total b a).imp (fun h=>⟨h,Nat.max_eq_left h⟩) (fun h=>⟨h,Nat.max_eq_right h⟩)
theorem sk{α:Type}(p:Prop)[Decidable p](a b:α):(p/\(if p then a else b)=a)\/(¬ p/\(if p then a else b)=b):=
 (Decidable.em p).imp (fun h=>⟨h,if_pos h⟩) (fun h=>⟨h,if_neg h⟩)
theorem BP(a b:Nat)(h:0<b):a=b*(a / b)+a % b/\a % b+1<=b:=⟨(Nat.div_add_mod a b).symm,Nat.mod_lt a h⟩
theorem aX(a b:Nat):a<=(a-b)+b/\a-b<=a:=⟨Nat.sub_le_iff_le_add.mp (Ht _),Nat.sub_le a b⟩
theorem rB(a b:Nat):min a b<=a/\min a b<=b:=⟨JM a b,Kj a b⟩
theorem bo(z:Int):z<=(z.natAbs:Int)/\-z<=(z.natAbs:Int):=⟨Int.le_natAbs,Int.natAbs_neg z ▸ Int.le_natAbs⟩
end Mine
set_option genSizeOf false
set_option genInjectivity false
namespace Mine
open PySem
inductive V where
 |int (i:Int)
 |bool (b:Bool)
 |none
 |str (s:Str)
 |tup (xs:List V)
 |lst (n:Nat)
 |fn (k:Nat)
 |exc (k:Nat)
abbrev Hp:=List (List V)
abbrev Loc:=List (Option V)
inductive BOp where
 |add|sub|mul|fdiv|mod|pow
inductive COp where
 |lt|le|gt|ge|eq|ne|isin|notin|is
inductive Bi where
 |abs|len|int|list|tuple|min|listrev
inductive Ty where
 |int|bool|tuple|list|cls (k:Nat)
mutual
inductive PE where
 |cint (i:Int)
 |cbool (b:Bool)
 |cstr (s:Str)
 |var (i:Nat)
 |fnv (k:Nat)
 |glob (x:Str) (a b:Int)
 |bin (op:BOp) (a b:PE)
 |neg (a:PE)
 |nt (a:PE)
 |cmp (op:COp) (a b:PE)
 |and (es:PEs)
 |or (es:PEs)
 |call (f:Nat) (es:PEs)
 |callv (i f:Nat) (es:PEs)
 |bi (b:Bi) (es:PEs)
 |isi (a:PE) (ts:List Ty)
 |idx (a b:PE)
 |slc (a:PE) (lo hi:PO)
 |tup (es:PEs)
 |lst (es:PEs)
 |comp (elt:PE) (tg:Nat) (caps:List Nat) (it:PI) (cond:PO)
inductive PEs where
 |nil
 |cons (e:PE) (r:PEs)
inductive PO where
 |no
 |some (e:PE)
inductive PI where
 |seq (e:PE)
 |rev (e:PE)
 |rng (es:PEs)
end
inductive PS where
 |skip
 |seq (a b:PS)
 |assign (i:Nat) (e:PE)
 |unpack (xs:List Nat) (e:PE)
 |setidx (i:Nat) (k e:PE)
 |app (i:Nat) (e:PE)
 |pop (i:Nat)
 |rev (i:Nat)
 |ret (e:PE)
 |ite (c:PE) (a b:PS)
 |whl (c:PE) (b:PS)
 |forr (i:Nat) (it:PI) (b:PS)
 |raise (k:Nat)
 |opaq
 |iort (cs:List (Nat × PEs))
 |randt (cs:List (Nat × PEs))
noncomputable def ah:Loc->Nat->Option V
 | [],_=>none
 |x::_,0=>x
 |_::r,n+1=>ah r n
noncomputable def aE:Loc->Nat->V->Loc
 | [],_,_=>[]
 |_::r,0,v=>some v::r
 |x::r,n+1,v=>x::aE r n v
noncomputable def iC:Loc->List Nat->List V->Loc
 |ρ,i::is,v::vs=>iC (aE ρ i v) is vs
 |ρ,_,_=>ρ
noncomputable def items(H:Hp):V->Option (List V)
 | .tup xs=>some xs
 | .lst n=>H[n]?
 |_=>none
noncomputable def ba(H:Hp):V->Option Bool
 | .bool b=>some b
 | .int i=>some (i != 0)
 | .none=>some false
 | .tup xs=>some (!xs.isEmpty)
 | .lst n=>(H[n]?).map fun xs=>!xs.isEmpty
 |_=>none
noncomputable def cf(n:Nat)(k:Int):Option Nat:=
 if 0<=k then (if k<n then some k.toNat else none) else (if 0<=k+n then some (k+n).toNat else none)
noncomputable def cx(n:Nat)(k:Int):Nat:=
 (max 0 (min (if k<0 then k+n else k) n)).toNat
noncomputable def cut(xs:List V)(lo hi:Nat):List V:=(xs.take hi).drop lo
abbrev Call:=Nat->List V->Hp->(V->Hp->Prop)->(Nat->Hp->Prop)->Prop
noncomputable def lim:Nat:=1000000
noncomputable def ifSome{β:Type}(o:Option β)(P:β->Prop):Prop:=match o with
 |some v=>P v
 |none=>False
theorem aa{β:Type}{v:β}{P:β->Prop}:ifSome (some v) P=P v:=rfl
theorem ifSome.get{β:Type}{o:Option β}{P:β->Prop}(q:ifSome o P):∃v,o=some v/\P v:=by
 cases o with
 |none=>exact False.elim q
 |some v=>exact ⟨v,rfl,q⟩
theorem ifSome.mk{β:Type}{o:Option β}{P:β->Prop}{v:β}(e:o=some v)(q:P v):ifSome o P:=by rw[e];exact q
noncomputable def ifLst(o:Option V)(P:Nat->Prop):Prop:=match o with
 |some (.lst n)=>P n
 |_=>False
theorem cu{n:Nat}{P:Nat->Prop}:ifLst (some (.lst n)) P=P n:=rfl
theorem ifLst.get{o:Option V}{P:Nat->Prop}(q:ifLst o P):∃n,o=some (.lst n)/\P n:=by
 cases o with
 |none=>exact False.elim q
 |some v=>cases v <;> first|exact False.elim q|exact ⟨_,rfl,q⟩
noncomputable def ifTup(v:V)(P:List V->Prop):Prop:=match v with
 | .tup xs=>P xs
 |_=>False
theorem fG{xs:List V}{P:List V->Prop}:ifTup (.tup xs) P=P xs:=rfl
theorem ifTup.get{v:V}{P:List V->Prop}(q:ifTup v P):∃xs,v=.tup xs/\P xs:=by
 cases v <;> first|exact False.elim q|exact ⟨_,rfl,q⟩
noncomputable def ifInt(v:V)(P:Int->Prop):Prop:=match v with
 | .int i=>P i
 |_=>False
theorem gX{i:Int}{P:Int->Prop}:ifInt (.int i) P=P i:=rfl
theorem ifInt.get{v:V}{P:Int->Prop}(q:ifInt v P):∃i,v=.int i/\P i:=by
 cases v <;> first|exact False.elim q|exact ⟨_,rfl,q⟩
noncomputable def iK(b:Int):Prop:=b≠0
noncomputable def ifIL(v:V)(P:Int->Prop)(L:Nat->Prop):Prop:=match v with
 | .int i=>P i
 | .lst n=>L n
 |_=>False
theorem ifIL.get{v:V}{P:Int->Prop}{L:Nat->Prop}(q:ifIL v P L):(∃i,v=.int i/\P i)\/∃n,v=.lst n/\L n:=by
 cases v <;> first|exact False.elim q|exact .inl ⟨_,rfl,q⟩ |exact .inr ⟨_,rfl,q⟩
noncomputable def ifI2(x y:V)(P:Int->Int->Prop):Prop:=ifInt x fun a=>ifInt y fun b=>P a b
theorem ifI2.get{x y:V}{P:Int->Int->Prop}(q:ifI2 x y P):∃a b,x=.int a/\y=.int b/\P a b:=by
 obtain ⟨a,e,q⟩:=ifInt.get q
 obtain ⟨b,e',q⟩:=ifInt.get q
 exact ⟨a,b,e,e',q⟩
noncomputable def gj(op:BOp)(x y:V)(H:Hp)(Q:V->Hp->Prop):Prop:=
 match op with
 | .add=>ifIL x (fun a=>ifInt y fun b=>Q (.int (a+b)) H) fun m=>ifLst (some y) fun n=>ifSome H[m]? fun xs=>ifSome H[n]? fun ys=>xs.length+ys.length<=lim/\Q (.lst H.length) (H++[xs++ys])
 | .sub=>ifI2 x y fun a b=>Q (.int (a-b)) H
 | .mul=>ifIL x (fun a=>ifInt y fun b=>IntMulOk a b/\Q (.int (a*b)) H) fun m=>ifInt y fun k=>∃x,H[m]?=some [x]/\0<=k/\k<=lim/\Q (.lst H.length) (H++[List.replicate k.toNat x])
 | .fdiv=>ifI2 x y fun a b=>iK b/\Q (.int (a.fdiv b)) H
 | .mod=>ifI2 x y fun a b=>b≠0/\Q (.int (a.fmod b)) H
 | .pow=>ifI2 x y fun a b=>0<=b/\b<=1000/\a.natAbs<2^64/\Q (.int (a^b.toNat)) H
noncomputable def uX(H:Hp)(x:V)(d:PyData):Prop:=
 (∃cs:List Int,x=.tup (cs.map .int)/\d=.tuple (cs.map .int))\/(∃k,∃cs:List Int,x=.lst k/\H[k]?=some (cs.map .int)/\d=.list (cs.map .int))
noncomputable def sv(x y:V)(H:Hp)(Q:Bool->Prop):Prop:=
 ∃da db,uX H x da/\uX H y db/\Q (PyData.eqv da db)
noncomputable def ifIO(v:V)(P:Int->Prop)(D:Prop):Prop:=match v with
 | .int i=>P i
 |_=>D
theorem ifIO.get{v:V}{P:Int->Prop}{D:Prop}(q:ifIO v P D):(∃i,v=.int i/\P i)\/D:=by
 cases v <;> first|exact .inr q|exact .inl ⟨_,rfl,q⟩
noncomputable def isN(x:V):Bool:=match x with | .none=>true|_=>false
noncomputable def ifNo(v:V)(P:Prop):Prop:=match v with
 | .none=>P
 |_=>False
theorem ifNo.get{v:V}{P:Prop}(q:ifNo v P):v=.none/\P:=by
 cases v <;> first|exact False.elim q|exact ⟨rfl,q⟩
noncomputable def fH(op:COp)(x y:V)(H:Hp)(Q:V->Hp->Prop):Prop:=
 match op with
 | .lt=>ifI2 x y fun a b=>Q (.bool (decide (a<b))) H
 | .le=>ifI2 x y fun a b=>Q (.bool (decide (a<=b))) H
 | .gt=>ifI2 x y fun a b=>Q (.bool (decide (b<a))) H
 | .ge=>ifI2 x y fun a b=>Q (.bool (decide (b<=a))) H
 | .eq=>ifIO x (fun a=>ifInt y fun b=>Q (.bool (decide (a=b))) H) (sv x y H fun b=>Q (.bool b) H)
 | .ne=>ifIO x (fun a=>ifInt y fun b=>Q (.bool (!decide (a=b))) H) (sv x y H fun b=>Q (.bool (!b)) H)
 | .is=>ifNo y (Q (.bool (isN x)) H)
 |_=>False
noncomputable def if1(vs:List V)(P:V->Prop):Prop:=match vs with
 | [x]=>P x
 |_=>False
theorem if1.get{vs:List V}{P:V->Prop}(q:if1 vs P):∃x,vs=[x]/\P x:=by
 rcases vs with _ | ⟨x,_ | ⟨_,_⟩⟩ <;> first|exact False.elim q|exact ⟨_,rfl,q⟩
noncomputable def if2(vs:List V)(P:V->V->Prop):Prop:=match vs with
 | [x,y]=>P x y
 |_=>False
theorem if2.get{vs:List V}{P:V->V->Prop}(q:if2 vs P):∃x y,vs=[x,y]/\P x y:=by
 rcases vs with _ | ⟨x,_ | ⟨y,_ | ⟨_,_⟩⟩⟩ <;> first|exact False.elim q|exact ⟨_,_,rfl,q⟩
noncomputable def ifBo(v:V)(P:Bool->Prop):Prop:=match v with
 | .bool b=>P b
 |_=>False
theorem ifBo.get{v:V}{P:Bool->Prop}(q:ifBo v P):∃b,v=.bool b/\P b:=by
 cases v <;> first|exact False.elim q|exact ⟨_,rfl,q⟩
noncomputable def kO(b:Bi)(vs:List V)(H:Hp)(Q:V->Hp->Prop):Prop:=
 match b with
 | .abs=>if1 vs fun x=>ifInt x fun a=>Q (.int (if a<0 then -a else a)) H
 | .len=>if1 vs fun x=>ifSome (items H x) fun xs=>Q (.int xs.length) H
 | .int=>if1 vs fun x=>ifBo x fun b=>Q (.int (if b then 1 else 0)) H
 | .list=>if1 vs fun x=>ifSome (items H x) fun xs=>Q (.lst H.length) (H++[xs])
 | .tuple=>if1 vs fun x=>ifSome (items H x) fun xs=>Q (.tup xs) H
 | .listrev=>if1 vs fun x=>∃xs,x=.tup xs/\Q (.lst H.length) (H++[xs.reverse])
 | .min=>if2 vs fun x y=>ifI2 x y fun a b=>Q (.int (if b<a then b else a)) H
noncomputable def zy(sub:Nat->Nat->Bool)(v:V)(t:Ty):Option Bool:=
 match v,t with
 | .exc c,.cls k=>some (sub c k)
 | .exc _,_=>none
 | .fn _,_=>none
 |_,.cls _=>none
 | .int _,.int=>some true
 | .bool _,.int=>some true
 | .bool _,.bool=>some true
 | .tup _,.tuple=>some true
 | .lst _,.list=>some true
 |_,_=>some false
noncomputable def d8(x y:V)(H:Hp)(Q:V->Hp->Prop):Prop:=
 ifInt y fun k=>ifSome (items H x) fun xs=>ifSome (cf xs.length k) fun i=>ifSome xs[i]? fun v=>Q v H
noncomputable def endAt(n d:Nat)(o:Option V):Option Nat:=match o with
 |none=>some d
 |some (.int a)=>some (cx n a)
 |_=>none
theorem endAt.get{n d a:Nat}{o:Option V}(h:endAt n d o=some a):(o=none/\a=d)\/∃i,o=some (.int i)/\a=cx n i:=by
 cases o with
 |none=>cases h;exact .inl ⟨rfl,rfl⟩
 |some v=>cases v <;> cases h;exact .inr ⟨_,rfl,rfl⟩
noncomputable def sJ(n:Nat)(lo hi:Option V):Option (Nat × Nat):=(endAt n 0 lo).bind fun a=>(endAt n n hi).map fun b=>(a,b)
noncomputable def mL(x:V)(lo hi:Option V)(H:Hp)(Q:V->Hp->Prop):Prop:=
 ifLst (some x) fun n=>ifSome H[n]? fun xs=>ifSome (sJ xs.length lo hi) fun p=>Q (.lst H.length) (H++[cut xs p.1 p.2])
noncomputable def dM(a b c:Int):List Int:=(List.range (Builtin.Range.rangeSize a b c).toNat).map fun (i:Nat)=>a+c*(i:Int)
noncomputable def cG(a:Int):Prop:=-(2^40)<a/\a<2^40
noncomputable def toI(v:V):Option Int:=match v with
 | .int i=>some i
 |_=>none
theorem toI.get{v:V}{i:Int}(h:toI v=some i):v=.int i:=by
 cases v <;> cases h;rfl
noncomputable def vints:List V->Option (List Int)
 | []=>some []
 |v::r=>(toI v).bind fun i=>(vints r).map fun l=>i::l
theorem vints.get:∀ {vs:List V}{l:List Int},vints vs=some l->vs=l.map .int
 | [],_,h=>by cases h;rfl
 |v::r,_,h=>by
  obtain ⟨i,h1,h2⟩:=Jg.mp h
  obtain ⟨l,h3,e⟩:=Jl.mp h2
  subst e
  rw[toI.get h1,vints.get h3];rfl
noncomputable def G4(l:List Int):Option (Int × Int × Int):=match l with
 | [b]=>some (0,b,1)
 | [a,b]=>some (a,b,1)
 | [a,b,c]=>some (a,b,c)
 |_=>none
noncomputable def B4(vs:List V):Option (Int × Int × Int):=(vints vs).bind G4
noncomputable def oN(vs:List V)(H:Hp)(Q:List V->Option Nat->Hp->Prop):Prop:=
 ∃a b c,B4 vs=some (a,b,c)/\cG a/\cG b/\(c=1\/c=-1\/c=2)/\Q ((dM a b c).map V.int) none H
noncomputable def jL:V->Option Nat
 | .lst n=>some n
 |_=>none
noncomputable def dm(step:V->Hp->(Option V->Hp->Prop)->Prop):List V->Hp->(List V->Hp->Prop)->Prop
 | [],H,Q=>Q [] H
 |x::xs,H,Q=>step x H fun o H1=>dm step xs H1 fun ys H2=>Q (match o with|some y=>y::ys|none=>ys) H2
noncomputable def mH(tg:Nat)(x:V):Option Loc:=
 match tg,x with
 |1,x=>some [some x]
 |2,.tup [a,b]=>some [some a,some b]
 |_,_=>none
section
variable (sub:Nat->Nat->Bool)(Φ:Call)
mutual
noncomputable def wpE:PE->Loc->Hp->(V->Hp->Prop)->Prop
 | .cint i,_,H,Q=>Q (.int i) H
 | .cbool b,_,H,Q=>Q (.bool b) H
 | .cstr s,_,H,Q=>Q (.str s) H
 | .var i,ρ,H,Q=>ifSome (ah ρ i) fun v=>Q v H
 | .fnv k,_,H,Q=>Q (.fn k) H
 | .glob _ a b,_,H,Q=>Q (.tup [.int a,.int b]) H
 | .bin op a b,ρ,H,Q=>wpE a ρ H fun x H1=>wpE b ρ H1 fun y H2=>gj op x y H2 Q
 | .neg a,ρ,H,Q=>wpE a ρ H fun x H1=>match x with | .int i=>Q (.int (-i)) H1|_=>False
 | .nt a,ρ,H,Q=>wpE a ρ H fun x H1=>ifSome (ba H1 x) fun t=>Q (.bool (!t)) H1
 | .cmp op a b,ρ,H,Q=>wpE a ρ H fun x H1=>wpE b ρ H1 fun y H2=>fH op x y H2 Q
 | .and es,ρ,H,Q=>cF true es ρ H Q
 | .or es,ρ,H,Q=>cF false es ρ H Q
 | .call f es,ρ,H,Q=>et es ρ H fun vs H1=>Φ f vs H1 Q fun _ _=>False
 | .callv i f es,ρ,H,Q=>ifSome (ah ρ i) fun v=>∃k,(k=f\/k=f+1)/\v=.fn k/\et es ρ H fun vs H1=>Φ k vs H1 Q fun _ _=>False
 | .bi b es,ρ,H,Q=>et es ρ H fun vs H1=>kO b vs H1 Q
 | .isi a ts,ρ,H,Q=>wpE a ρ H fun x H1=>ifSome (ts.mapM (zy sub x)) fun bs=>Q (.bool (bs.any id)) H1
 | .idx a b,ρ,H,Q=>wpE a ρ H fun x H1=>wpE b ρ H1 fun y H2=>d8 x y H2 Q
 | .slc a lo hi,ρ,H,Q=>wpE a ρ H fun x H1=>wpO lo ρ H1 fun l H2=>wpO hi ρ H2 fun h H3=>mL x l h H3 Q
 | .tup es,ρ,H,Q=>et es ρ H fun vs H1=>Q (.tup vs) H1
 | .lst es,ρ,H,Q=>et es ρ H fun vs H1=>Q (.lst H1.length) (H1++[vs])
 | .comp elt tg caps it cond,ρ,H,Q=>wpI it ρ H fun xs _ H1=>xs.length<=lim/\dm (fun x H2 k=>ifSome (mH tg x) fun ρt =>
   wpO cond (ρt++caps.map (ah ρ)) H2 fun c H3=>ifSome (match c with|some c=>ba H3 c|none=>some true) fun t =>
    if t then wpE elt (ρt++caps.map (ah ρ)) H3 fun y H4=>k (some y) H4 else k none H3) xs H1 fun ys H5=>Q (.lst H5.length) (H5++[ys])
noncomputable def et:PEs->Loc->Hp->(List V->Hp->Prop)->Prop
 | .nil,_,H,Q=>Q [] H
 | .cons e r,ρ,H,Q=>wpE e ρ H fun v H1=>et r ρ H1 fun vs H2=>Q (v::vs) H2
noncomputable def cF(b:Bool):PEs->Loc->Hp->(V->Hp->Prop)->Prop
 | .nil,_,_,_=>False
 | .cons e .nil,ρ,H,Q=>wpE e ρ H Q
 | .cons e r,ρ,H,Q=>wpE e ρ H fun v H1=>ifSome (ba H1 v) fun t=>if t=b then cF b r ρ H1 Q else Q v H1
noncomputable def wpO:PO->Loc->Hp->(Option V->Hp->Prop)->Prop
 | .no,_,H,Q=>Q none H
 | .some e,ρ,H,Q=>wpE e ρ H fun v H1=>Q (some v) H1
noncomputable def wpI:PI->Loc->Hp->(List V->Option Nat->Hp->Prop)->Prop
 | .seq e,ρ,H,Q=>wpE e ρ H fun v H1=>ifSome (items H1 v) fun xs=>Q xs (jL v) H1
 | .rev e,ρ,H,Q=>wpE e ρ H fun v H1=>ifSome (items H1 v) fun xs=>Q xs.reverse (jL v) H1
 | .rng es,ρ,H,Q=>et es ρ H fun vs H1=>oN vs H1 Q
end
noncomputable def cY(body:Loc->Hp->(Loc->Hp->Prop)->Prop)(i:Nat):List V->Loc->Hp->(Loc->Hp->Prop)->Prop
 | [],ρ,H,N=>N ρ H
 |x::xs,ρ,H,N=>body (aE ρ i x) H fun ρ' H'=>cY body i xs ρ' H' N
noncomputable def nC(W:Nat->Prop)(ρ:Loc)(H:Hp)(i:Nat)(Q:Nat->List V->Prop):Prop:=
 ifLst (ah ρ i) fun n=>W n/\ifSome H[n]? fun xs=>Q n xs
noncomputable def wpT:List (Nat × PEs)->Loc->Hp->(V->Hp->Prop)->Prop
 | [],_,H,R=>R (.bool true) H
 |c::r,ρ,H,R=>et sub Φ c.2 ρ H fun vs H1=>Φ (c.1+1000) vs H1 (fun v H2=>v=.bool true/\wpT r ρ H2 R) fun _ _=>False
noncomputable def wpS:(Nat->Prop)->PS->Loc->Hp->(Loc->Hp->Prop)->(V->Hp->Prop)->(Nat->Hp->Prop)->Prop
 |_,.skip,ρ,H,N,_,_=>N ρ H
 |W,.seq a b,ρ,H,N,R,X=>wpS W a ρ H (fun ρ1 H1=>wpS W b ρ1 H1 N R X) R X
 |_,.assign i e,ρ,H,N,_,_=>wpE sub Φ e ρ H fun v H1=>N (aE ρ i v) H1
 |_,.unpack is e,ρ,H,N,_,_=>wpE sub Φ e ρ H fun v H1=>ifTup v fun vs=>vs.length=is.length/\N (iC ρ is vs) H1
 |W,.setidx i k e,ρ,H,N,_,_=>wpE sub Φ e ρ H fun v H1=>ifLst (ah ρ i) fun n=>W n/\wpE sub Φ k ρ H1 fun kv H2=>ifInt kv fun j=>ifSome H2[n]? fun xs =>
   ifSome (cf xs.length j) fun p=>N ρ (H2.set n (xs.set p v))
 |W,.app i e,ρ,H,N,_,_=>ifLst (ah ρ i) fun n=>W n/\wpE sub Φ e ρ H fun v H1=>ifSome H1[n]? fun xs=>xs.length<lim/\N ρ (H1.set n (xs++[v]))
 |W,.pop i,ρ,H,N,_,_=>nC W ρ H i fun n xs=>∃ys k,xs=ys++[.int k]/\N ρ (H.set n ys)
 |W,.rev i,ρ,H,N,_,_=>nC W ρ H i fun n xs=>N ρ (H.set n xs.reverse)
 |_,.ret e,ρ,H,_,R,_=>wpE sub Φ e ρ H R
 |W,.ite c a b,ρ,H,N,R,X=>wpE sub Φ c ρ H fun v H1=>ifSome (ba H1 v) fun t=>if t then wpS W a ρ H1 N R X else wpS W b ρ H1 N R X
 |W,.whl c b,ρ,H,N,R,_=>∃ (I:Loc->Hp->Prop) (μ:Loc->Hp->Nat),I ρ H/\∀ρ1 H1,I ρ1 H1->wpE sub Φ c ρ1 H1 fun v H2=>ifSome (ba H2 v) fun t =>
   if t then wpS W b ρ1 H2 (fun ρ3 H3=>I ρ3 H3/\μ ρ3 H3<μ ρ1 H1) R (fun _ _=>False) else N ρ1 H2
 |W,.forr i it b,ρ,H,N,R,_=>wpI sub Φ it ρ H fun xs src H1=>cY (fun ρ2 H2 k=>wpS (fun m=>W m/\some m≠src) b ρ2 H2 k R fun _ _=>False) i xs ρ H1 N
 |_,.raise k,_,H,_,_,X=>X k H
 |_,.opaq,_,_,_,_,_=>False
 |_,.iort cs,ρ,H,N,_,_=>wpT sub Φ cs ρ H fun _ H1=>N ρ H1
 |_,.randt cs,ρ,H,_,R,_=>wpT sub Φ cs ρ H R
end
section
set_option autoImplicit true
set_option relaxedAutoImplicit true
variable {sub:Nat->Nat->Bool}{Φ:Call}
theorem qE1:wpE sub Φ (.cint i) z1 H Q=(Q (.int i) H):=rfl
theorem qE2:wpE sub Φ (.cbool b) z1 H Q=(Q (.bool b) H):=rfl
theorem qE5:wpE sub Φ (.var i) ρ H Q=(ifSome (ah ρ i) fun v=>Q v H):=rfl
theorem qE6:wpE sub Φ (.fnv k) z1 H Q=(Q (.fn k) H):=rfl
theorem qE7:wpE sub Φ (.glob y1 a b) z1 H Q=(Q (.tup [.int a,.int b]) H):=rfl
theorem qE8:wpE sub Φ (.bin op a b) ρ H Q=(wpE sub Φ a ρ H fun x H1=>wpE sub Φ b ρ H1 fun y H2=>gj op x y H2 Q):=rfl
theorem qE9:wpE sub Φ (.neg a) ρ H Q=(wpE sub Φ a ρ H fun x H1=>match x with | .int i=>Q (.int (-i)) H1|_=>False):=rfl
theorem ry:wpE sub Φ (.nt a) ρ H Q=(wpE sub Φ a ρ H fun x H1=>ifSome (ba H1 x) fun t=>Q (.bool (!t)) H1):=rfl
theorem br:wpE sub Φ (.cmp op a b) ρ H Q=(wpE sub Φ a ρ H fun x H1=>wpE sub Φ b ρ H1 fun y H2=>fH op x y H2 Q):=rfl
theorem nR:wpE sub Φ (.and es) ρ H Q=(cF sub Φ true es ρ H Q):=rfl
theorem l7:wpE sub Φ (.or es) ρ H Q=(cF sub Φ false es ρ H Q):=rfl
theorem aS:wpE sub Φ (.call f es) ρ H Q=(et sub Φ es ρ H fun vs H1=>Φ f vs H1 Q fun _ _=>False):=rfl
theorem Gb:wpE sub Φ (.callv i f es) ρ H Q=(ifSome (ah ρ i) fun v=>∃k,(k=f\/k=f+1)/\v=.fn k/\et sub Φ es ρ H fun vs H1=>Φ k vs H1 Q fun _ _=>False):=rfl
theorem bV:wpE sub Φ (.bi b es) ρ H Q=(et sub Φ es ρ H fun vs H1=>kO b vs H1 Q):=rfl
theorem Bw:wpE sub Φ (.isi a ts) ρ H Q=(wpE sub Φ a ρ H fun x H1=>ifSome (ts.mapM (zy sub x)) fun bs=>Q (.bool (bs.any id)) H1):=rfl
theorem aV:wpE sub Φ (.idx a b) ρ H Q=(wpE sub Φ a ρ H fun x H1=>wpE sub Φ b ρ H1 fun y H2=>d8 x y H2 Q):=rfl
theorem D1:wpE sub Φ (.slc a lo hi) ρ H Q=(wpE sub Φ a ρ H fun x H1=>wpO sub Φ lo ρ H1 fun l H2=>wpO sub Φ hi ρ H2 fun h H3=>mL x l h H3 Q):=rfl
theorem dW:wpE sub Φ (.tup es) ρ H Q=(et sub Φ es ρ H fun vs H1=>Q (.tup vs) H1):=rfl
theorem g7:wpE sub Φ (.lst es) ρ H Q=(et sub Φ es ρ H fun vs H1=>Q (.lst H1.length) (H1++[vs])):=rfl
theorem ij:wpE sub Φ (.comp elt tg caps it cnd) ρ H Q=(wpI sub Φ it ρ H fun xs _ H1=>xs.length<=lim/\dm (fun x H2 k=>ifSome (mH tg x) fun ρt=>wpO sub Φ cnd (ρt++caps.map (ah ρ)) H2 fun c H3=>ifSome (match c with|some c=>ba H3 c|none=>some true) fun t=>if t then wpE sub Φ elt (ρt++caps.map (ah ρ)) H3 fun y H4=>k (some y) H4 else k none H3) xs H1 fun ys H5=>Q (.lst H5.length) (H5++[ys])):=rfl
theorem aC:et sub Φ (.nil) z1 H Q=(Q [] H):=rfl
theorem aD:et sub Φ (.cons e r) ρ H Q=(wpE sub Φ e ρ H fun v H1=>et sub Φ r ρ H1 fun vs H2=>Q (v::vs) H2):=rfl
theorem qO1:wpO sub Φ (.no) z1 H Q=(Q none H):=rfl
theorem qO2:wpO sub Φ (.some e) ρ H Q=(wpE sub Φ e ρ H fun v H1=>Q (some v) H1):=rfl
theorem qI1:wpI sub Φ (.seq e) ρ H Q=(wpE sub Φ e ρ H fun v H1=>ifSome (items H1 v) fun xs=>Q xs (jL v) H1):=rfl
theorem qI2:wpI sub Φ (.rev e) ρ H Q=(wpE sub Φ e ρ H fun v H1=>ifSome (items H1 v) fun xs=>Q xs.reverse (jL v) H1):=rfl
theorem qI3:wpI sub Φ (.rng es) ρ H Q=(et sub Φ es ρ H fun vs H1=>oN vs H1 Q):=rfl
theorem qS1:wpS sub Φ z0 (.skip) ρ H N z5 z6=(N ρ H):=rfl
theorem qS2:wpS sub Φ W (.seq a b) ρ H N R X=(wpS sub Φ W a ρ H (fun ρ1 H1=>wpS sub Φ W b ρ1 H1 N R X) R X):=rfl
theorem qS3:wpS sub Φ z0 (.assign i e) ρ H N z5 z6=(wpE sub Φ e ρ H fun v H1=>N (aE ρ i v) H1):=rfl
theorem qS4:wpS sub Φ z0 (.unpack is e) ρ H N z5 z6=(wpE sub Φ e ρ H fun v H1=>ifTup v fun vs=>vs.length=is.length/\N (iC ρ is vs) H1):=rfl
theorem qS5:wpS sub Φ W (.setidx i k e) ρ H N z5 z6=(wpE sub Φ e ρ H fun v H1=>ifLst (ah ρ i) fun n=>W n/\wpE sub Φ k ρ H1 fun kv H2=>ifInt kv fun j=>ifSome H2[n]? fun xs=>ifSome (cf xs.length j) fun p=>N ρ (H2.set n (xs.set p v))):=rfl
theorem qS6:wpS sub Φ W (.app i e) ρ H N z5 z6=(ifLst (ah ρ i) fun n=>W n/\wpE sub Φ e ρ H fun v H1=>ifSome H1[n]? fun xs=>xs.length<lim/\N ρ (H1.set n (xs++[v]))):=rfl
theorem qS7:wpS sub Φ W (.pop i) ρ H N z5 z6=(nC W ρ H i fun n xs=>∃ys k,xs=ys++[.int k]/\N ρ (H.set n ys)):=rfl
theorem qS8:wpS sub Φ W (.rev i) ρ H N z5 z6=(nC W ρ H i fun n xs=>N ρ (H.set n xs.reverse)):=rfl
theorem qS9:wpS sub Φ z0 (.ret e) ρ H z4 R z6=(wpE sub Φ e ρ H R):=rfl
theorem bC:wpS sub Φ W (.ite c a b) ρ H N R X=(wpE sub Φ c ρ H fun v H1=>ifSome (ba H1 v) fun t=>if t then wpS sub Φ W a ρ H1 N R X else wpS sub Φ W b ρ H1 N R X):=rfl
theorem lr:wpS sub Φ W (.whl c b) ρ H N R z6=(∃ (I:Loc->Hp->Prop) (μ:Loc->Hp->Nat),I ρ H/\∀ρ1 H1,I ρ1 H1->wpE sub Φ c ρ1 H1 fun v H2=>ifSome (ba H2 v) fun t=>if t then wpS sub Φ W b ρ1 H2 (fun ρ3 H3=>I ρ3 H3/\μ ρ3 H3<μ ρ1 H1) R (fun _ _=>False) else N ρ1 H2):=rfl
theorem dZ:wpS sub Φ W (.forr i it b) ρ H N R z6=(wpI sub Φ it ρ H fun xs src H1=>cY (fun ρ2 H2 k=>wpS sub Φ (fun m=>W m/\some m≠src) b ρ2 H2 k R fun _ _=>False) i xs ρ H1 N):=rfl
theorem vl:wpS sub Φ z0 (.raise k) z2 H z4 z5 X=(X k H):=rfl
theorem Hg:wpS sub Φ z0 (.iort cs) ρ H N z5 z6=(wpT sub Φ cs ρ H fun _ H1=>N ρ H1):=rfl
theorem GN:wpS sub Φ z0 (.randt cs) ρ H z4 R z6=(wpT sub Φ cs ρ H R):=rfl
end
structure Fn where
 np:Nat
 nv:Nat
 body:PS
noncomputable def cI(np nv:Nat)(vs:List V):Loc:=vs.map some++List.replicate (nv-np) none
noncomputable def ag(sub:Nat->Nat->Bool)(P:List Fn):Nat->Call
 |0=>fun _ _ _ _ _=>False
 |n+1=>fun f vs H Q X=>∃d,P[f]?=some d/\vs.length=d.np/\wpS sub (ag sub P n) (fun m=>H.length<=m) d.body (cI d.np d.nv vs) H (fun _ H'=>Q .none H') Q X
noncomputable def qi(Ψ:Nat->List V->Hp->(V->Hp->Prop)->Prop)(c:Call):Call:=fun k vs H Q Y=>(k<1000/\c k vs H Q Y)\/(1000<=k/\Ψ (k-1000) vs H Q)
theorem eX{Ψ:Nat->List V->Hp->(V->Hp->Prop)->Prop}{c:Call}{k:Nat}{vs:List V}{H:Hp}{Q:V->Hp->Prop}{Y:Nat->Hp->Prop}(hk:k<1000)(h:c k vs H Q Y):qi Ψ c k vs H Q Y:=.inl ⟨hk,h⟩
theorem DS{Ψ:Nat->List V->Hp->(V->Hp->Prop)->Prop}{c:Call}{k:Nat}{vs:List V}{H:Hp}{Q:V->Hp->Prop}{Y:Nat->Hp->Prop}(h:Ψ k vs H Q):qi Ψ c (k+1000) vs H Q Y:=.inr ⟨Jw _ _,by rw[Nat.add_sub_cancel];exact h⟩
structure GC where
 fns:List Str
 cls:List Str
 globs:List (Str × Int × Int)
structure MC where
 g:GC
 scope:Scope
 names:List Str
noncomputable def MC.isGlob(c:MC) (x:Str):Bool:=decide (c.scope.names.lookup x=some NameKind.globalImplicit) && !(x == Str.ofString "__debug__")
noncomputable def MC.isVar(c:MC) (i:Nat) (x:Str):Bool:=decide (c.names[i]?=some x) && !(x == Str.ofString "__debug__") && !(x == Str.ofString "__classdict__") &&
 (decide (c.scope.names.lookup x=some NameKind.local) ||decide (c.scope.names.lookup x=some NameKind.cell) ||decide (c.scope.names.lookup x=some NameKind.free))
noncomputable def EB:BOp->Operator
 | .add=>.Add | .sub=>.Sub | .mul=>.Mult | .fdiv=>.FloorDiv | .mod=>.Mod | .pow=>.Pow
noncomputable def kM:COp->CmpOp
 | .lt=>.Lt | .le=>.LtE | .gt=>.Gt | .ge=>.GtE | .eq=>.Eq | .ne=>.NotEq | .isin=>.In | .notin=>.NotIn | .is=>.Is
noncomputable def nu:Bi->Str
 | .abs=>"abs" | .len=>"len" | .int=>"int" | .list=>"list" | .tuple=>"tuple" | .min=>"min" | .listrev=>"list"
noncomputable def Bi.isRev:Bi->Bool
 | .listrev=>true
 |_=>false
noncomputable def Ty.nm:Ty->Str
 | .int=>"int" | .bool=>"bool" | .tuple=>"tuple" | .list=>"list" | .cls _=>""
noncomputable def Ty.isCls:Ty->Bool
 | .cls _=>true
 |_=>false
noncomputable def tyN:List Ty->Str
 | [t]=>t.nm
 |_=>""
noncomputable def ty1:List Ty->Bool
 | [t]=>!t.isCls
 |_=>false
noncomputable def GX(k:Const):Str:=match k with
 | .str u=>u
 |_=>""
noncomputable def vwE(e:Expr):List Expr × Pos × Nat × Scope × Str:=match e with
 | .BoolOp _ vs p=>(vs,p,0,default,"")
 | .BinOp a _ b p=>([a,b],p,0,default,"")
 | .UnaryOp _ a p=>([a],p,0,default,"")
 | .ListComp x gs sc p=>(x::gs.flatMap (fun g=>g.target::g.iter::g.ifs),p,0,sc,"")
 | .Compare l _ rs p=>(l::rs,p,0,default,"")
 | .Call f as _ p=>(f::as,p,0,default,"")
 | .Constant k n p=>([],p,n,default,GX k)
 | .Attribute v _ p=>([v],p,0,default,"")
 | .Subscript a b p=>([a,b],p,0,default,"")
 | .Name x p=>([],p,0,default,x)
 | .List es p=>(es,p,0,default,"")
 | .Tuple es n p=>(es,p,n,default,"")
 | .Slice l h _ p=>([l.getD (.Name "" p),h.getD (.Name "" p)],p,0,default,"")
 |_=>([],default,0,default,"")
noncomputable def dj(e:Expr):List Expr:=(vwE e).1
noncomputable def bv(e:Expr):Pos:=(vwE e).2.1
noncomputable def vu(e:Expr):Nat:=(vwE e).2.2.1
noncomputable def CM(e:Expr):Scope:=(vwE e).2.2.2.1
noncomputable def Bt(e:Expr):Str:=(vwE e).2.2.2.2
noncomputable def kid(i:Nat) (e:Expr):Expr:=(dj e).getD i (.Name "" default)
noncomputable def vwS(s:Stmt):List Expr × List Stmt × List Stmt × Pos:=match s with
 | .Return o p=>(o.toList,[],[],p)
 | .Assign ts v p=>(v::ts,[],[],p)
 | .For t v x y p=>([v,t],x,y,p)
 | .While v x y p=>([v],x,y,p)
 | .If v x y p=>([v],x,y,p)
 | .Raise o _ p=>(o.toList,[],[],p)
 | .Expr v p=>([v],[],[],p)
 |_=>([],[],[],default)
noncomputable def bL(i:Nat) (s:Stmt):Expr:=(vwS s).1.getD i (.Name "" default)
noncomputable def spos(s:Stmt):Pos:=(vwS s).2.2.2
noncomputable def shp(e:Expr):Nat:=match e with
 | .Starred ..=>1
 | .Slice ..=>2
 | .Set ..=>3
 | .ListComp .. | .SetComp .. | .DictComp ..=>4
 | .Tuple ..=>5
 |_=>0
noncomputable def cZ(e:Expr):Bool:=shp e != 1
noncomputable def cR(es:List Expr):Bool:=es.all cZ
noncomputable def pP(e:Expr):Bool:=shp e != 2
noncomputable def jl(e:Expr):Bool:=shp e != 3
noncomputable def fU(e:Expr):Bool:=shp e != 4
noncomputable def rW(e:Expr):Bool:=shp e != 5
noncomputable def nd(c:MC)(sc:Scope)(x:Str)(cs:List Str)(caps:List Nat):Bool:=
 decide (sc.kind=ScopeKind.function) && (sc.names.all (fun p=>match p.2 with
  | .local=>(p.1 == Str.ofString ".0" ||p.1 == x) && decide (sc.names.lookup p.1=some NameKind.local)
  | .free=>cs.contains p.1
  | .globalImplicit=>true
  |_=>false) && (decide (sc.names.lookup x=some NameKind.local) && (cs.all (fun n=>decide (sc.names.lookup n=some NameKind.free)) &&
  (cs.all (fun n=>decide (c.scope.names.lookup n=some NameKind.cell) ||decide (c.scope.names.lookup n=some NameKind.free)) && caps.all fun j=>decide (c.names[j]?=some (c.names.getD j ""))))))
noncomputable def MC.nm(c:MC) (i:Nat):Str:=c.names.getD i ""
noncomputable def MC.fn(c:MC) (k:Nat):Str:=c.g.fns.getD k ""
noncomputable def MC.fnOk(c:MC)(k:Nat):Bool:=decide (c.g.fns[k]?=some (c.fn k)) && c.isGlob (c.fn k)
noncomputable def MC.clN(c:MC) (k:Nat):Str:=c.g.cls.getD k ""
noncomputable def MC.cap(c:MC)(caps:List Nat):List Str:=caps.map c.nm
noncomputable def MC.inn(c:MC)(caps:List Nat)(e:Expr):MC:=⟨c.g,CM e,Bt (kid 1 e)::c.cap caps⟩
mutual
noncomputable def gE(c:MC):PE->Expr->Expr × Bool
 | .cint i,e=>(.Constant (.int i) (vu e) (bv e),true)
 | .cbool b,e=>(.Constant (.bool b) (vu e) (bv e),true)
 | .cstr s,e=>(.Constant (.str s) (vu e) (bv e),true)
 | .var i,e=>(.Name (c.nm i) (bv e),c.isVar i (c.nm i))
 | .fnv k,e=>(.Name (c.fn k) (bv e),c.fnOk k)
 | .glob x a b,e=>(.Name x (bv e),c.g.globs.contains (x,a,b) && c.isGlob x)
 | .bin op a b,e=>(.BinOp (gE c a (kid 0 e)).1 (EB op) (gE c b (kid 1 e)).1 (bv e),(gE c a (kid 0 e)).2 && (gE c b (kid 1 e)).2)
 | .neg a,e=>(.UnaryOp .USub (gE c a (kid 0 e)).1 (bv e),(gE c a (kid 0 e)).2)
 | .nt a,e=>(.UnaryOp .Not (gE c a (kid 0 e)).1 (bv e),(gE c a (kid 0 e)).2)
 | .cmp op a b,e=>(.Compare (gE c a (kid 0 e)).1 [kM op] [(gE c b (kid 1 e)).1] (bv e),!behindInMarks (kM op) (gE c b (kid 1 e)).1 && ((gE c a (kid 0 e)).2 && (gE c b (kid 1 e)).2))
 | .and es,e=>(.BoolOp .And (gEs c es (dj e)).1 (bv e),(gEs c es (dj e)).2)
 | .or es,e=>(.BoolOp .Or (gEs c es (dj e)).1 (bv e),(gEs c es (dj e)).2)
 | .call f es,e=>(.Call (.Name (c.fn f) (bv (kid 0 e))) (gEs c es (dj e).tail).1 [] (bv e),c.fnOk f && (!(gEs c es (dj e).tail).1.isEmpty && (gEs c es (dj e).tail).2))
 | .callv i f es,e=>(.Call (.Name (c.nm i) (bv (kid 0 e))) (gEs c es (dj e).tail).1 [] (bv e),c.isVar i (c.nm i) && (decide (c.g.fns[f+1]?=some (c.fn (f+1))) && (!(gEs c es (dj e).tail).1.isEmpty && (gEs c es (dj e).tail).2)))
 | .bi b es,e=>match b.isRev with
  |false=>(.Call (.Name (nu b) (bv (kid 0 e))) (gEs c es (dj e).tail).1 [] (bv e),c.isGlob (nu b) && (!(gEs c es (dj e).tail).1.isEmpty && (gEs c es (dj e).tail).2))
  |true=>(.Call (.Name "list" (bv (kid 0 e))) [.Call (.Name "reversed" (bv (kid 0 (kid 1 e)))) (gEs c es (dj (kid 1 e)).tail).1 [] (bv (kid 1 e))] [] (bv e),
   (c.isGlob "list" && c.isGlob "reversed") && (!(gEs c es (dj (kid 1 e)).tail).1.isEmpty && (gEs c es (dj (kid 1 e)).tail).2))
 | .isi a ts,e=>(.Call (.Name "isinstance" (bv (kid 0 e))) [(gE c a (kid 1 e)).1,.Name (tyN ts) (bv (kid 2 e))] [] (bv e),((c.isGlob "isinstance" && c.isGlob (tyN ts)) && ty1 ts) && (cZ (gE c a (kid 1 e)).1 && (gE c a (kid 1 e)).2))
 | .idx a b,e=>(.Subscript (gE c a (kid 0 e)).1 (gE c b (kid 1 e)).1 (bv e),pP (gE c b (kid 1 e)).1 && ((gE c a (kid 0 e)).2 && (gE c b (kid 1 e)).2))
 | .slc a lo hi,e=>(.Subscript (gE c a (kid 0 e)).1 (.Slice (gO c lo (kid 0 (kid 1 e))).1 (gO c hi (kid 1 (kid 1 e))).1 none (bv (kid 1 e))) (bv e),(gE c a (kid 0 e)).2 && ((gO c lo (kid 0 (kid 1 e))).2 && (gO c hi (kid 1 (kid 1 e))).2))
 | .tup es,e=>(.Tuple (gEs c es (dj e)).1 (vu e) (bv e),decide ((gEs c es (dj e)).1.length<=1000) && (gEs c es (dj e)).2)
 | .lst es,e=>(.List (gEs c es (dj e)).1 (bv e),decide ((gEs c es (dj e)).1.length<=1000) && (gEs c es (dj e)).2)
 | .comp elt tg caps it cond,e=>(.ListComp (gE (c.inn caps e) elt (kid 0 e)).1 [⟨.Name (Bt (kid 1 e)) (bv (kid 1 e)),(gI c it (kid 2 e)).1,(zG (c.inn caps e) cond (kid 3 e)).1,0⟩] (CM e) (bv e),
  (decide (tg=1) && nd c (CM e) (Bt (kid 1 e)) (c.cap caps) caps) && ((gE (c.inn caps e) elt (kid 0 e)).2 && ((gI c it (kid 2 e)).2 && (zG (c.inn caps e) cond (kid 3 e)).2)))
noncomputable def gEs(c:MC):PEs->List Expr->List Expr × Bool
 | .nil,_=>([],true)
 | .cons a r,es=>((gE c a (es.headD (.Name "" default))).1::(gEs c r es.tail).1,cZ (gE c a (es.headD (.Name "" default))).1 && ((gE c a (es.headD (.Name "" default))).2 && (gEs c r es.tail).2))
noncomputable def gO(c:MC):PO->Expr->Option Expr × Bool
 | .no,_=>(none,true)
 | .some a,e=>(some (gE c a e).1,(gE c a e).2)
noncomputable def zG(c:MC):PO->Expr->List Expr × Bool
 | .no,_=>([],true)
 | .some a,e=>([(gE c a e).1],(gE c a e).2)
noncomputable def gI(c:MC):PI->Expr->Expr × Bool
 | .seq a,e=>((gE c a e).1,jl (gE c a e).1 && (gE c a e).2)
 | .rev a,e=>(.Call (.Name "reversed" (bv (kid 0 e))) [(gE c a (kid 1 e)).1] [] (bv e),c.isGlob "reversed" && (cZ (gE c a (kid 1 e)).1 && (gE c a (kid 1 e)).2))
 | .rng es,e=>(.Call (.Name "range" (bv (kid 0 e))) (gEs c es (dj e).tail).1 [] (bv e),c.isGlob "range" && (!(gEs c es (dj e).tail).1.isEmpty && (gEs c es (dj e).tail).2))
end
noncomputable def gU(c:MC):List Nat->List Expr->List Expr
 | [],_=>[]
 |i::is,es=>.Name (c.nm i) (bv (es.headD (.Name "" default)))::gU c is es.tail
noncomputable def gT(c:MC):List (Nat × PEs)->List Expr->List Expr × Bool
 | [],_=>([],true)
 |p::r,vs=>((gE c (.call p.1 p.2) (vs.headD (.Name "" default))).1::(gT c r vs.tail).1,(gE c (.call p.1 p.2) (vs.headD (.Name "" default))).2 && (gT c r vs.tail).2)
noncomputable def gN(c:MC):List (Nat × PEs)->List Expr->List Expr × Bool
 | [],_=>([],true)
 |p::r,vs=>(.UnaryOp .Not (gE c (.call p.1 p.2) (kid 0 (vs.headD (.Name "" default)))).1 (bv (vs.headD (.Name "" default)))::(gN c r vs.tail).1,(gE c (.call p.1 p.2) (kid 0 (vs.headD (.Name "" default)))).2 && (gN c r vs.tail).2)
noncomputable def gM(c:MC)(i:Nat)(m:Str)(as:List Expr)(s:Stmt):Stmt:=
 .Expr (.Call (.Attribute (.Name (c.nm i) (bv (kid 0 (kid 0 (bL 0 s))))) m (bv (kid 0 (bL 0 s)))) as [] (bv (bL 0 s))) (spos s)
noncomputable def Dj(c:MC)(i:Nat)(s:Stmt):Bool:=c.isVar i (c.nm i) && decide ((bv (kid 0 (bL 0 s))).endLine=(bv (bL 0 s)).line)
noncomputable def Ah(e:PE):Bool:=match e with | .comp ..=>true|_=>false
mutual
noncomputable def gS(c:MC):PS->Stmt->Stmt × Bool
 | .skip,s=>(s,false)
 | .seq _ _,s=>(s,false)
 | .assign i e,s=>(.Assign [.Name (c.nm i) (bv (bL 1 s))] (gE c e (bL 0 s)).1 (spos s),(Ah e ||fU (gE c e (bL 0 s)).1) && (c.isVar i (c.nm i) && (gE c e (bL 0 s)).2))
 | .unpack is e,s=>(.Assign [.Tuple (gU c is (dj (bL 1 s))) (vu (bL 1 s)) (bv (bL 1 s))] (gE c e (bL 0 s)).1 (spos s),(is.all (fun i=>c.isVar i (c.nm i)) && decide is.Nodup) && ((fU (gE c e (bL 0 s)).1 && rW (gE c e (bL 0 s)).1) && (gE c e (bL 0 s)).2))
 | .setidx i k e,s=>(.Assign [.Subscript (.Name (c.nm i) (bv (kid 0 (bL 1 s)))) (gE c k (kid 1 (bL 1 s))).1 (bv (bL 1 s))] (gE c e (bL 0 s)).1 (spos s),(c.isVar i (c.nm i) && fU (gE c e (bL 0 s)).1) && ((gE c k (kid 1 (bL 1 s))).2 && (gE c e (bL 0 s)).2))
 | .app i e,s=>(gM c i "append" [(gE c e (kid 1 (bL 0 s))).1] s,Dj c i s && (cZ (gE c e (kid 1 (bL 0 s))).1 && (gE c e (kid 1 (bL 0 s))).2))
 | .pop i,s=>(gM c i "pop" [] s,Dj c i s)
 | .rev i,s=>(gM c i "reverse" [] s,Dj c i s)
 | .ret e,s=>(.Return (some (gE c e (bL 0 s)).1) (spos s),(gE c e (bL 0 s)).2)
 | .ite t a b,s=>(.If (gE c t (bL 0 s)).1 (gB c a (vwS s).2.1).1 (gB c b (vwS s).2.2.1).1 (spos s),(gE c t (bL 0 s)).2 && ((gB c a (vwS s).2.1).2 && (gB c b (vwS s).2.2.1).2))
 | .whl t b,s=>(.While (gE c t (bL 0 s)).1 (gB c b (vwS s).2.1).1 [] (spos s),(gE c t (bL 0 s)).2 && (gB c b (vwS s).2.1).2)
 | .forr i it b,s=>(.For (.Name (c.nm i) (bv (bL 1 s))) (gI c it (bL 0 s)).1 (gB c b (vwS s).2.1).1 [] (spos s),c.isVar i (c.nm i) && ((gI c it (bL 0 s)).2 && (gB c b (vwS s).2.1).2))
 | .raise k,s=>(.Raise (some (.Call (.Name (c.clN k) (bv (kid 0 (bL 0 s)))) [.Constant (.str (Bt (kid 1 (bL 0 s)))) (vu (kid 1 (bL 0 s))) (bv (kid 1 (bL 0 s)))] [] (bv (bL 0 s)))) none (spos s),decide (c.g.cls[k]?=some (c.clN k)) && c.isGlob (c.clN k))
 | .opaq,s=>(s,false)
 | .iort cs,s=>(.If (.BoolOp .Or (gN c cs (dj (bL 0 s))).1 (bv (bL 0 s))) (vwS s).2.1 [] (spos s),(gN c cs (dj (bL 0 s))).2)
 | .randt cs,s=>(.Return (some (.BoolOp .And (gT c cs (dj (bL 0 s))).1 (bv (bL 0 s)))) (spos s),!cs.isEmpty && (gT c cs (dj (bL 0 s))).2)
noncomputable def gB(c:MC):PS->List Stmt->List Stmt × Bool
 | .skip,_=>([],true)
 | .seq a r,b=>((gS c a (b.headD (.Pass default))).1::(gB c r b.tail).1,(gS c a (b.headD (.Pass default))).2 && (gB c r b.tail).2)
 | .opaq,b=>(b,true)
 | .assign _ _,b=>(b,false)
 | .unpack _ _,b=>(b,false)
 | .setidx _ _ _,b=>(b,false)
 | .app _ _,b=>(b,false)
 | .pop _,b=>(b,false)
 | .rev _,b=>(b,false)
 | .ret _,b=>(b,false)
 | .ite _ _ _,b=>(b,false)
 | .whl _ _,b=>(b,false)
 | .forr _ _ _,b=>(b,false)
 | .raise _,b=>(b,false)
 | .iort _,b=>(b,false)
 | .randt _,b=>(b,false)
end
end Mine
namespace Mine
open PySem PyProof.Rows
abbrev KeepsH (h h':Heap):Prop:=∀b o,h.get? b=some o->h'.get? b=some o
theorem KeepsH.trans{h h' h'':Heap}(a:KeepsH h h')(b:KeepsH h' h''):KeepsH h h'':=fun x o e=>b x o (a x o e)
theorem KeepsH.refl(h:Heap):KeepsH h h:=fun _ _ e=>e
theorem Gj{n i:Nat}{k:Int}(hz:n<=1000000)(h1:i<n)(h2:(0<=k/\k=i)\/(k<0/\k+n=i)):-1000000<=k/\k<=1000000:=oqz [n,i] [k] [(.le Y0 1000000),(.le (Y1+1) Y0),(.or (.an (.il 0 Y0) (.ie Y0 (.c Y1))) (.an (.il (Y0+1) 0) (.ie (.a Y0 (.c Y0)) (.c Y1))))] (.an (.il (.g 1000000) Y0) (.il Y0 1000000)) [100011,10111] rfl hz h1 h2
theorem uw{n i:Nat}{k:Int}(hz:n<=1000000)(h1:i<n)(h2:(0<=k/\k=i)\/(k<0/\k+n=i)):-(2^63)<=k/\k<2^63:=
 ⟨Il (by decide) (Gj hz h1 h2).1,Int.lt_of_le_of_lt (Gj hz h1 h2).2 (by decide)⟩
theorem EL{n:Nat}(h:n<=1000000):(n:Int)<2^63:=Int.lt_of_le_of_lt (IO.mpr h) (by decide)
theorem w63{a:Int}(h1:-(2^42)<=a)(h2:a<=2^42):-(2^63)<=a/\a<2^63:=⟨Il (by decide) h1,Int.lt_of_le_of_lt h2 (by decide)⟩
theorem AL{a:Int}(h:cG a):-(2^63)<=a/\a<2^63:=w63 (Il (by decide) (HZ h.1)) (Il (HZ h.2) (by decide))
theorem vI{a d:Int}(h:cG a)(h0:0<=d)(h1:d<=1):-(2^63)<=a+d/\a+d<2^63:=
 w63 (Il (by decide) (Int.add_le_add (HZ h.1) h0)) (Il (Int.add_le_add (HZ h.2) h1) (by decide))
theorem rm1{d n L:Nat}(h:d+(n+1)+100<L):d+1+n+100<L:=oqz [d,n,L] [] [(.le (Y0+(Y1+1)+100+1) Y2)] (.le (Y0+1+Y1+100+1) Y2) [11] rfl h
theorem rm2{d n L:Nat}(h:d+3*(n+1)+100<L):d+3+3*n+100<L:=oqz [d,n,L] [] [(.le (.a (.a (.a Y0 (.m 3 (Y1+1))) 100) 1) Y2)] (.le (.a (.a (.a (Y0+3) (.m 3 Y1)) 100) 1) Y2) [11] rfl h
theorem rm3{d n L:Nat}(h:d+3*(n+1)+100<L):d+3+100<L:=oqz [d,L,n] [] [(.le (.a (.a (.a Y0 (.m 3 (Y2+1))) 100) 1) Y1)] (.le (Y0+3+100+1) Y1) [11] rfl h
theorem rm4{d n L:Nat}(h:d+(n+1)+100<L):d+1+100<L:=oqz [d,L,n] [] [(.le (Y0+(Y2+1)+100+1) Y1)] (.le (Y0+1+100+1) Y1) [11] rfl h
theorem rm5{d n L:Nat}(h:d+(n+1)+100<L):d<L:=oqz [d,L,n] [] [(.le (Y0+(Y2+1)+100+1) Y1)] (.le (Y0+1) Y1) [11] rfl h
structure GV where
 mg:Str->Option Value
 mb:Str->Option Value
 fa:Nat->Addr
 ca:Nat->Value
mutual
inductive Rep (G:GV) (α:List Addr) (h:Heap):Value->V->Prop
 |int (i:Int) (t:Tok):Rep G α h (.int i t) (.int i)
 |bool (b:Bool):Rep G α h (.bool b) (.bool b)
 |none:Rep G α h .none .none
 |str (s:Str) (t:Tok):Rep G α h (.str s t) (.str s)
 |tup {a:Addr}{vs:List Value}{xs:List V}:IsTup h a vs.toArray->Reps G α h vs xs->xs.length<=lim->Rep G α h (.ref a) (.tup xs)
 |lst {a:Addr}{n:Nat}:α[n]?=some a->Rep G α h (.ref a) (.lst n)
 |fn {a:Addr}{k:Nat}:a=G.fa k->Rep G α h (.ref a) (.fn k)
inductive Reps (G:GV) (α:List Addr) (h:Heap):List Value->List V->Prop
 |nil:Reps G α h [] []
 |cons {v:Value}{d:V}{vs:List Value}{ds:List V}:Rep G α h v d->Reps G α h vs ds->Reps G α h (v::vs) (d::ds)
end
section
variable {G:GV}{α:List Addr}{h:Heap}{u:Value}
noncomputable def Ep(G:GV)(α:List Addr)(h:Heap)(u:Value):V->Prop
 | .int i=>∃t,u=.int i t
 | .bool b=>u=.bool b
 | .none=>u=.none
 | .str s=>∃t,u=.str s t
 | .tup xs=>∃a vs,u=.ref a/\IsTup h a (List.toArray vs)/\Reps G α h vs xs/\xs.length<=lim
 | .lst n=>∃a,u=.ref a/\α[n]?=some a
 | .fn k=>u=.ref (G.fa k)
 | .exc _=>False
theorem Rep.out{x:V}(r:Rep G α h u x):Ep G α h u x:=by
 cases r with
 |int i t=>exact ⟨t,rfl⟩
 |bool b=>exact rfl
 |none=>exact rfl
 |str s t=>exact ⟨t,rfl⟩
 |tup t r z=>exact ⟨_,_,rfl,t,r,z⟩
 |lst e=>exact ⟨_,rfl,e⟩
 |fn e=>exact congrArg _ e
theorem Rep.int_inv{i:Int}(r:Rep G α h u (.int i)):∃t,u=.int i t:=r.out
theorem Rep.bool_inv{b:Bool}(r:Rep G α h u (.bool b)):u=.bool b:=r.out
theorem Rep.none_inv(r:Rep G α h u .none):u=.none:=r.out
theorem Rep.tup_inv{xs:List V}(r:Rep G α h u (.tup xs)):∃a vs,u=.ref a/\IsTup h a (List.toArray vs)/\Reps G α h vs xs/\xs.length<=lim:=r.out
theorem Rep.lst_inv{n:Nat}(r:Rep G α h u (.lst n)):∃a,u=.ref a/\α[n]?=some a:=r.out
theorem Rep.ii{v:Value}{x y:V}{a b:Int}{C:Value->Value->Prop}(ru:Rep G α h u x)(rv:Rep G α h v y)(e:x=.int a)(e':y=.int b)(k:∀t t',C (.int a t) (.int b t')):C u v:=by
 subst e e'
 obtain ⟨t,rfl⟩:=ru.int_inv
 obtain ⟨t',rfl⟩:=rv.int_inv
 exact k t t'
noncomputable def Bg(G:GV)(α:List Addr)(h:Heap)(vs:List Value):List V->Prop
 | []=>vs=[]
 |d::ds=>∃v vs',vs=v::vs'/\Rep G α h v d/\Reps G α h vs' ds
theorem Reps.out{vs:List Value}{ds:List V}(r:Reps G α h vs ds):Bg G α h vs ds:=by
 cases r with
 |nil=>exact rfl
 |cons a b=>exact ⟨_,_,rfl,a,b⟩
theorem Reps.one_inv{vs:List Value}{d:V}(r:Reps G α h vs [d]):∃v,vs=[v]/\Rep G α h v d:=by
 obtain ⟨v,vs',e,a,b⟩:=r.out
 cases b.out
 exact ⟨v,e,a⟩
theorem Reps.ol{vs:List Value}{ds:List V}{d:V}{C:List Value->Prop}(r:Reps G α h vs ds)(e:ds=[d])(k:∀v,Rep G α h v d->C [v]):C vs:=by
 subst e
 obtain ⟨v,rfl,a⟩:=r.one_inv
 exact k v a
theorem Rep.oi{x:V}{a:Int}{C:Value->Prop}(r:Rep G α h u x)(e:x=.int a)(k:∀t,C (.int a t)):C u:=by
 subst e
 obtain ⟨t,rfl⟩:=r.int_inv
 exact k t
theorem Reps.two_inv{vs:List Value}{d e:V}(r:Reps G α h vs [d,e]):∃v w,vs=[v,w]/\Rep G α h v d/\Rep G α h w e:=by
 obtain ⟨v,vs',e,a,b⟩:=r.out
 obtain ⟨w,rfl,c⟩:=b.one_inv
 exact ⟨v,w,e,a,c⟩
end
noncomputable def KeepsT(h h':Heap):Prop:=∀a items,IsTup h a items->IsTup h' a items
theorem KeepsT.of{h h':Heap}(k:KeepsH h h'):KeepsT h h':=fun _ _ x=>x.keeps k
theorem Rep.mono{G:GV}{α α':List Addr}{h h':Heap}(ha:∀ (n:Nat) (a:Addr),α[n]?=some a->α'[n]?=some a)(k:KeepsT h h'){v:Value}{d:V}(r:Rep G α h v d):Rep G α' h' v d:=
 Rep.rec (motive_1:=fun v d _=>Rep G α' h' v d) (motive_2:=fun vs ds _=>Reps G α' h' vs ds) (fun i t=>.int i t) (fun b=>.bool b) .none (fun s t=>.str s t) (fun t _ z r=>.tup (k _ _ t) r z) (fun e=>.lst (ha _ _ e)) (fun e=>.fn e) .nil (fun _ _ a b=>.cons a b) r
theorem Reps.mono{G:GV}{α α':List Addr}{h h':Heap}(ha:∀ (n:Nat) (a:Addr),α[n]?=some a->α'[n]?=some a)(k:KeepsT h h'){vs:List Value}{ds:List V}(r:Reps G α h vs ds):Reps G α' h' vs ds:=
 Reps.rec (motive_1:=fun _ _ _=>True) (motive_2:=fun vs ds _=>Reps G α' h' vs ds) (fun _ _=>trivial) (fun _=>trivial) trivial (fun _ _=>trivial) (fun _ _ _ _=>trivial) (fun _=>trivial) (fun _=>trivial) .nil (fun a _ _ b=>.cons (a.mono ha k) b) r
theorem Reps.ind{G:GV}{α:List Addr}{h:Heap}{P:List Value->List V->Prop}(h0:P [] [])(h1:∀v d vs ds,Rep G α h v d->Reps G α h vs ds->P vs ds->P (v::vs) (d::ds)){vs:List Value}{ds:List V}(r:Reps G α h vs ds):P vs ds:=
 Reps.rec (motive_1:=fun _ _ _=>True) (motive_2:=fun vs ds _=>P vs ds) (fun _ _=>trivial) (fun _=>trivial) trivial (fun _ _=>trivial) (fun _ _ _ _=>trivial) (fun _=>trivial) (fun _=>trivial) h0 (fun a b _ c=>h1 _ _ _ _ a b c) r
theorem eC{α β:List Addr}(n:Nat)(a:Addr)(e:α[n]?=some a):(α++β)[n]?=some a:=by
 have hl:n<α.length:=(Hs.mp e).1
 rw[HI hl];exact e
theorem Rep.up{G:GV}{α β:List Addr}{h h':Heap}{v:Value}{d:V}(r:Rep G α h v d)(k:KeepsH h h'):Rep G (α++β) h' v d:=r.mono eC (.of k)
theorem Reps.up{G:GV}{α β:List Addr}{h h':Heap}{v:List Value}{d:List V}(r:Reps G α h v d)(k:KeepsH h h'):Reps G (α++β) h' v d:=r.mono eC (.of k)
section
variable {G:GV}{α:List Addr}{h:Heap}{vs:List Value}{ds:List V}
theorem Reps.len(r:Reps G α h vs ds):vs.length=ds.length:=r.ind (P:=fun vs ds=>vs.length=ds.length) rfl fun _ _ _ _ _ _ e=>congrArg Nat.succ e
theorem Reps.get(r:Reps G α h vs ds):∀ {n:Nat}{d:V},ds[n]?=some d->∃v,vs[n]?=some v/\Rep G α h v d:=
 r.ind (P:=fun vs ds=>∀ {n:Nat}{d:V},ds[n]?=some d->∃v,vs[n]?=some v/\Rep G α h v d) (fun {n}{_} e=>nomatch n,e) fun _ _ _ _ a _ ih {n}{_} e=>by
  cases n with
  |zero=>cases e;exact ⟨_,rfl,a⟩
  |succ n=>exact ih e
theorem Reps.get'(r:Reps G α h vs ds):∀ {n:Nat}{v:Value},vs[n]?=some v->∃d,ds[n]?=some d/\Rep G α h v d:=
 r.ind (P:=fun vs ds=>∀ {n:Nat}{v:Value},vs[n]?=some v->∃d,ds[n]?=some d/\Rep G α h v d) (fun {n}{_} e=>nomatch n,e) fun _ _ _ _ a _ ih {n}{_} e=>by
  cases n with
  |zero=>cases e;exact ⟨_,rfl,a⟩
  |succ n=>exact ih e
theorem Reps.append{vs':List Value}{ds':List V}(r:Reps G α h vs ds)(r':Reps G α h vs' ds'):Reps G α h (vs++vs') (ds++ds'):=
 r.ind (P:=fun vs ds=>Reps G α h (vs++vs') (ds++ds')) r' fun _ _ _ _ a _ ih=>.cons a ih
theorem Reps.take(n:Nat)(r:Reps G α h vs ds):Reps G α h (vs.take n) (ds.take n):=
 r.ind (P:=fun vs ds=>∀n,Reps G α h (vs.take n) (ds.take n)) (fun n=>by cases n <;> exact .nil) (fun _ _ _ _ a _ ih n=>by
  cases n with
  |zero=>exact .nil
  |succ n=>exact .cons a (ih n)) n
theorem Reps.drop(n:Nat)(r:Reps G α h vs ds):Reps G α h (vs.drop n) (ds.drop n):=
 r.ind (P:=fun vs ds=>∀n,Reps G α h (vs.drop n) (ds.drop n)) (fun n=>by cases n <;> exact .nil) (fun _ _ _ _ a b ih n=>by
  cases n with
  |zero=>exact .cons a b
  |succ n=>exact ih n) n
theorem Reps.reverse(r:Reps G α h vs ds):Reps G α h vs.reverse ds.reverse:=
 r.ind (P:=fun vs ds=>Reps G α h vs.reverse ds.reverse) .nil fun _ _ _ _ a _ ih=>by rw[Jz,Jz];exact ih.append (.cons a .nil)
theorem Reps.set{v:Value}{d:V}(x:Rep G α h v d)(n:Nat)(r:Reps G α h vs ds):Reps G α h (vs.set n v) (ds.set n d):=
 r.ind (P:=fun vs ds=>∀n,Reps G α h (vs.set n v) (ds.set n d)) (fun n=>by cases n <;> exact .nil) (fun _ _ _ _ a b ih n=>by
  cases n with
  |zero=>exact .cons x b
  |succ n=>exact .cons a (ih n)) n
end
theorem Reps.dropLast{G:GV}{α:List Addr}{h:Heap}{vs:List Value}{ds:List V}(r:Reps G α h vs ds):Reps G α h vs.dropLast ds.dropLast:=by
 rw[List.dropLast_eq_take,List.dropLast_eq_take,r.len];exact r.take _
theorem Reps.replicate{G:GV}{α:List Addr}{h:Heap}{v:Value}{d:V}(r:Rep G α h v d):∀n:Nat,Reps G α h (List.replicate n v) (List.replicate n d)
 |0=>.nil
 |n+1=>.cons r (Reps.replicate r n)
structure HR (G:GV)(α:List Addr)(h:Heap)(H:Hp):Prop where
 len:α.length=H.length
 nodup:α.Nodup
 pos:1<=H.length
 lst:∀ (n:Nat) (a:Addr) (xs:List V),α[n]?=some a->H[n]?=some xs->∃vs:List Value,h.IsList a vs.toArray/\Reps G α h vs xs/\xs.length<=lim/\(n≠0->h.PlainList a vs.toArray)
theorem HR.at{G:GV}{α:List Addr}{h:Heap}{H:Hp}(r:HR G α h H){n:Nat}{a:Addr}(e:α[n]?=some a):∃xs,H[n]?=some xs:=by
 have:n<H.length:=by rw[<- r.len];exact (Hs.mp e).1
 exact ⟨H[n],Hx this⟩
theorem ew{h h':Heap}{a:Addr}{items:Array Value}(x:h.IsList a items)(k:KeepsH h h'):h'.IsList a items:=x.elim fun o g=>⟨o,k _ _ g.1,g.2⟩
theorem dc{h h':Heap}{a:Addr}{items:Array Value}(x:h.PlainList a items)(k:KeepsH h h'):h'.PlainList a items:=x.elim fun n e=>⟨n,k _ _ e⟩
theorem HR.keeps{G:GV}{α:List Addr}{h h':Heap}{H:Hp}(r:HR G α h H)(k:KeepsH h h'):HR G α h' H:=
 ⟨r.len,r.nodup,r.pos,fun n a xs e1 e2=>(r.lst n a xs e1 e2).elim fun vs g=>⟨vs,ew g.1 k,g.2.1.mono (fun _ _ e=>e) (.of k),g.2.2.1,fun hn=>dc (g.2.2.2 hn) k⟩⟩
theorem HR.push{G:GV}{α:List Addr}{h h':Heap}{H:Hp}(r:HR G α h H)(k:KeepsH h h'){a:Addr}(ha:a ∉ α){vs:List Value}{xs:List V}(hl:h'.PlainList a vs.toArray)(q:Reps G α h' vs xs)(z:xs.length<=lim) :
  HR G (α++[a]) h' (H++[xs]):=by
 refine ⟨by simp[r.len],?_,by simp,fun n b ys e1 e2=>?_⟩
 ·rw[List.nodup_append]
  refine ⟨r.nodup,by simp,fun x hx y hy=>?_⟩
  simp at hy;subst hy;intro e;subst e;exact ha hx
 ·by_cases hn:n<α.length
  ·rw[HI hn] at e1
   rw[HI (r.len ▸ hn)] at e2
   obtain ⟨vs,l,q,z',p⟩:=r.lst n b ys e1 e2
   exact ⟨vs,ew l k,q.up k,z',fun hn=>dc (p hn) k⟩
  ·have hn':n=α.length:=by
    have:=(Hs.mp e1).1
    simp at this;exact oqz [n,α.length] [] [(.no (.le (Y0+1) Y1)),(.le (Y0+1) (Y1+1))] (.eq Y0 Y1) [11,101] rfl hn this
   subst hn'
   rw[HN (Ht _)] at e1
   rw[HN (by rw[r.len];exact Ht _)] at e2
   simp[r.len] at e1 e2
   subst e1 e2
   exact ⟨vs,hl.isList,q.mono eC (.of (.refl _)),z,fun _=>hl⟩
theorem HR.set{G:GV}{α:List Addr}{h h':Heap}{H:Hp}(r:HR G α h H){n:Nat}{a:Addr}(e:α[n]?=some a){xs0:List V}(e0:H[n]?=some xs0)(hs:Heap.SameBut a h h'){vs:List Value}{xs:List V}(hl:h'.PlainList a vs.toArray)(q:Reps G α h vs xs)(z:xs.length<=lim) :
  KeepsT h h'/\HR G α h' (H.set n xs):=by
 obtain ⟨vs0,⟨o0,ho0,hc0,_⟩,_⟩:=r.lst n a xs0 e e0
 have kt:KeepsT h h':=fun b items x=>by
  refine x.extBut hs.extBut fun q=>?_
  subst q
  obtain ⟨o,ho,hc,_⟩:=x
  rw[ho0] at ho;cases ho
  rw[hc0] at hc;exact absurd hc (by decide)
 refine ⟨kt,by simp[r.len],r.nodup,by simpa using r.pos,fun m b ys e1 e2=>?_⟩
 by_cases hm:m=n
 ·subst hm
  rw[e] at e1;cases e1
  have hlt:m<H.length:=by rw[<- r.len];exact (Hs.mp e).1
  rw[List.getElem?_set_self hlt] at e2
  cases e2
  exact ⟨vs,hl.isList,q.mono (fun _ _ e=>e) kt,z,fun _=>hl⟩
 ·rw[JS (Ne.symm hm)] at e2
  obtain ⟨vs',l,q',z',p⟩:=r.lst m b ys e1 e2
  have hab:b≠a:=fun hba=>by
   subst hba
   have h1:=(Hs.mp e1)
   have h2:=(Hs.mp e)
   obtain ⟨l1,g1⟩:=h1
   obtain ⟨l2,g2⟩:=h2
   exact hm ((List.getElem_inj r.nodup).mp (g1.trans g2.symm))
  exact ⟨vs',l.extBut hs.extBut hab,q'.mono (fun _ _ e=>e) kt,z',fun hn=>(p hn).elim fun n' e'=>⟨n',hs.extBut _ _ hab e'⟩⟩
end Mine
namespace Mine
open PySem PyProof.Rows PySem.Calls
structure cW where
 name:Str
 params:Arguments
 body:List Stmt
 scope:Scope
noncomputable def bltNames:List Str:=["abs","len","int","list","tuple","min","isinstance","reversed","range","bool"]
structure GF (G:GV)(gc:GC)(DT:List cW)(h:Heap):Prop where
 g:h.Ns mainGlobals G.mg
 b:h.Ns builtinsNs G.mb
 nolimit:h.NoLimit
 seer:h.NoSeer
 fn:∀ (k:Nat) (x:Str),gc.fns[k]?=some x->G.mg x=some (.ref (G.fa k))/\∃d o pm cd doc,DT[k]?=some d/\d.name=x/\h.get? (G.fa k)=some o /\
  o.data=.func (docDef d.name d.params d.body d.scope pm cd doc)/\h.CodeRec cd d.name
 blt:∀x∈bltNames,G.mg x=none/\G.mb x=bootBuiltins x
 glob:∀x a b,(x,a,b)∈gc.globs->∃t ta tb,G.mg x=some (.ref t)/\IsTup h t #[.int a ta,.int b tb]
theorem GF.keeps{G:GV}{gc:GC}{DT:List cW}{h h':Heap}(F:GF G gc DT h)(k:KeepsH h h'):GF G gc DT h' where
 g:=F.g.keeps k
 b:=F.b.keeps k
 nolimit:=F.nolimit.keeps k
 seer:=F.seer.keeps k
 fn:=fun i x e=>dS (F.fn i x e) fun a d o pm cd doc b c f g r=>⟨a,d,o,pm,cd,doc,b,c,k _ _ f,g,r.keeps k⟩
 blt:=F.blt
 glob:=fun x a b e=>iQ (F.glob x a b e) fun t ta tb m i=>⟨t,ta,tb,m,i.keeps k⟩
structure bP (c:MC)(env:Env):Prop where
 kind:env.scope.kind=.function
 globals:env.globals=mainGlobals
 builtins:env.builtins=builtinsNs
 loc:∀x,c.scope.names.lookup x=some NameKind.local->env.kindOf x=some .local
 glob:∀x,c.scope.names.lookup x=some NameKind.globalImplicit->env.kindOf x=some .globalImplicit
 cel:∀x,c.scope.names.lookup x=some NameKind.cell->env.kindOf x=some .cell
 fre:∀x,c.scope.names.lookup x=some NameKind.free->env.kindOf x=some .cell\/env.kindOf x=some .free
 cells:∀x,env.kindOf x=some .cell\/env.kindOf x=some .free->∃a,env.cells.lookup x=some a
noncomputable def VarAt(env:Env)(h:Heap)(x:Str)(v:Value):Prop:=
 (env.kindOf x=some .local/\∃m,h.Ns env.locals m/\m x=some v) \/
 ((env.kindOf x=some .cell\/env.kindOf x=some .free)/\∃c,env.cells.lookup x=some c/\h.IsCell c (some v))
theorem i5{h h':Heap}{c:Addr}{v:Option Value}(x:h.IsCell c v)(k:KeepsH h h'):h'.IsCell c v:=x.elim fun o g=>⟨o,k _ _ g.1,g.2⟩
theorem VarAt.keeps{env:Env}{h h':Heap}{x:Str}{v:Value}(a:VarAt env h x v)(k:KeepsH h h'):VarAt env h' x v:=by
 rcases a with ⟨a,m,b,c⟩ | ⟨a,c,b,d⟩
 ·exact .inl ⟨a,m,b.keeps k,c⟩
 ·exact .inr ⟨a,c,b,i5 d k⟩
noncomputable def FI(G:GV)(c:MC)(env:Env)(α:List Addr)(h:Heap)(ρ:Loc):Prop:=
 ∀ (i:Nat) (x:Str) (d:V),c.names[i]?=some x->ah ρ i=some d->∃v,VarAt env h x v/\Rep G α h v d
theorem FI.up{G:GV}{c:MC}{env:Env}{α β:List Addr}{h h':Heap}{ρ:Loc}(F:FI G c env α h ρ)(k:KeepsH h h'):FI G c env (α++β) h' ρ:=
 fun i x d e1 e2=>(F i x d e1 e2).elim fun v g=>⟨v,g.1.keeps k,g.2.up k⟩
inductive Post {γ δ:Type} (G:GV) (RR:List Addr->Heap->γ->δ->Prop) (s:Shared) (α:List Addr) (H:Hp) (Q:δ->Hp->Prop) (v:γ) (s':Shared):Prop
 |mk (h':Heap) (tk:Nat) (β:List Addr) (K:Hp) (d:δ) (e:s'={ s with heap:=h',toks:=tk }) (k:KeepsH s.heap h') (f:∀b∈β,s.heap.get? b=none) (R:HR G (α++β) h' (H++K)) (r:RR (α++β) h' v d) (q:Q d (H++K))
section
variable {prog:Program}{w:World}{A:Around}{E:Value->Shared->Prop}{s:Shared}{G:GV}{α:List Addr}{H:Hp}
theorem Post.same{γ δ:Type}{RR:List Addr->Heap->γ->δ->Prop}{Q:δ->Hp->Prop}{v:γ}{d:δ}(R:HR G α s.heap H)(r:RR α s.heap v d)(q:Q d H)(tk:Nat):Post G RR s α H Q v { s with toks:=tk }:=
 ⟨s.heap,tk,[],[],d,rfl,.refl _,by simp,by simpa using R,by simpa using r,by simpa using q⟩
theorem Post.same'{γ δ:Type}{RR:List Addr->Heap->γ->δ->Prop}{Q:δ->Hp->Prop}{v:γ}{d:δ}(R:HR G α s.heap H)(r:RR α s.heap v d)(q:Q d H):Post G RR s α H Q v s:=
 Post.same R r q s.toks
theorem Post.trans{γ δ:Type}{RR:List Addr->Heap->γ->δ->Prop}{Q:δ->Hp->Prop}{v:γ}{s':Shared}{h₁:Heap}{tk₁:Nat}{β:List Addr}{K:Hp}
  (k:KeepsH s.heap h₁) (f:∀b∈β,s.heap.get? b=none) (p:Post G RR { s with heap:=h₁,toks:=tk₁ } (α++β) (H++K) Q v s'):Post G RR s α H Q v s':=by
 obtain ⟨h',tk,β',K',d,rfl,k',f',R,r,q⟩:=p
 refine ⟨h',tk,β++β',K++K',d,rfl,k.trans k',fun b hb=>?_,by simpa using R,by simpa using r,by simpa using q⟩
 rcases Ik.mp hb with hb|hb
 ·exact f b hb
 ·cases e:s.heap.get? b with
  |none=>rfl
  |some o=>have:=k b o e;rw[show h₁.get? b=none from f' b hb] at this;cases this
theorem Post.then{γ δ γ' δ':Type}{RR:List Addr->Heap->γ->δ->Prop}{RR':List Addr->Heap->γ'->δ'->Prop}{Q:δ->Hp->Prop}{Q':δ'->Hp->Prop}{v:γ}{s1:Shared}{t:Sem γ'}
  (p:Post G RR s α H Q v s1)
  (h:∀h₁ tk₁ β K d,KeepsH s.heap h₁->(∀b∈β,s.heap.get? b=none)->HR G (α++β) h₁ (H++K)->RR (α++β) h₁ v d->Q d (H++K) ->
   wpAny (model prog w) A t (Post G RR' { s with heap:=h₁,toks:=tk₁ } (α++β) (H++K) Q') E { s with heap:=h₁,toks:=tk₁ }) :
  wpAny (model prog w) A t (Post G RR' s α H Q') E s1:=by
 obtain ⟨h',tk,β,K,d,rfl,k,f,R,r,q⟩:=p
 exact wpAny_mono (h h' tk β K d k f R r q) (fun _ _ x=>x.trans k f) fun _ _ x=>x
theorem Post.go{γ δ γ':Type}{RR:List Addr->Heap->γ->δ->Prop}{Q:δ->Hp->Prop}{v:γ}{s1:Shared}{t:Sem γ'}{Z:γ'->Shared->Prop}
  (p:Post G RR s α H Q v s1)
  (h:∀h₁ tk₁ β K d,KeepsH s.heap h₁->(∀b∈β,s.heap.get? b=none)->HR G (α++β) h₁ (H++K)->RR (α++β) h₁ v d->Q d (H++K) ->
   wpAny (model prog w) A t Z E { s with heap:=h₁,toks:=tk₁ }) :
  wpAny (model prog w) A t Z E s1:=by
 obtain ⟨h',tk,β,K,d,rfl,k,f,R,r,q⟩:=p
 exact h h' tk β K d k f R r q
end
theorem MC.isVar_spec{c:MC}{i:Nat}{x:Str} (h:c.isVar i x=true):c.names[i]?=some x/\(x == Str.ofString "__debug__")=false/\(x == Str.ofString "__classdict__")=false ∧
  (c.scope.names.lookup x=some NameKind.local\/c.scope.names.lookup x=some NameKind.cell\/c.scope.names.lookup x=some NameKind.free):=by
 unfold MC.isVar at h
 simp only[Iu,Bool.or_eq_true,IR,Bool.not_eq_true'] at h
 obtain ⟨⟨⟨a,b⟩,d⟩,e⟩:=h
 exact ⟨a,b,d,by rcases e with (e|e) |e <;> simp[e]⟩
theorem MC.isGlob_spec{c:MC}{x:Str} (h:c.isGlob x=true):c.scope.names.lookup x=some NameKind.globalImplicit/\(x == Str.ofString "__debug__")=false:=by
 unfold MC.isGlob at h
 simpa only [Iu,IR,Bool.not_eq_true'] using h
section
variable {M:Model}{A:Around}{E:Value->Shared->Prop}{s:Shared}{c:MC}{env:Env}{Q:Value->Shared->Prop}
theorem fC{i:Nat}{x:Str}{pos:Pos}{v:Value}(O:bP c env)(hx:c.isVar i x=true)(hv:VarAt env s.heap x v)(h:Q v s):wpAny M A (eval (.Name x pos) env) Q E s:=by
 refine cv (MC.isVar_spec hx) fun _ hd hn _=>?_
 refine wpAny_Name ?_ hd
 rcases hv with ⟨k,m,hm,e⟩ | ⟨k|k,cc,hc,hv⟩
 ·exact wpAny_loadName_local O.kind k hm e h
 ·exact wpAny_loadName_cell O.kind k hc hv h
 ·exact wpAny_loadName_free O.kind k hc hv h hn
theorem gQ{G:GV}{x:Str}{pos:Pos}{v:Value}(O:bP c env)(hx:c.isGlob x=true)(hg:s.heap.Ns mainGlobals G.mg)(hv:G.mg x=some v)(h:Q v s):wpAny M A (eval (.Name x pos) env) Q E s:=by
 obtain ⟨hk,hd⟩:=MC.isGlob_spec hx
 exact Name_function_global O.kind (O.glob x hk) (loadGlobal_global (O.globals ▸ hg) hv h) hd
theorem xQ{G:GV}{x:Str}{pos:Pos}{v:Value}(O:bP c env)(hx:c.isGlob x=true)(hg:s.heap.Ns mainGlobals G.mg)(hm:G.mg x=none)(hb:s.heap.Ns builtinsNs G.mb)(hv:G.mb x=some v)(h:Q v s) :
  wpAny M A (eval (.Name x pos) env) Q E s:=by
 obtain ⟨hk,hd⟩:=MC.isGlob_spec hx
 exact Name_function_global O.kind (O.glob x hk) (loadGlobal_builtin (O.globals ▸ hg) hm (O.builtins ▸ hb) hv h) hd
end
structure AOk (prog:Program)(A:Around):Prop where
 handled:A.handled=none
 units:A.units+100<cLine
 py:∀ (w:World) (s:Shared),s.heap.NoLimit->s.heap.NoSeer->PylongRoom (model prog w) A s
noncomputable def f4(prog:Program)(w:World)(G:GV)(gc:GC)(DT:List cW)(A:Around)(Φ:Call):Prop:=
 ∀ (f:Nat) (x:Str) (vs:List V) (H:Hp) (Q:V->Hp->Prop),gc.fns[f]?=some x->Φ f vs H Q (fun _ _=>False)->∀ (s:Shared) (α:List Addr) (vals:List Value) (E:Value->Shared->Prop),
  GF G gc DT s.heap->HR G α s.heap H->Reps G α s.heap vals vs->wpAny (model prog w) A (call (.ref (G.fa f)) vals) (Post G (Rep G) s α H Q) E s
structure SX where
 prog:Program
 w:World
 G:GV
 DT:List cW
 A:Around
 sub:Nat->Nat->Bool
 Φ:Call
noncomputable def SE(X:SX)(c:MC)(pe:PE)(e:Expr):Prop:=
 ∀ (env:Env) (s:Shared) (α:List Addr) (ρ:Loc) (H:Hp) (Q:V->Hp->Prop) (E:Value->Shared->Prop),bP c env->GF X.G c.g X.DT s.heap->HR X.G α s.heap H->FI X.G c env α s.heap ρ ->
  wpE X.sub X.Φ pe ρ H Q->wpAny (model X.prog X.w) X.A (eval e env) (Post X.G (Rep X.G) s α H Q) E s
noncomputable def SEs(X:SX)(c:MC)(pes:PEs)(es:List Expr):Prop:=
 ∀ (env:Env) (s:Shared) (α:List Addr) (ρ:Loc) (H:Hp) (Q:List V->Hp->Prop) (E:Value->Shared->Prop) (pos:Pos),bP c env->GF X.G c.g X.DT s.heap->HR X.G α s.heap H->FI X.G c env α s.heap ρ ->
  et X.sub X.Φ pes ρ H Q->wpAny (model X.prog X.w) X.A (spliced (backTo pos (starEach es env))) (Post X.G (fun α h vs ds=>Reps X.G α h vs ds/\vs.length=es.length) s α H Q) E s
section
variable {X:SX}{c:MC}
theorem Ak{i k:_}{pos:Pos}:SE X c (.cint i) (.Constant (.int i) k pos):=fun env s α ρ H Q E _ _ R _ q =>
 wpAny_Constant_int (Post.same R (Rep.int _ _) q _)
theorem wS{i k:_}{pos:Pos}:SE X c (.cbool i) (.Constant (.bool i) k pos):=fun env s α ρ H Q E _ _ R _ q =>
 wpAny_Constant_bool (Post.same' R (Rep.bool _) q)
theorem sV{i k:_}{pos:Pos}:SE X c (.cstr i) (.Constant (.str i) k pos):=fun env s α ρ H Q E _ _ R _ q =>
 wpAny_Constant_str (Post.same R (Rep.str _ _) q _)
theorem DM{i:Nat}{x:Str}{pos:Pos}(hx:c.isVar i x=true):SE X c (.var i) (.Name x pos):=fun env s α ρ H Q E O _ R F q=>by
 refine ac (ifSome.get q) fun v e q=>?_
 refine ac (F i x v (MC.isVar_spec hx).1 e) fun u hu r=>?_
 exact fC O hx hu (Post.same' R r q)
theorem DZ{i:Nat}{x:Str}{pos:Pos}(hf:c.g.fns[i]?=some x)(hx:c.isGlob x=true):SE X c (.fnv i) (.Name x pos):=fun env s α ρ H Q E O T R F q =>
 gQ O hx T.g (T.fn i x hf).1 (Post.same' R (Rep.fn rfl) q)
theorem A7{x:Str}{a b:Int}{pos:Pos}(hf:(x,a,b)∈c.g.globs)(hx2:c.isGlob x=true):SE X c (.glob x a b) (.Name x pos):=fun env s α ρ H Q E O T R F q=>by
 refine iQ (T.glob x a b hf) fun t ta tb hm ht=>?_
 exact gQ O hx2 T.g hm (Post.same' R (Rep.tup (vs:=[.int a ta,.int b tb]) ht (.cons (.int _ _) (.cons (.int _ _) .nil)) (by show 2<=lim;decide)) q)
theorem aJ{e:Expr}{es:List Expr}{env:Env}(h:cZ e=true):starEach (e::es) env=(false,eval e env)::starEach es env:=by
 cases e <;> first|rfl|cases h
theorem sO:SEs X c .nil []:=fun env s α ρ H Q E pos _ _ R _ q=>args_nil (Post.same' R ⟨Reps.nil,rfl⟩ q)
theorem pO{pe:PE}{e:Expr}{ps:PEs}{es:List Expr}(hs:cZ e=true)(h1:SE X c pe e)(h2:SEs X c ps es):SEs X c (.cons pe ps) (e::es):=
 fun env s α ρ H Q E pos O T R F q=>by
 have he:=aJ (es:=es) (env:=env) hs
 refine args_cons (wpAny_mono (h1 env s α ρ H _ E O T R F q) (fun v s1 p=>?_) fun _ _ x=>x) he
 refine p.go fun h₁ tk₁ β K d k f R' r q'=>?_
 refine wpAny_mono (h2 env _ (α++β) ρ (H++K) _ E pos O (T.keeps k) R' (F.up k) q') (fun vs s2 p2=>?_) fun _ _ x=>x
 obtain ⟨h₂,tk2,β2,K2,ds,rfl,k2,f2,R2,r2,q2⟩:=p2
 refine Post.trans (tk₁:=tk₁) k f ⟨h₂,tk2,β2,K2,d::ds,rfl,k2,f2,R2,⟨.cons (r.up k2) r2.1,by simp[r2.2]⟩,q2⟩
theorem bc(h:Heap)(o:Obj):KeepsH h (h.push o):=fun _ _ e=>IY o e
theorem gA{h:Heap}{a:Addr}(ha:h.objs.size<=a):h.get? a=none:=by
 cases e:h.get? a with
 |none=>rfl
 |some o=>exact absurd (I8 e) (Nat.not_lt.mpr ha)
theorem cO(h:Heap):h.get? h.objs.size=none:=by
 cases e:h.get? h.objs.size with
 |none=>rfl
 |some o=>exact absurd (I8 e) (Nat.lt_irrefl _)
theorem fh:lim<=sizeLine:=by rw[sizeLine_eq];decide
theorem Post.newTup{s:Shared}{G:GV}{α:List Addr}{H:Hp}{vs:List Value}{xs:List V}{Q:V->Hp->Prop}(R:HR G α s.heap H)(r:Reps G α s.heap vs xs)(z:xs.length<=lim)(q:Q (.tup xs) H){n:Nat}(tk:Nat) :
  Post G (Rep G) s α H Q (.ref s.heap.objs.size) { s with heap:=s.heap.push { cls:=.type "tuple",data:=.seq vs.toArray n },toks:=tk }:=by
 refine ⟨_,tk,[],[],.tup xs,rfl,bc _ _,by simp,by simpa using R.keeps (bc _ _),?_,by simpa using q⟩
 exact Rep.tup (vs:=vs) ⟨_,HJ _ rfl,rfl,n,rfl⟩ (r.up (bc _ _)) z
theorem Post.newLst{s:Shared}{G:GV}{α:List Addr}{H:Hp}{vs:List Value}{xs:List V}{Q:V->Hp->Prop}(R:HR G α s.heap H){h':Heap}(k:KeepsH s.heap h')(r:Reps G α h' vs xs)(z:xs.length<=lim)(q:Q (.lst H.length) (H++[xs]))
  {D:Addr} (hD:s.heap.get? D=none) (hl:h'.PlainList D vs.toArray) (tk:Nat) :
  Post G (Rep G) s α H Q (.ref D) { s with heap:=h',toks:=tk }:=by
 refine ⟨h',tk,[D],[xs],.lst H.length,rfl,k,by simpa using hD,R.push k (fun hm=>?_) hl r z,?_,q⟩
 ·obtain ⟨n,hn⟩:=List.mem_iff_getElem?.mp hm
  obtain ⟨ys,hy⟩:=R.at hn
  refine ac (R.lst n D ys hn hy) fun us zq3 _=>?_;refine ac (zq3) fun o ho _=>?_
  rw[hD] at ho;cases ho
 ·refine Rep.lst ?_
  rw[HN (by rw[R.len];exact Ht _)];simp[R.len]
theorem Post.newLst'{s:Shared}{G:GV}{α:List Addr}{H:Hp}{vs:List Value}{xs:List V}{Q:V->Hp->Prop}(R:HR G α s.heap H)(r:Reps G α s.heap vs xs)(z:xs.length<=lim)(q:Q (.lst H.length) (H++[xs])){n:Nat}(tk:Nat) :
  Post G (Rep G) s α H Q (.ref s.heap.objs.size) { s with heap:=s.heap.push { cls:=.type "list",data:=.seq vs.toArray n },toks:=tk }:=
 Post.newLst R (bc _ _) (r.mono (fun _ _ e=>e) (.of (bc _ _))) z q (cO _) ⟨n,HJ _ rfl⟩ tk
theorem D9{ps:PEs}{es:List Expr}{k:Nat}{pos:Pos}(hn:es.length<=1000)(h:SEs X c ps es):SE X c (.tup ps) (.Tuple es k pos):=fun env s α ρ H Q E O T R F q=>by
 refine wpAny_Tuple (wpAny_mono (h env s α ρ H _ E pos O T R F q) (fun vs s1 p=>?_) fun _ _ x=>x)
 obtain ⟨h₁,tk₁,β,K,ds,rfl,k1,f,R',r,q'⟩:=p
 have hl:=r.1.len
 refine ⟨by rw[r.2];exact Hj hn (Hj (by decide) fh),Post.trans (tk₁:=tk₁) (K:=K) k1 f ?_⟩
 exact Post.newTup (s:={ s with heap:=h₁,toks:=tk₁ }) R' r.1 (by rw[<- hl,r.2];exact Hj hn (by decide)) q' tk₁
theorem Do{ps:PEs}{es:List Expr}{pos:Pos}(hn:es.length<=1000)(h:SEs X c ps es):SE X c (.lst ps) (.List es pos):=fun env s α ρ H Q E O T R F q=>by
 refine wpAny_List (wpAny_mono (h env s α ρ H _ E pos O T R F q) (fun vs s1 p=>?_) fun _ _ x=>x)
 obtain ⟨h₁,tk₁,β,K,ds,rfl,k1,f,R',r,q'⟩:=p
 have hl:=r.1.len
 refine ⟨by rw[r.2];exact Hj hn (Hj (by decide) fh),Post.trans (tk₁:=tk₁) (K:=K) k1 f ?_⟩
 exact Post.newLst' (s:={ s with heap:=h₁,toks:=tk₁ }) R' r.1 (by rw[<- hl,r.2];exact Hj hn (by decide)) q' tk₁
theorem two{a b:PE}{l r:Expr}{ρ:Loc}{env:Env}{s:Shared}{α:List Addr}{H:Hp}{E:Value->Shared->Prop}{Q:V->V->Hp->Prop}{Z:Value->Value->Shared->Prop}(h1:SE X c a l)(h2:SE X c b r)
  (O:bP c env) (T:GF X.G c.g X.DT s.heap) (R:HR X.G α s.heap H) (F:FI X.G c env α s.heap ρ)
  (q:wpE X.sub X.Φ a ρ H fun x H1=>wpE X.sub X.Φ b ρ H1 fun y H2=>Q x y H2)
  (hz:∀h' tk β K u v x y,KeepsH s.heap h'->(∀b∈β,s.heap.get? b=none)->HR X.G (α++β) h' (H++K)->Rep X.G (α++β) h' u x->Rep X.G (α++β) h' v y->Q x y (H++K)->Z u v { s with heap:=h',toks:=tk }) :
  wpAny (model X.prog X.w) X.A (eval l env) (fun u s1=>wpAny (model X.prog X.w) X.A (eval r env) (fun v s2=>Z u v s2) E s1) E s:=by
 refine wpAny_mono (h1 env s α ρ H _ E O T R F q) (fun u s1 p=>?_) fun _ _ x=>x
 refine p.go fun h₁ tk₁ β K d k f R' r q'=>?_
 refine wpAny_mono (h2 env _ (α++β) ρ (H++K) _ E O (T.keeps k) R' (F.up k) q') (fun v s2 p2=>?_) fun _ _ x=>x
 obtain ⟨h₂,tk2,β2,K2,e,rfl,k2,f2,R2,r2,q2⟩:=p2
 have:=hz h₂ tk2 (β++β2) (K++K2) u v d e (k.trans k2) (fun b hb=>?_) (by simpa using R2) (by simpa using (r.up (β:=β2) k2)) (by simpa using r2) (by simpa using q2)
 ·exact this
 ·rcases Ik.mp hb with hb|hb
  ·exact f b hb
  ·cases e:s.heap.get? b with
   |none=>rfl
   |some o=>have:=k b o e;rw[show h₁.get? b=none from f2 b hb] at this;cases this
section
variable {prog:Program}{w:World}{A:Around}{E:Value->Shared->Prop}{s:Shared}
theorem rY{l b:Addr}{vs ws:List Value}{Z:Value->Shared->Prop}(hl:s.heap.IsList l vs.toArray)(hb:s.heap.IsList b ws.toArray)(hsz:vs.length+ws.length<=sizeLine)
  (h:Z (.ref s.heap.objs.size) { s with heap:=s.heap.push { cls:=.type "list",data:=.seq (vs ++ ws).toArray } }):wpAny (model prog w) A (binaryOp .Add (.ref l) (.ref b)) Z E s:=by
 refine bS (hl) fun zq2 o1 e1 n1 f1=>?_;obtain ⟨c1,d1,t1,sl1⟩:=zq2
 refine bS (hb) fun zq1 o2 e2 n2 f2=>?_;obtain ⟨c2,d2,t2,sl2⟩:=zq1
 dsimp only at e1 f1 e2 f2
 subst e1 f1 e2 f2
 refine concat_meets ⟨_,o1,rfl⟩ ⟨_,o2,rfl⟩ noFill_list_add seq_list_add PySem.F.slot_list_add PySem.F.entry_list_add (PySem.F.args_list_add_2 _ _) (list_addW l b vs.toArray ws.toArray n1 n2 d1 d2 sl1 sl2 (by simpa using hsz)) ⟨o1,o2,?_⟩
 simpa using h
end
end
section
variable {prog:Program}{w:World}{A:Around}{E:Value->Shared->Prop}{s:Shared}{G:GV}{α:List Addr}{H:Hp}{Q:V->Hp->Prop}
theorem HR.getList(R:HR G α s.heap H){a:Addr}{n:Nat}{xs:List V}(e:α[n]?=some a)(h:H[n]?=some xs):∃vs:List Value,s.heap.IsList a vs.toArray/\Reps G α s.heap vs xs/\xs.length<=lim/\vs.length<=lim:=by
 refine cy (R.lst n a xs e h) fun vs l r z _=>?_
 exact ⟨vs,l,r,z,by rw[r.len];exact z⟩
theorem kW{v:Value}{d:V}{xs:List V}(R:HR G α s.heap H)(r:Rep G α s.heap v d)(e:items H d=some xs) :
  ∃ (a:Addr) (vs:List Value),v=.ref a/\Reps G α s.heap vs xs/\xs.length<=lim/\vs.length<=lim/\((IsTup s.heap a vs.toArray/\∃ys,d=.tup ys)\/(s.heap.IsList a vs.toArray/\∃n,d=.lst n)):=by
 cases r with
 |tup t q z=>cases e;exact ⟨_,_,rfl,q,z,by rw[q.len];exact z,.inl ⟨t,_,rfl⟩⟩
 |lst q =>
  refine cy (R.getList q e) fun vs l r z y=>?_
  exact ⟨_,vs,rfl,r,z,y,.inr ⟨l,_,rfl⟩⟩
 |_=>cases e
theorem lu(v:Value):∀n:Nat,List.foldl (fun x1 x2:Array Value=>x1++x2) #[] (List.replicate n #[v])=(List.replicate n v).toArray:=by
 intro n
 have key:∀ (n:Nat) (acc:Array Value),List.foldl (fun x1 x2:Array Value=>x1++x2) acc (List.replicate n #[v])=acc++(List.replicate n v).toArray:=by
  intro n
  induction n with
  |zero=>intro acc;simp
  |succ n ih =>
   intro acc
   rw[List.replicate_succ,List.foldl_cons,ih,List.replicate_succ]
   apply Array.ext'
   simp
 rw[key];simp
theorem vL{l:Addr}{v:Value}{k:Int}{u:Tok}{Z:Value->Shared->Prop}(hl:s.heap.IsList l [v].toArray)(h0:0<=k)(h1:k<=lim)
  (h:Z (.ref s.heap.objs.size) { s with heap:=s.heap.push { cls:=.type "list",data:=.seq (List.replicate k.toNat v).toArray } }):wpAny (model prog w) A (binaryOp .Mult (.ref l) (.int k u)) Z E s:=by
 refine bS (hl) fun zq10 o1 e1 n1 f1=>?_;obtain ⟨c1,d1,t1,sl1⟩:=zq10
 dsimp only at e1 f1
 subst e1 f1
 have hk:k.toNat<=1000000:=by have h2:k<=1000000:=h1;exact oqz [k.toNat] [k] [(.il Y0 1000000),(otn Y0 Y0)] (.le Y0 1000000) [1011,1001] rfl h2 (aR (k))
 have hk':k<=1000000:=h1
 refine wpAny_binaryOp_repeat_ref (T:="list") (U:="int") (by decide) ⟨_,o1,rfl⟩ (fun s'=>typeIs_int s' k u) noFill_list_mul F.fills_int_mul F.slot_int_rmul repeat_list F.slot_int_index.lookup
  (call_meets F.slot_int_rmul (typeIs_int s k u) F.entry_int_rmul (F.args_int_rmul_2 _ _) (lm_int_rmul_list_any k u l [v].toArray n1 d1 sl1)
   ⟨o1,rfl,⟨_,o1,rfl⟩,call_meets F.slot_list_mul ⟨_,o1,rfl⟩ F.entry_list_mul (F.args_list_mul_2 _ _)
    (lm_list_mul_any l [v].toArray n1 d1 sl1 k u (by simp[Builtin.List.listFitsIndex];exact oqz [] [k] [(.il 0 Y0),(.il Y0 1000000)] (.an (.il (.g 9223372036854775808) Y0) (.il (Y0+1) 9223372036854775808)) [11,101] rfl h0 hk') (by simp;exact oqz [] [k] [(.il Y0 1000000)] (.il Y0 1152921504606846975) [11] rfl hk') (by simp[Builtin.List.listTooLong,sizeLine];exact oqz [] [k] [(.il Y0 1000000)] (.il Y0 16777216) [11] rfl hk'))
    ⟨o1,?_⟩⟩)
 have e:(if ([v].toArray).isEmpty=true then 0 else k.toNat)=k.toNat:=by simp
 rw[e,show ([v].toArray:Array Value)=#[v] from rfl,lu]
 exact h
theorem oV{op:BOp}{u v:Value}{x y:V}(hP:PylongRoom (model prog w) A s)(R:HR G α s.heap H)(ru:Rep G α s.heap u x)(rv:Rep G α s.heap v y)(q:gj op x y H Q) :
  wpAny (model prog w) A (binaryOp (EB op) u v) (Post G (Rep G) s α H Q) E s:=by
 cases op
 ·refine (ifIL.get q).elim (fun q=>ac q fun a e q=>ac (ifInt.get q) fun b e' q=>by (apply ru.ii rv e e';intro t t';exact add_int (Post.same R (.int _ _) q _))) fun q0=>ac q0 fun m e q1=>?_
  refine ac (ifLst.get q1) fun n e' q2=>?_
  clear q q0 q1;subst e;cases e'
  refine ac (ru.lst_inv) fun a zq9 e1=>?_;subst zq9
  refine ac (rv.lst_inv) fun b zq8 e2=>?_;subst zq8
  refine ac (ifSome.get q2) fun xs h1 q=>?_
  refine cw (ifSome.get q) fun ys h2 hz q=>?_
  refine cy (R.getList e1 h1) fun vs l1 r1 z1 z1'=>?_
  refine cy (R.getList e2 h2) fun ws l2 r2 z2 z2'=>?_
  have hlen:vs.length+ws.length<=lim:=by rw[r1.len,r2.len];exact hz
  exact rY l1 l2 (Hj hlen fh) (Post.newLst' R (r1.append r2) (by rw[Hl];exact hz) q s.toks)
 ·exact ay (ifI2.get q) fun a b e e' q=>by (apply ru.ii rv e e';intro t t';exact sub_int (Post.same R (.int _ _) q _))
 ·refine (ifIL.get q).elim (fun q=>ac q fun a e q=>ac (ifInt.get q) fun b e' q=>by (apply ru.ii rv e e';intro t t';exact mul_int (Post.same R (.int _ _) q.2 _) q.1)) fun q0=>ac q0 fun m e q1=>ac (ifInt.get q1) fun k e' q2=>?_
  clear q q0 q1;subst e;subst e'
  refine ac (ru.lst_inv) fun a zq7 e1=>?_;subst zq7
  obtain ⟨t',rfl⟩:=rv.int_inv
  refine cy (q2) fun x h1 h0 hk q=>?_
  refine cy (R.getList e1 h1) fun vs l1 r1 z1 z1'=>?_
  refine ac (r1.one_inv) fun v zq6 rx=>?_;subst zq6
  have hk':k.toNat<=lim:=by have h2:k<=1000000:=hk;show _<=1000000;exact oqz [k.toNat] [k] [(.il Y0 1000000),(otn Y0 Y0)] (.le Y0 1000000) [1011,1001] rfl h2 (aR (k))
  exact vL l1 h0 hk (Post.newLst' R (Reps.replicate rx k.toNat) (by rw[List.length_replicate];exact hk') q s.toks)
 ·exact ay (ifI2.get q) fun a b e e' q=>by (apply ru.ii rv e e';intro t t';exact floordiv_int q.1 (Post.same R (.int _ _) q.2 _) (Or.inr hP))
 ·exact ay (ifI2.get q) fun a b e e' q=>by (apply ru.ii rv e e';intro t t';exact mod_int' q.1 (Post.same R (.int _ _) q.2 _))
 ·exact ay (ifI2.get q) fun a b e e' q=>by (apply ru.ii rv e e';intro t t';exact pow_int_small q.1 (Il q.2.1 (by decide)) q.2.2.1 (Post.same R (.int _ _) q.2.2.2 _))
theorem DF{β γ:Type}{f:β->γ}{o:Option β}{c:γ}(h:o.map f=some c):∃b,o=some b/\f b=c:=by
 cases o with
 |none=>cases h
 |some b=>cases h;exact ⟨b,rfl,rfl⟩
theorem oE{cs:List Int}{vs:List Value}(r:Reps G α s.heap vs (cs.map .int)):∃as,ReadsAll s.heap vs (cs.map .int) as:=by
 induction cs generalizing vs with
 |nil=>cases r.out;exact ⟨_,.nil⟩
 |cons c cs ih =>
  obtain ⟨v,vs',rfl,a,b⟩:=r.out
  obtain ⟨t,rfl⟩:=a.int_inv
  obtain ⟨as,r⟩:=ih b
  exact ⟨_,.cons (.int _ _) r⟩
theorem oK(R:HR G α s.heap H){v:Value}{x:V}{d:PyData}(r:Rep G α s.heap v x)(h:uX H x d):∃as,Reads s.heap v d as:=by
 rcases h with ⟨cs,rfl,rfl⟩ | ⟨k,cs,rfl,hk,rfl⟩
 ·cases r with
  |tup t q z =>
   obtain ⟨as,r⟩:=oE q
   refine bS (t) fun o ho hc k hd=>?_
   exact ⟨_,.tuple ho hc hd (by simpa using r)⟩
 ·cases r with
  |lst ha =>
   refine cw (R.lst _ _ _ ha hk) fun vs zq5 q _=>?_;obtain ⟨o,ho,hc,k,hd⟩:=zq5
   obtain ⟨as,r⟩:=oE q
   exact ⟨_,.list ho hc hd (by simpa using r)⟩
end
theorem gR:∀cs:List Int,PyData.canLayAll0 (cs.map .int)=true/\PyData.depthAll (cs.map .int)=0
 | []=>⟨rfl,rfl⟩
 |c::cs=>⟨(gR cs).1,by show max 0 (PyData.depthAll (cs.map .int))=0;rw[(gR cs).2];rfl⟩
theorem dO{H:Hp}{x:V}{d:PyData}(h:uX H x d):SeqAt.shaped d=true:=by
 have key:∀cs:List Int,(PyData.canLayAll0 (cs.map .int) && decide (PyData.depthAll (cs.map .int)+1<=64))=true:=fun cs=>by
  rw[(gR cs).1,(gR cs).2];rfl
 rcases h with ⟨cs,rfl,rfl⟩ | ⟨k,cs,rfl,hk,rfl⟩
 ·exact key cs
 ·exact key cs
section
variable {prog:Program}{w:World}{A:Around}{E:Value->Shared->Prop}{s:Shared}{G:GV}{α:List Addr}{H:Hp}{Q:V->Hp->Prop}
theorem mI{op:COp}{u v:Value}{x y:V}(hA:AOk prog A)(R:HR G α s.heap H)(ru:Rep G α s.heap u x)(rv:Rep G α s.heap v y)(q:fH op x y H Q) :
  wpAny (model prog w) A (compareOp (kM op) u v) (Post G (Rep G) s α H Q) E s:=by
 have hu:=hA.units
 have eqs:∀Q',sv x y H Q'->∃da db as bs,Reads s.heap u da as/\Reads s.heap v db bs/\uX H x da/\uX H y db/\Q' (PyData.eqv da db):=fun Q' q=>by
  refine ay (q) fun da db e1 e2 q=>?_
  obtain ⟨as,r1⟩:=oK R ru e1
  obtain ⟨bs,r2⟩:=oK R rv e2
  exact ⟨da,db,as,bs,r1,r2,e1,e2,q⟩
 cases op
 ·exact ay (ifI2.get q) fun a b e e' q=>by (apply ru.ii rv e e';intro t t';exact lt_int (Post.same' R (.bool _) q))
 ·exact ay (ifI2.get q) fun a b e e' q=>by (apply ru.ii rv e e';intro t t';exact le_int (Post.same' R (.bool _) q))
 ·exact ay (ifI2.get q) fun a b e e' q=>by (apply ru.ii rv e e';intro t t';exact gt_int (Post.same' R (.bool _) q))
 ·exact ay (ifI2.get q) fun a b e e' q=>by (apply ru.ii rv e e';intro t t';exact ge_int (Post.same' R (.bool _) q))
 ·exact (ifIO.get q).elim (fun q=>ac q fun a e q=>ac (ifInt.get q) fun b e' q=>by (apply ru.ii rv e e';intro t t';exact eq_int (Post.same' R (.bool _) q))) fun q =>
   jA (eqs _ q) fun da db as bs r1 r2 e1 e2 q=>SeqAt.compareEq_shaped r1 r2 (dO e1) (dO e2) (Hj (Nat.succ_le_succ (I2 (by decide) _)) hu) (Post.same' R (.bool _) q)
 ·exact (ifIO.get q).elim (fun q=>ac q fun a e q=>ac (ifInt.get q) fun b e' q=>by (apply ru.ii rv e e';intro t t';exact ne_int (Post.same' R (.bool _) q))) fun q =>
   jA (eqs _ q) fun da db as bs r1 r2 e1 e2 q=>SeqAt.compareNe_shaped r1 r2 (dO e1) (dO e2) (Hj (Nat.succ_le_succ (I2 (by decide) _)) hu) (Post.same' R (.bool _) q)
 ·exact False.elim q
 ·exact False.elim q
 ·obtain ⟨e,q⟩:=ifNo.get q
  subst e
  cases rv.none_inv
  refine is_none (Post.same' R (.bool _) ?_)
  cases ru <;> exact q
theorem dx{u:Value}{x:V}{t:Bool}{Z:Bool->Shared->Prop}(R:HR G α s.heap H)(ru:Rep G α s.heap u x)(e:ba H x=some t)(h:∀tk,Z t { s with toks:=tk }) :
  wpAny (model prog w) A (truthy u) Z E s:=by
 cases ru with
 |int i tk=>cases e;exact truthy_int (h s.toks)
 |bool b=>cases e;exact wpAny_truthy_bool (h s.toks)
 |none=>cases e;exact fun _ _ _=>h s.toks
 |str z tk=>cases e
 |tup ht q z =>
  cases e
  have hl:=q.len
  refine truthy_tuple ht (by have:_<=1000000:=z;simp;exact oqz [_,_] [] [(.eq Y0 Y1),(.le Y1 1000000)] (.il (.a (.c Y0) 1) 9223372036854775808) [1011] rfl hl this) ?_
  rename_i vs xs
  have:(!vs.toArray.isEmpty)=!xs.isEmpty:=by cases q <;> simp
  rw[this];exact h _
 |lst ha =>
  refine ac (DF e) fun xs hx zq11=>?_;subst zq11
  refine cy (R.getList ha hx) fun vs l q z z'=>?_
  refine wpAny_truthy_list l (by have:_<=1000000:=z';simp;exact oqz [vs.length] [] [(.le Y0 1000000)] (.il (.a (.c Y0) 1) 9223372036854775808) [11] rfl this) ?_
  have:(!vs.toArray.isEmpty)=!xs.isEmpty:=by cases q <;> simp
  rw[this];exact h _
 |fn _=>cases e
end
noncomputable def SC(X:SX)(c:MC)(pe:PE)(e:Expr):Prop:=
 ∀ (env:Env) (s:Shared) (α:List Addr) (ρ:Loc) (H:Hp) (Q:Bool->Hp->Prop) (E:Value->Shared->Prop),bP c env->GF X.G c.g X.DT s.heap->HR X.G α s.heap H->FI X.G c env α s.heap ρ ->
  wpE X.sub X.Φ pe ρ H (fun v H'=>ifSome (ba H' v) fun t=>Q t H')->wpAny (model X.prog X.w) X.A (isTrue e env (eval e env)) (Post X.G (fun _ _ a b=>a=b) s α H Q) E s
noncomputable def bW(e:Expr):Prop:=∀ (env:Env) (whole:Sem Value),isTrue e env whole=(do let v <- whole;standAt e.pos;holding [v] (truthy v))
section
variable {X:SX}{c:MC}
theorem yq{pe:PE}{e:Expr}(h:SE X c pe e)(he:bW e):SC X c pe e:=fun env s α ρ H Q E O T R F q=>by
 refine wpAny_isTrue_value (wpAny_mono (h env s α ρ H _ E O T R F q) (fun v s1 p=>?_) fun _ _ x=>x) (he env _)
 obtain ⟨h₁,tk₁,β,K,d,rfl,k,f,R',r,q⟩:=p
 refine ac (ifSome.get q) fun t e q=>?_
 exact dx (s:={ s with heap:=h₁,toks:=tk₁ }) R' r e fun tk=>⟨h₁,tk,β,K,t,rfl,k,f,R',rfl,q⟩
theorem Eg{op:BOp}{a b:PE}{l r:Expr}{pos:Pos}(hA:AOk X.prog X.A)(h1:SE X c a l)(h2:SE X c b r):SE X c (.bin op a b) (.BinOp l (EB op) r pos):=fun env s α ρ H Q E O T R F q=>by
 refine wpAny_BinOp (two h1 h2 O T R F (Q:=fun x y H2=>gj op x y H2 Q) q fun h' tk β K u v x y k f R' ru rv q'=>?_)
 exact wpAny_mono (oV (s:={ s with heap:=h',toks:=tk }) (hA.py _ _ (T.nolimit.keeps k) (T.seer.keeps k)) R' ru rv q') (fun _ _ p=>p.trans k f) fun _ _ x=>x
theorem Eo{a:PE}{l:Expr}{pos:Pos}(h1:SE X c a l):SE X c (.neg a) (.UnaryOp .USub l pos):=fun env s α ρ H Q E O T R F q=>by
 refine wpAny_UnaryOp (wpAny_mono (h1 env s α ρ H _ E O T R F q) (fun v s1 p=>?_) fun _ _ x=>x)
 refine p.then fun h₁ tk₁ β K d k f R' r q'=>?_
 cases d <;> first|exact q'.elim|skip
 cases r
 exact neg_int (Post.same R' (.int _ _) q' _)
theorem F7{a:PE}{l:Expr}{pos:Pos}(h1:SE X c a l):SE X c (.nt a) (.UnaryOp .Not l pos):=fun env s α ρ H Q E O T R F q=>by
 refine wpAny_UnaryOp (wpAny_mono (h1 env s α ρ H _ E O T R F q) (fun v s1 p=>?_) fun _ _ x=>x)
 refine p.then fun h₁ tk₁ β K d k f R' r q'=>?_
 refine ac (ifSome.get q') fun t e q'=>?_
 exact not_value (dx (s:={ s with heap:=h₁,toks:=tk₁ }) R' r e fun tk=>Post.same (s:={ s with heap:=h₁,toks:=tk₁ }) R' (.bool _) q' tk)
theorem Gg{a:PE}{l:Expr}{pos:Pos}(h1:SC X c a l):SC X c (.nt a) (.UnaryOp .Not l pos):=fun env s α ρ H Q E O T R F q=>by
 refine wpAny_isTrue_Not (wpAny_mono (h1 env s α ρ H (fun t=>Q (!t)) E O T R F ?_) (fun v s1 p=>?_) fun _ _ x=>x)
 ·exact q
 ·obtain ⟨h₁,tk₁,β,K,d,rfl,k,f,R',rfl,q'⟩:=p
  exact ⟨h₁,tk₁,β,K,_,rfl,k,f,R',rfl,q'⟩
theorem CG{op:COp}{a b:PE}{l r:Expr}{pos:Pos}(hA:AOk X.prog X.A)(hm:behindInMarks (kM op) r=false)(h1:SE X c a l)(h2:SE X c b r):SE X c (.cmp op a b) (.Compare l [kM op] [r] pos):=fun env s α ρ H Q E O T R F q=>by
 refine wpAny_Compare1 (two h1 h2 O T R F (Q:=fun x y H2=>fH op x y H2 Q) q fun h' tk β K u v x y k f R' ru rv q'=>?_) hm
 exact wpAny_mono (mI (s:={ s with heap:=h',toks:=tk }) hA R' ru rv q') (fun _ _ p=>p.trans k f) fun _ _ x=>x
theorem CO{op:COp}{a b:PE}{l r:Expr}{pos:Pos}(hA:AOk X.prog X.A)(hm:behindInMarks (kM op) r=false)(h1:SE X c a l)(h2:SE X c b r):SC X c (.cmp op a b) (.Compare l [kM op] [r] pos):=fun env s α ρ H Q E O T R F q=>by
 refine wpAny_isTrue_Compare1 (two h1 h2 O T R F (Q:=fun x y H2=>fH op x y H2 _) q fun h' tk β K u v x y k f R' ru rv q'=>?_) hm
 refine wpAny_mono (mI (s:={ s with heap:=h',toks:=tk }) hA R' ru rv q') (fun v s1 p=>?_) fun _ _ x=>x
 obtain ⟨h₂,tk2,β2,K2,d,rfl,k2,f2,R2,r2,q2⟩:=p
 refine ac (ifSome.get q2) fun t e q2=>?_
 refine dx (s:={ s with heap:=h₂,toks:=tk2 }) R2 r2 e fun tk'=>?_
 exact Post.trans (tk₁:=tk) k f ⟨h₂,tk',β2,K2,t,rfl,k2,f2,R2,rfl,q2⟩
noncomputable def og(X:SX)(c:MC)(b:Bool)(ps:PEs)(es:List Expr):Prop:=
 ∀ (env:Env) (s:Shared) (α:List Addr) (ρ:Loc) (H:Hp) (Q:V->Hp->Prop) (E:Value->Shared->Prop) (pos:Pos),bP c env->GF X.G c.g X.DT s.heap->HR X.G α s.heap H->FI X.G c env α s.heap ρ ->
  cF X.sub X.Φ b ps ρ H Q->wpAny (model X.prog X.w) X.A (boolOp pos (if b then .And else .Or) (evalEach es env)) (Post X.G (Rep X.G) s α H Q) E s
noncomputable def iL(X:SX)(c:MC)(b:Bool)(ps:PEs)(es:List Expr):Prop:=
 ∀ (env:Env) (s:Shared) (α:List Addr) (ρ:Loc) (H:Hp) (Q:Bool->Hp->Prop) (E:Value->Shared->Prop),bP c env->GF X.G c.g X.DT s.heap->HR X.G α s.heap H->FI X.G c env α s.heap ρ ->
  cF X.sub X.Φ b ps ρ H (fun v H'=>ifSome (ba H' v) fun t=>Q t H')->wpAny (model X.prog X.w) X.A (allTrue (if b then .And else .Or) es env) (Post X.G (fun _ _ a b=>a=b) s α H Q) E s
theorem wV{b:Bool}:og X c b .nil []:=fun env s α ρ H Q E pos O T R F q=>(show False from q).elim
theorem vg{b:Bool}:iL X c b .nil []:=fun env s α ρ H Q E O T R F q=>(show False from q).elim
theorem vY{b:Bool}{a:PE}{e:Expr}(h:SE X c a e):og X c b (.cons a .nil) [e]:=fun env s α ρ H Q E pos O T R F q=>by
 cases b <;> exact h env s α ρ H Q E O T R F (show wpE X.sub X.Φ a ρ H Q from q)
theorem vb{b:Bool}{a a2:PE}{r:PEs}{e e2:Expr}{es:List Expr}(h1:SE X c a e)(h2:og X c b (.cons a2 r) (e2::es)):og X c b (.cons a (.cons a2 r)) (e::e2::es):=fun env s α ρ H Q E pos O T R F q=>by
 replace q:wpE X.sub X.Φ a ρ H fun v H1=>ifSome (ba H1 v) fun t=>if t=b then cF X.sub X.Φ b (.cons a2 r) ρ H1 Q else Q v H1:=q
 have key:wpAny (model X.prog X.w) X.A (eval e env >>= fun v=>do
   standAt pos
   let t <- holding [v] (truthy v)
   match (if b then BoolOp.And else BoolOp.Or),t with
   | .And,false | .Or,true=>pure v
   |_,_=>boolOp pos (if b then .And else .Or) (evalEach (e2::es) env)) (Post X.G (Rep X.G) s α H Q) E s:=by
  refine Hk (wpAny_mono (h1 env s α ρ H _ E O T R F q) (fun v s1 p=>?_) fun _ _ x=>x)
  refine p.then fun h₁ tk₁ β K d k f R' rr q'=>?_
  refine ac (ifSome.get q') fun t e q'=>?_
  refine Hk (wpAny_standAt (Hk (J1 (dx (s:={ s with heap:=h₁,toks:=tk₁ }) R' rr e fun tk=>?_))))
  have step:wpAny (model X.prog X.w) X.A (boolOp pos (if b then .And else .Or) (evalEach (e2::es) env)) (Post X.G (Rep X.G) { s with heap:=h₁,toks:=tk } (α++β) (H++K) Q) E { s with heap:=h₁,toks:=tk } ->
    wpAny (model X.prog X.w) X.A (boolOp pos (if b then .And else .Or) (evalEach (e2::es) env)) (Post X.G (Rep X.G) { s with heap:=h₁,toks:=tk₁ } (α++β) (H++K) Q) E { s with heap:=h₁,toks:=tk }:=fun h =>
   wpAny_mono h (fun _ _ p=>by obtain ⟨h',tk',β',K',d',e',a',b',c',r',q''⟩:=p;exact ⟨h',tk',β',K',d',e',a',b',c',r',q''⟩) fun _ _ x=>x
  cases b <;> cases t <;> simp only[I9,Bool.true_eq_false,if_true,if_false] at q' ⊢
  ·exact step (h2 env { s with heap:=h₁,toks:=tk } (α++β) ρ (H++K) Q E pos O (T.keeps k) R' (F.up k) q')
  ·exact HC (Post.same (s:={ s with heap:=h₁,toks:=tk₁ }) R' rr q' tk)
  ·exact HC (Post.same (s:={ s with heap:=h₁,toks:=tk₁ }) R' rr q' tk)
  ·exact step (h2 env { s with heap:=h₁,toks:=tk } (α++β) ρ (H++K) Q E pos O (T.keeps k) R' (F.up k) q')
 exact key
theorem vp{b:Bool}{a:PE}{e:Expr}(h:SC X c a e):iL X c b (.cons a .nil) [e]:=fun env s α ρ H Q E O T R F q=>by
 replace q:wpE X.sub X.Φ a ρ H fun v H'=>ifSome (ba H' v) fun t=>Q t H':=q
 cases b
 ·refine wpAny_allTrue_Or_cons (wpAny_mono (h env s α ρ H Q E O T R F q) (fun v s1 p=>?_) fun _ _ x=>x)
  cases v
  ·exact wpAny_allTrue_Or_nil p
  ·exact p
 ·refine wpAny_allTrue_And_cons (wpAny_mono (h env s α ρ H Q E O T R F q) (fun v s1 p=>?_) fun _ _ x=>x)
  cases v
  ·exact p
  ·exact wpAny_allTrue_And_nil p
theorem qY{b:Bool}{a a2:PE}{r:PEs}{e e2:Expr}{es:List Expr}(h1:SC X c a e)(h2:iL X c b (.cons a2 r) (e2::es)):iL X c b (.cons a (.cons a2 r)) (e::e2::es):=fun env s α ρ H Q E O T R F q=>by
 replace q:wpE X.sub X.Φ a ρ H fun v H1=>ifSome (ba H1 v) fun t=>if t=b then cF X.sub X.Φ b (.cons a2 r) ρ H1 (fun v H'=>ifSome (ba H' v) fun t=>Q t H') else ifSome (ba H1 v) fun t=>Q t H1:=q
 have e0:(fun (v:V) (H1:Hp)=>ifSome (ba H1 v) fun t=>if t=b then cF X.sub X.Φ b (.cons a2 r) ρ H1 (fun v H'=>ifSome (ba H' v) fun t=>Q t H') else ifSome (ba H1 v) fun t=>Q t H1) =
   fun v H1=>ifSome (ba H1 v) fun t=>if t=b then cF X.sub X.Φ b (.cons a2 r) ρ H1 (fun v H'=>ifSome (ba H' v) fun t=>Q t H') else Q t H1:=by
  funext v H1
  generalize ba H1 v=o
  cases o <;> rfl
 rw[e0] at q
 have h:=h1 env s α ρ H _ E O T R F q
 cases b
 ·refine wpAny_allTrue_Or_cons (wpAny_mono h (fun v s1 p=>?_) fun _ _ x=>x)
  cases v
  ·simp only[I9,if_false]
   refine p.then fun h₁ tk₁ β K d k f R' rr q'=>?_
   subst rr
   simp only[if_true] at q'
   exact h2 env { s with heap:=h₁,toks:=tk₁ } (α++β) ρ (H++K) Q E O (T.keeps k) R' (F.up k) q'
  ·obtain ⟨h',tk',β',K',d',e',k',f',R',rfl,q'⟩:=p
   exact ⟨h',tk',β',K',_,e',k',f',R',rfl,q'⟩
 ·refine wpAny_allTrue_And_cons (wpAny_mono h (fun v s1 p=>?_) fun _ _ x=>x)
  cases v
  ·obtain ⟨h',tk',β',K',d',e',k',f',R',rfl,q'⟩:=p
   exact ⟨h',tk',β',K',_,e',k',f',R',rfl,q'⟩
  ·simp only[if_true]
   refine p.then fun h₁ tk₁ β K d k f R' rr q'=>?_
   subst rr
   simp only[if_true] at q'
   exact h2 env { s with heap:=h₁,toks:=tk₁ } (α++β) ρ (H++K) Q E O (T.keeps k) R' (F.up k) q'
theorem Ez{ps:PEs}{es:List Expr}{pos:Pos}(h:og X c true ps es):SE X c (.and ps) (.BoolOp .And es pos):=fun env s α ρ H Q E O T R F q=>by
 rw[arm_eval_BoolOp];exact h env s α ρ H Q E pos O T R F (by simpa only [nR] using q)
theorem F5{ps:PEs}{es:List Expr}{pos:Pos}(h:og X c false ps es):SE X c (.or ps) (.BoolOp .Or es pos):=fun env s α ρ H Q E O T R F q=>by
 rw[arm_eval_BoolOp];exact h env s α ρ H Q E pos O T R F (by simpa only [l7] using q)
theorem Da{ps:PEs}{es:List Expr}{pos:Pos}(h:iL X c true ps es):SC X c (.and ps) (.BoolOp .And es pos):=fun env s α ρ H Q E O T R F q =>
 wpAny_isTrue_BoolOp (h env s α ρ H Q E O T R F (by simpa only [nR] using q))
theorem Gf{ps:PEs}{es:List Expr}{pos:Pos}(h:iL X c false ps es):SC X c (.or ps) (.BoolOp .Or es pos):=fun env s α ρ H Q E O T R F q =>
 wpAny_isTrue_BoolOp (h env s α ρ H Q E O T R F (by simpa only [l7] using q))
end
theorem fF{pos:Pos}{env:Env}:∀ {es:List Expr},cR es=true->(backTo pos (starEach es env)).any (·.1)=false
 | [],_=>rfl
 |e::es,h=>by
  simp only[cR,List.all_cons,Iu] at h
  rw[aJ h.1]
  show (false || (backTo pos (starEach es env)).any (·.1))=false
  rw[fF h.2];rfl
section
variable {X:SX}{c:MC}
theorem uz{f:Nat}{x:Str}{ps:PEs}{e:Expr}{es:List Expr}{pos:Pos}(hΦ:f4 X.prog X.w X.G c.g X.DT X.A X.Φ)(hf:c.g.fns[f]?=some x)(hn:cZ e=true)(h:SEs X c ps (e::es))
  (env:Env) (s:Shared) (α:List Addr) (ρ:Loc) (H:Hp) (Q:V->Hp->Prop) (E:Value->Shared->Prop) (O:bP c env) (T:GF X.G c.g X.DT s.heap) (R:HR X.G α s.heap H) (F:FI X.G c env α s.heap ρ)
  (q:et X.sub X.Φ ps ρ H fun vs H1=>X.Φ f vs H1 Q fun _ _=>False) :
  wpAny (model X.prog X.w) X.A (callWith pos (.ref (X.G.fa f)) [] (backTo pos (starEach (e::es) env)) []) (Post X.G (Rep X.G) s α H Q) E s:=by
 refine dS (T.fn f x hf) fun _ d o pm cd doc _ _ ho hd _=>?_
 refine callWith_def hd (wpAny_mono (h env s α ρ H _ E pos O T R F q) (fun vs s1 p=>?_) fun _ _ y=>y) (aJ hn)
 obtain ⟨h₁,tk₁,β,K,ds,rfl,k,f',R',r,q'⟩:=p
 refine ⟨k _ _ ho,?_⟩
 exact wpAny_mono (hΦ f x ds (H++K) Q hf q' { s with heap:=h₁,toks:=tk₁ } (α++β) vs E (T.keeps k) R' r.1) (fun _ _ p=>p.trans k f') fun _ _ y=>y
theorem Bx{f:Nat}{x:Str}{ps:PEs}{es:List Expr}{p pos:Pos}(hΦ:f4 X.prog X.w X.G c.g X.DT X.A X.Φ)(hf:c.g.fns[f]?=some x)(hx:c.isGlob x=true)(he:(!es.isEmpty)=true)(hn:cR es=true)(h:SEs X c ps es) :
  SE X c (.call f ps) (.Call (.Name x p) es [] pos):=fun env s α ρ H Q E O T R F q=>by
 cases es with|nil=>exact (Hq he).elim|cons e es=>exact Call_ (gQ O hx T.g (T.fn f x hf).1 (uz hΦ hf (HU.mp hn).1 h env s α ρ H Q E O T R F q))
theorem yf{i f:Nat}{x y:Str}{ps:PEs}{es:List Expr}{p pos:Pos}(hΦ:f4 X.prog X.w X.G c.g X.DT X.A X.Φ)(hf:c.g.fns[f+1]?=some x)(hy:c.isVar i y=true)(he:(!es.isEmpty)=true)(hn:cR es=true)(h:SEs X c ps es) :
  SE X c (.callv i f ps) (.Call (.Name y p) es [] pos):=fun env s α ρ H Q E O T R F q=>by
 cases es with|nil=>exact (Hq he).elim|cons e es =>
 obtain ⟨v,e1,k,hk,rfl,q⟩:=ifSome.get q
 obtain ⟨x',hf⟩:∃x',c.g.fns[k]?=some x':=⟨_,Hx (HT (show k<=f+1 by rcases hk with rfl|rfl <;> simp) (Hs.mp hf).1)⟩
 refine ac (F i y _ (MC.isVar_spec hy).1 e1) fun u hu r=>?_
 cases r with
 |fn e2=>subst e2;exact Call_ (fC O hy hu (uz hΦ hf (HU.mp hn).1 h env s α ρ H Q E O T R F q))
theorem AH:bootBuiltins "abs"=some (.builtin "abs"):=by boot_by_name
theorem Ba:bootBuiltins "len"=some (.builtin "len"):=by boot_by_name
theorem uL:bootBuiltins "int"=some (.type "int"):=by boot_by_name
theorem kD:bootBuiltins "list"=some (.type "list"):=by boot_by_name
theorem mD:bootBuiltins "tuple"=some (.type "tuple"):=by boot_by_name
theorem zv:bootBuiltins "min"=some (.builtin "min"):=by boot_by_name
theorem z7:bootBuiltins "isinstance"=some (.builtin "isinstance"):=by boot_by_name
theorem uN:bootBuiltins "reversed"=some (.type "reversed"):=by boot_by_name
theorem vz:bootBuiltins "range"=some (.type "range"):=by boot_by_name
theorem yb:bootBuiltins "bool"=some (.type "bool"):=by boot_by_name
theorem Bu:(Str.ofString "abs") ∈ bltNames:=by simp[bltNames]
theorem zZ:(Str.ofString "len") ∈ bltNames:=by simp[bltNames]
theorem t7:(Str.ofString "int") ∈ bltNames:=by simp[bltNames]
theorem kG:(Str.ofString "list") ∈ bltNames:=by simp[bltNames]
theorem mj:(Str.ofString "tuple") ∈ bltNames:=by simp[bltNames]
theorem AZ:(Str.ofString "min") ∈ bltNames:=by simp[bltNames]
theorem yd:(Str.ofString "bool") ∈ bltNames:=by simp[bltNames]
theorem Br:(Str.ofString "isinstance") ∈ bltNames:=by simp[bltNames]
theorem ut:(Str.ofString "reversed") ∈ bltNames:=by simp[bltNames]
theorem mem_range:(Str.ofString "range") ∈ bltNames:=by simp[bltNames]
theorem eW{x:Str}{v:Value}{pos:Pos}{env:Env}{s:Shared}{Q:Value->Shared->Prop}{E:Value->Shared->Prop}(hb:bootBuiltins x=some v)(hm:x∈bltNames)(hx:c.isGlob x=true)(O:bP c env)(T:GF X.G c.g X.DT s.heap)(h:Q v s) :
  wpAny (model X.prog X.w) X.A (eval (.Name x pos) env) Q E s:=
 xQ O hx T.g (T.blt x hm).1 T.b ((T.blt x hm).2.trans hb) h
theorem qC{x:Str}{id:String}{ps:PEs}{e:Expr}{es:List Expr}{p pos:Pos}{env:Env}{s:Shared}{α:List Addr}{ρ:Loc}{H:Hp}{Q:V->Hp->Prop}{Q1:List V->Hp->Prop}{E:Value->Shared->Prop}
  (hb:bootBuiltins x=some (.builtin id)) (hm:x∈bltNames) (hx:c.isGlob x=true) (hn:cR (e::es)=true) (h:SEs X c ps (e::es)) (O:bP c env) (T:GF X.G c.g X.DT s.heap) (R:HR X.G α s.heap H) (F:FI X.G c env α s.heap ρ)
  (q:et X.sub X.Φ ps ρ H Q1)
  (hz:∀h' tk β K vs ds,KeepsH s.heap h'->HR X.G (α++β) h' (H++K)->Reps X.G (α++β) h' vs ds->Q1 ds (H++K) ->
   wpAny (model X.prog X.w) X.A (call (.builtin id) vs) (Post X.G (Rep X.G) { s with heap:=h',toks:=tk } (α++β) (H++K) Q) E { s with heap:=h',toks:=tk }) :
  wpAny (model X.prog X.w) X.A (eval (.Call (.Name x p) (e::es) [] pos) env) (Post X.G (Rep X.G) s α H Q) E s:=by
 simp only[cR,List.all_cons,Iu] at hn
 refine Call_ (eW hb hm hx O T (callWith_builtin1 (wpAny_mono (h env s α ρ H _ E pos O T R F q) (fun vs s1 p=>?_) fun _ _ y=>y) (aJ hn.1) (fF hn.2)))
 exact p.then fun h₁ tk₁ β K d k f R' r q'=>hz h₁ tk₁ β K vs d k R' r.1 q'
theorem rC{x:Str}{id:String}{ps:PEs}{e:Expr}{es:List Expr}{p pos:Pos}{env:Env}{s:Shared}{α:List Addr}{ρ:Loc}{H:Hp}{Q:V->Hp->Prop}{Q1:List V->Hp->Prop}{E:Value->Shared->Prop}
  (hb:bootBuiltins x=some (.type id)) (hm:x∈bltNames) (hx:c.isGlob x=true) (hn:cR (e::es)=true) (h:SEs X c ps (e::es)) (O:bP c env) (T:GF X.G c.g X.DT s.heap) (R:HR X.G α s.heap H) (F:FI X.G c env α s.heap ρ)
  (q:et X.sub X.Φ ps ρ H Q1)
  (hz:∀h' tk β K vs ds,KeepsH s.heap h'->HR X.G (α++β) h' (H++K)->Reps X.G (α++β) h' vs ds->Q1 ds (H++K) ->
   wpAny (model X.prog X.w) X.A (call (.type id) vs) (Post X.G (Rep X.G) { s with heap:=h',toks:=tk } (α++β) (H++K) Q) E { s with heap:=h',toks:=tk }) :
  wpAny (model X.prog X.w) X.A (eval (.Call (.Name x p) (e::es) [] pos) env) (Post X.G (Rep X.G) s α H Q) E s:=by
 simp only[cR,List.all_cons,Iu] at hn
 refine Call_ (eW hb hm hx O T (callWith_type1 (wpAny_mono (h env s α ρ H _ E pos O T R F q) (fun vs s1 p=>?_) fun _ _ y=>y) (aJ hn.1) (fF hn.2)))
 exact p.then fun h₁ tk₁ β K d k f R' r q'=>hz h₁ tk₁ β K vs d k R' r.1 q'
end
end Mine
namespace Mine
open PySem PyProof PyProof.Rows
section
end
end Mine
namespace Mine
open PySem PyProof.Rows PySem.Calls
section
variable {prog:Program}{w:World}{A:Around}{E:Value->Shared->Prop}{s:Shared}{G:GV}{α:List Addr}{H:Hp}{Q:V->Hp->Prop}
theorem Aq{v:Value}{d:V}{xs:List V}(R:HR G α s.heap H)(r:Rep G α s.heap v d)(e:items H d=some xs)(q:Q (.lst H.length) (H++[xs])) :
  wpAny (model prog w) A (call (.type "list") [v]) (Post G (Rep G) s α H Q) E s:=by
 refine dy (kW R r e) fun a vs zq22 rs z z' hk=>?_;subst zq22
 have hsz:vs.toArray.size<=sizeLine:=by rw[HX];exact Hj z' fh
 have go:∀h' c',KeepsH s.heap h'->h'.get? s.heap.objs.size=some { cls:=.type "list",dict:=none,data:=.seq vs.toArray c',slots:=#[] }->Post G (Rep G) s α H Q (.ref s.heap.objs.size) { s with heap:=h' }:=fun h' c' k hg =>
  Post.newLst R k (rs.mono (fun _ _ e=>e) (.of k)) z q (cO _) ⟨c',hg⟩ s.toks
 rcases hk with ⟨⟨o,ho,hc,n,hd⟩,_⟩ | ⟨⟨o,ho,hc,n,hd⟩,_⟩
 ·exact call_list_seq a (.inr rfl) ho hc hd go hsz
 ·exact call_list_seq a (.inl rfl) ho hc hd go hsz
theorem xT{v:Value}{d:V}{xs:List V}(R:HR G α s.heap H)(r:Rep G α s.heap v d)(e:items H d=some xs)(q:Q (.tup xs) H) :
  wpAny (model prog w) A (call (.type "tuple") [v]) (Post G (Rep G) s α H Q) E s:=by
 refine dy (kW R r e) fun a vs zq21 rs z z' hk=>?_;subst zq21
 have hsz:vs.toArray.size<=sizeLine:=by rw[HX];exact Hj z' fh
 rcases hk with ⟨ht,ys,rfl⟩ | ⟨hl,n,rfl⟩
 ·cases e
  exact call_tuple_tup ht (Post.same' R r q)
 ·refine call_tuple_list hl (fun h' k=>?_) hsz
  have k2:KeepsH s.heap (h'.push { cls:=.type "tuple",data:=.seq vs.toArray }):=KeepsH.trans k (bc _ _)
  refine ⟨_,s.toks,[],[],.tup xs,rfl,k2,by simp,by simpa using R.keeps k2,?_,by simpa using q⟩
  exact Rep.tup (vs:=vs) ⟨_,HJ _ rfl,rfl,_,rfl⟩ (rs.up k2) z
theorem DA{v:Value}{d:V}{xs:List V}(R:HR G α s.heap H)(r:Rep G α s.heap v d)(e:items H d=some xs)(q:Q (.int xs.length) H) :
  wpAny (model prog w) A (call (.builtin "len") [v]) (Post G (Rep G) s α H Q) E s:=by
 refine dy (kW R r e) fun a vs zq20 rs z z' hk=>?_;subst zq20
 have hz:(vs.toArray.size:Int)<2^63:=by have:vs.length<=1000000:=z';simp;exact oqz [vs.length] [] [(.le Y0 1000000)] (.il (.a (.c Y0) 1) 9223372036854775808) [11] rfl this
 have hl:((vs.toArray.size:Nat):Int)=xs.length:=by simp[rs.len]
 rcases hk with ⟨ht,_⟩ | ⟨hl',_⟩
 ·exact len_tuple ht hz (by rw[hl];exact Post.same R (.int _ _) q _)
 ·exact len_list hl' hz (by rw[hl];exact Post.same R (.int _ _) q _)
theorem fB{b:Bi}{vs:List Value}{ds:List V}(hA:AOk prog A)(R:HR G α s.heap H)(r:Reps G α s.heap vs ds)(q:kO b ds H Q) :
  match b with
  | .abs=>wpAny (model prog w) A (call (.builtin "abs") vs) (Post G (Rep G) s α H Q) E s
  | .len=>wpAny (model prog w) A (call (.builtin "len") vs) (Post G (Rep G) s α H Q) E s
  | .int=>wpAny (model prog w) A (call (.type "int") vs) (Post G (Rep G) s α H Q) E s
  | .list=>wpAny (model prog w) A (call (.type "list") vs) (Post G (Rep G) s α H Q) E s
  | .tuple=>wpAny (model prog w) A (call (.type "tuple") vs) (Post G (Rep G) s α H Q) E s
  | .min=>wpAny (model prog w) A (call (.builtin "min") vs) (Post G (Rep G) s α H Q) E s
  | .listrev=>True:=by
 cases b
 ·refine ac (if1.get q) fun d e q=>?_
  apply r.ol e;intro v a
  exact ac (ifInt.get q) fun i e q=>by (apply a.oi e;intro t;exact call_abs_int fun u tk=>Post.same R (.int _ _) q tk)
 ·refine ac (if1.get q) fun d e q=>?_
  apply r.ol e;intro v a
  exact ac (ifSome.get q) fun xs e q=>DA R a e q
 ·refine ac (if1.get q) fun d e q=>?_
  apply r.ol e;intro v a
  refine ac (ifBo.get q) fun b e q=>?_
  subst e;cases a.bool_inv
  exact call_int_bool (Post.same R (.int _ _) q _)
 ·refine ac (if1.get q) fun d e q=>?_
  apply r.ol e;intro v a
  exact ac (ifSome.get q) fun xs e q=>Aq R a e q
 ·refine ac (if1.get q) fun d e q=>?_
  apply r.ol e;intro v a
  exact ac (ifSome.get q) fun xs e q=>xT R a e q
 ·refine cU (if2.get q) fun d d' e q=>?_
  subst e
  refine ay (r.two_inv) fun v v' zq14 a a'=>?_;subst zq14
  refine ay (ifI2.get q) fun x y e e' q=>?_
  apply a.ii a' e e';intro tx ty
  refine min_two_ints hA.handled fun h' tk k=>?_
  have:(if y<x then Value.int y ty else Value.int x tx)=Value.int (if y<x then y else x) (if y<x then ty else tx):=by split <;> rfl
  rw[this]
  exact ⟨h',tk,[],[],_,rfl,k,List.forall_mem_nil _,by rw[List.append_nil,List.append_nil];exact R.keeps k,.int _ _,by rw[List.append_nil];exact q⟩
 ·trivial
theorem im{n i:Nat}{k:Int}(h:cf n k=some i):i<n/\((0<=k/\k=i)\/(k<0/\k+n=i)):=by
 unfold cf at h
 split at h
 ·split at h
  ·cases h;exact oqz [k.toNat,n] [k] [(.il 0 Y0),(.il (Y0+1) (.c Y1)),(otn Y0 Y0)] (.an (.le (Y0+1) Y1) (.or (.an (.il 0 Y0) (.ie Y0 (.c Y0))) (.an (.il (Y0+1) 0) (.ie (.a Y0 (.c Y1)) (.c Y0))))) [10101,10111,100001,100101,1000001,10001] rfl (by assumption) (by assumption) (aR (k))
  ·cases h
 ·split at h
  ·cases h;exact oqz [(k+(↑n:Int)).toNat,n] [k] [(.no (.il 0 Y0)),(.il 0 (.a Y0 (.c Y1))),(otn (.a Y0 (.c Y1)) Y0)] (.an (.le (Y0+1) Y1) (.or (.an (.il 0 Y0) (.ie Y0 (.c Y0))) (.an (.il (Y0+1) 0) (.ie (.a Y0 (.c Y1)) (.c Y0))))) [10011,10111,100010,101010,1000010,10010,110] rfl (by assumption) (by assumption) (aR (k+(↑n:Int)))
  ·cases h
theorem mR{n i:Nat}{k:Int}(h:cf n k=some i):seqIndex? k n=some i:=by
 obtain ⟨h1,h2⟩:=im h
 unfold seqIndex?
 rcases h2 with ⟨h0,h2⟩ | ⟨h0,h2⟩
 ·have:¬ k<0:=oqz [] [k] [(.il 0 Y0)] (.no (.il (Y0+1) 0)) [11] rfl h0
  simp only[this,if_false,Iu,IR]
  rw[if_pos ⟨h0,by exact oqz [n,i] [k] [(.le (Y1+1) Y0),(.ie Y0 (.c Y1))] (.il (Y0+1) (.c Y0)) [111] rfl h1 h2⟩];congr 1;exact oqz [k.toNat,i] [k] [(.ie Y0 (.c Y1)),(otn Y0 Y0)] (.eq Y0 Y1) [100101,1101,10011,10001] rfl h2 (aR (k))
 ·simp only[h0,if_true,Iu,IR]
  rw[if_pos ⟨by exact oqz [n,i] [k] [(.ie (.a Y0 (.c Y0)) (.c Y1))] (.il 0 (.a Y0 (.c Y0))) [101] rfl h2,by exact oqz [n,i] [k] [(.le (Y1+1) Y0),(.ie (.a Y0 (.c Y0)) (.c Y1))] (.il (.a (.a Y0 (.c Y0)) 1) (.c Y0)) [111] rfl h1 h2⟩];congr 1;exact oqz [(k+(↑n:Int)).toNat,n,i] [k] [(.ie (.a Y0 (.c Y1)) (.c Y2)),(otn (.a Y0 (.c Y1)) Y0)] (.eq Y0 Y2) [100101,1101,10011,10001] rfl h2 (aR (k+(↑n:Int)))
theorem ve{value slice:Expr}{u v:Value}{x y:V}(hs:∀o i,subscripted slice false o i=operate [o,i] (getItem o i))(R:HR G α s.heap H)(ru:Rep G α s.heap u x)(rv:Rep G α s.heap v y)(q:d8 x y H Q) :
  wpAny (model prog w) A (subscriptTail value slice u v) (Post G (Rep G) s α H Q) E s:=by
 refine ac (ifInt.get q) fun k ek q=>?_
 apply rv.oi ek;intro t
 clear ek
 refine ac (ifSome.get q) fun xs e q=>?_
 refine ac (ifSome.get q) fun i hp q=>?_
 refine ac (ifSome.get q) fun d hd q=>?_
 refine dy (kW R ru e) fun a vs zq13 rs z z' hk=>?_;subst zq13
 refine ac (rs.get hd) fun val bh rd=>?_
 have hz:vs.length<=1000000:=z'
 have hlen:=rs.len
 rw[<- hlen] at hp
 obtain ⟨h1,h2⟩:=im hp
 have hval':vs.toArray[i]?=some val:=by simpa using bh
 have b1:=(uw hz h1 h2).1
 have b2:=(uw hz h1 h2).2
 rcases hk with ⟨ht,_⟩ | ⟨hl,_⟩
 ·exact item_tupleT (j:=i) ht b1 b2 (mR hp) bh (Post.same' R rd q) (hs _ _)
 ·rcases h2 with ⟨h0,h2⟩ | ⟨h0,h2⟩
  ·exact tail_any hl.typeIs slot_list_getitem.lookup (wpAny_getItem_list hl h0 b2 (by rw[show k.toNat=i by exact oqz [k.toNat,i] [k] [(.ie Y0 (.c Y1)),(otn Y0 Y0)] (.eq Y0 Y1) [100101,1101,10011,10001] rfl h2 (aR (k))];exact hval') (Post.same' R rd q)) (hs _ _)
  ·refine tail_any hl.typeIs slot_list_getitem.lookup (wpAny_getItem_list_neg hl h0 (by simp;exact oqz [vs.length,i] [k] [(.ie (.a Y0 (.c Y0)) (.c Y1))] (.il (.g (.c Y0)) Y0) [101] rfl h2) b1 ?_ (Post.same' R rd q)) (hs _ _)
   rw[show (k+(vs.toArray.size:Int)).toNat=i by simp;exact oqz [(k+(↑vs.length:Int)).toNat,vs.length,i] [k] [(.ie (.a Y0 (.c Y1)) (.c Y2)),(otn (.a Y0 (.c Y1)) Y0)] (.eq Y0 Y2) [100101,1101,10011,10001] rfl h2 (aR (k+(↑vs.length:Int)))];exact hval'
theorem vf{value slice:Expr}{u l h:Value}{n:Nat}{xs:List V}{lo hi:Option Int}{sl:Addr}(hs:∀o i,subscripted slice false o i=operate [i,o] (getItem o i))(R:HR G α s.heap H)(ru:Rep G α s.heap u (.lst n))(hx:H[n]?=some xs)
  (hsl:s.heap.IsSliceOf sl l h .none) (pl:IsPart l lo) (ph:IsPart h hi) (q:Q (.lst H.length) (H++[cut xs (lo.elim 0 (cx xs.length)) (hi.elim xs.length (cx xs.length))])) :
  wpAny (model prog w) A (subscriptTail value slice u (.ref sl)) (Post G (Rep G) s α H Q) E s:=by
 obtain ⟨a,rfl,ha⟩:=ru.lst_inv
 refine cy (R.getList ha hx) fun vs hl rs z z'=>?_
 have hlen:=rs.len
 have e:vs.toArray.size=xs.length:=hlen
 have hsz:vs.toArray.size<=sizeLine:=Hj z' fh
 refine tail_any hl.typeIs slot_list_getitem.lookup (wpAny_getItem_list_slice (st:=none) hl hsl pl ph .none (by intro e;cases e) ?_ hsz) (hs _ _)
 rw[slicePick_plain,e,show vs.toArray.toList=vs from rfl,<- List.drop_take]
 refine Post.newLst' R ((rs.take _).drop _) ?_ q s.toks
 rw[List.length_drop,Kk];exact Hj (Nat.sub_le _ _) (Hj (Kj _ _) (hlen ▸ z'))
end
end Mine
namespace Mine
open PySem PyProof.Rows PySem.Calls
theorem kR:Manifest.owners.lookup (String.ofList ['d','e','s','r','e','v','e','r'].reverse)=some Manifest.sig_reversed:=by kernel_rfl
theorem slot_rv_next:Slot "reversed" "__next__" "reversed.__next__":=
 .of (owner:="reversed") (n:="__next__") (by rw[J6,Jt];kernel_rfl) (by decide +kernel) (by decide +kernel) (by decide +kernel)
  (by first|exact .inl (by decide +kernel) |exact .inr (by decide +kernel)) (by rw[Kh];kernel_rfl)
theorem hV:entryFor table "reversed.__next__"=some Builtin.«reversed.__next__»:=entryFor_of_tree (by kernel_rfl)
theorem gk(a:Value):argsOk "reversed.__next__" ⟨[a],[]⟩:=by
 unfold argsOk;rw[signature?_of (id:="reversed.__next__") (n:=['_','_','t','x','e','n','_','_']) (o:=['d','e','s','r','e','v','e','r']) (by kernel_rfl) kR];kernel_rfl
theorem iO:Slot "reversed" "__iter__" "reversed.__iter__":=
 .of (owner:="reversed") (n:="__iter__") (by rw[J6,Jt];kernel_rfl) (by decide +kernel) (by decide +kernel) (by decide +kernel)
  (by first|exact .inl (by decide +kernel) |exact .inr (by decide +kernel)) (by rw[Kh];kernel_rfl)
theorem ky(a:Value):argsOk "reversed.__iter__" ⟨[a],[]⟩:=by
 unfold argsOk;rw[signature?_of (id:="reversed.__iter__") (n:=['_','_','r','e','t','i','_','_']) (o:=['d','e','s','r','e','v','e','r']) (by kernel_rfl) kR];kernel_rfl
theorem lZ:entryFor table "reversed.__iter__"=some Builtin.«dict_keyiterator.__iter__»:=by
 first
 |exact entryFor_alias (id':="dict_keyiterator.__iter__") (by kernel_rfl) (by first|rfl|decide +kernel | (unfold String.splitOn;simp +decide [String.splitOnAux])) (by decide +kernel) (by kernel_rfl)
theorem oy:typeLookup (.type "tuple") "__reversed__"=pure none:=by rw[J6,Jt];kernel_rfl
theorem lT:isSubtype (.type "tuple") (.type "dict")=pure false:=by rw[Kh];kernel_rfl
noncomputable def i6(t:Addr) (i:Int):Obj:={ cls:=.type "reversed",data:=.fields #[.ref t,rawInt i] }
noncomputable def IsRv(h:Heap) (a t:Addr) (i:Int):Prop:=∃o,h.get? a=some o/\o.cls=.type "reversed"/\o.data=.fields #[.ref t,rawInt i]
section
variable {prog:Program}{w:World}{A:Around}{E:Value->Shared->Prop}{s:Shared}
theorem IsRv.typeIs{a t:Addr}{i:Int} (x:IsRv s.heap a t i):s.TypeIs (.ref a) "reversed":=x.elim fun o g=>⟨o,g.1,g.2.1⟩
theorem IsRv.at{h h':Heap}{a t:Addr}{i:Int}(x:IsRv h a t i)(e:∀o,h.get? a=some o->h'.get? a=some o):IsRv h' a t i:=x.elim fun o g=>⟨o,e _ g.1,g.2⟩
theorem n5{it t:Addr}{i:Int}{Q:Value->Shared->Prop}(hit:IsRv s.heap it t i)(h:Q (.ref it) s):wpAny (model prog w) A (pyIter (.ref it)) Q E s:=by
 refine wpAny_pyIter_slot hit.typeIs iO (wpAny_call_entry iO hit.typeIs lZ ?_ (ky _))
 show wpAny _ _ (ret (.ref it)) _ _ s
 exact HC ⟨_,rfl,"reversed",_,hit.typeIs,slot_rv_next.lookup,h⟩
theorem zN{it t:Addr}{i:Nat}{items:Array Value}{x:Value}{Q:Option Value->Shared->Prop}(hit:IsRv s.heap it t (i:Int))(ht:IsTup s.heap t items)(hx:items[i]?=some x)(hsm:(i:Int)<2^63)
  (hQ:∀h' tk,IsRv h' it t ((i:Int)-1)->Heap.SameBut it s.heap h'->Q (some x) { s with heap:=h',toks:=tk }):wpAny (model prog w) A (pyNext (.ref it)) Q E s:=by
 refine cw (id hit) fun o ho hc hd=>?_
 unfold pyNext
 refine Hk (wpAny_attempt (wpAny_callSpecial?_slot (name:=Str.ofString "__next__") hit.typeIs slot_rv_next
  (wpAny_call_entry slot_rv_next hit.typeIs hV ?_ (gk _))))
 unfold Builtin.«reversed.__next__»
 refine Hk (Jv (a:=(Value.ref it,[])) rfl ?_)
 try dsimp only
 refine Hk (wpAny_field ho hd (x:=.ref t) rfl ?_)
 refine Hk (wpAny_field ho hd (x:=rawInt (i:Int)) rfl ?_)
 show wpAny _ _ (if (i:Int)<0 then _ else _) _ _ s
 rw[if_neg (by exact oqz [i] [] [] (.no (.il (.a (.c Y0) 1) 0)) [1] rfl)]
 show wpAny _ _ (specialOf (.ref t) "__getitem__" >>= _) _ _ s
 refine Hk (wpAny_specialOf ht.typeIs slot_tuple_getitem.lookup ?_)
 show wpAny _ _ ((mkInt (i:Int)) >>= _) _ _ s
 refine Hk (wpAny_mkInt ?_)
 have hj:seqIndex? (i:Int) items.size=some i:=by
  have hlt:i<items.size:=(Array.getElem?_eq_some_iff.mp hx).1
  unfold seqIndex?
  have:¬ ((i:Int)<0):=oqz [i] [] [] (.no (.il (.a (.c Y0) 1) 0)) [1] rfl
  simp only[this,if_false,Iu,IR]
  rw[if_pos ⟨by exact oqz [i] [] [] (.il 0 (.c Y0)) [1] rfl,by exact oqz [i,items.size] [] [(.le (Y0+1) Y1)] (.il (.a (.c Y0) 1) (.c Y1)) [11] rfl hlt⟩];congr 1
 refine Hk (wpAny_attempt (getItem_tuple (s:={ s with toks:=s.toks+1 }) ht (by exact oqz [i] [2^63] [(.il (.a (.c Y0) 1) Y0)] (.il (.g Y0) (.c Y0)) [11] rfl hsm) hsm hj hx ?_))
 show wpAny _ _ (field (.ref it) 1 >>= _) _ _ _
 refine Hk (wpAny_field (s:={ s with toks:=s.toks+1 }) ho hd (x:=rawInt (i:Int)) rfl ?_)
 refine Hk (m:=setField (.ref it) 1 (rawInt ((i:Int)-1))) (wpAny_setField (s:={ s with toks:=s.toks+1 }) ho hd (by simp) ?_)
 first
 |refine HC ⟨x,rfl,HC (hQ _ _ ?_ (I3 ..))⟩
 |refine Hk (HC (HC ⟨x,rfl,HC (hQ _ _ ?_ (I3 ..))⟩))
 exact ⟨_,Jr _ ho (Obj.isFreed_of_fields (Obj.data_mapFields hd _)),(Obj.cls_mapFields ..).trans hc,by
  rw[Obj.data_mapFields hd];simp⟩
theorem Ey{it t:Addr}{Q:Option Value->Shared->Prop}(hh:A.handled=none)(hit:IsRv s.heap it t (-1))
  (hQ:∀h',Heap.ExtBut it s.heap h'->Q none { s with heap:=h' }):wpAny (model prog w) A (pyNext (.ref it)) Q E s:=by
 refine cw (id hit) fun o ho hc hd=>?_
 unfold pyNext
 refine Hk (wpAny_attempt (wpAny_callSpecial?_slot (name:=Str.ofString "__next__") hit.typeIs slot_rv_next
  (wpAny_call_entry slot_rv_next hit.typeIs hV ?_ (gk _))))
 unfold Builtin.«reversed.__next__»
 refine Hk (Jv (a:=(Value.ref it,[])) rfl ?_)
 try dsimp only
 refine Hk (wpAny_field ho hd (x:=.ref t) rfl ?_)
 refine Hk (wpAny_field ho hd (x:=rawInt (-1)) rfl ?_)
 show wpAny _ _ (if (-1:Int)<0 then _ else _) _ _ s
 rw[if_pos (by decide)]
 refine Hk (wpAny_rule ?_)
 show wpAny _ _ ((do setField (.ref it) 1 (rawInt (-1));setField (.ref it) 0 .none:Sem Unit) >>= _) _ _ _
 refine Hk (Hk (wpAny_setField ho hd (by simp) ?_))
 have ho1:(s.heap.update it (Obj.mapFields fun x=>x.setIfInBounds 1 (rawInt (-1)))).get? it=some (Obj.mapFields (fun x=>x.setIfInBounds 1 (rawInt (-1))) o):=
  Jr _ ho (Obj.isFreed_of_fields (Obj.data_mapFields hd _))
 have hd1:=Obj.data_mapFields hd (fun x=>x.setIfInBounds 1 (rawInt (-1)))
 refine wpAny_setField (s:={ s with heap:=s.heap.update it (Obj.mapFields fun x=>x.setIfInBounds 1 (rawInt (-1))) }) ho1 hd1 (by simp) ?_
 have hsb:Heap.SameBut it s.heap ((s.heap.update it (Obj.mapFields fun x=>x.setIfInBounds 1 (rawInt (-1)))).update it (Obj.mapFields fun x=>x.setIfInBounds 0 .none)):=
  (I3 ..).trans (I3 ..)
 generalize (s.heap.update it (Obj.mapFields fun x=>x.setIfInBounds 1 (rawInt (-1)))).update it (Obj.mapFields fun x=>x.setIfInBounds 0 .none)=h2 at hsb ⊢
 first
 |show wpAny _ _ (newExc (.type "StopIteration") [] >>= _) _ _ _
 | (refine Hk ?_;show wpAny _ _ (newExc (.type "StopIteration") [] >>= _) _ _ _)
 refine Hk ?_
 simp only[newExc,newTuple]
 refine Hk (Kd ?_ (by size_fits))
 refine Hk (m:=firstArgMember _ _) (Jv (a:=Value.none) (by first|rfl | (simp only[firstArgMember];rfl)) ?_)
 refine Kd ?_ (by size_fits)
 simp only[raiseNew]
 refine Hk (wpAny_handled ?_)
 first|rw[show A.in1.handled=none from hh] |rw[hh]
 refine Hk (HC (wpAny_throw ?_))
 refine Hk (wpAny_isInstance (T:="StopIteration") (b:=true) ⟨_,HJ _ rfl,rfl⟩ isSubtype_stop ?_)
 exact HC (hQ _ ((hsb.extBut.push _).push _))
theorem Walks.tupRev(hh:A.handled=none)(I t:Addr)(hne:t≠I)(items:Array Value)(hz:items.size<=1000000) :
  Walks prog w A I [I,t] [I] items.size (fun i v=>items[items.size-1-i]?=some v) (fun i h=>i<=items.size/\IsRv h I t ((items.size:Int)-1-(i:Int))/\IsTup h t items) where
 sub:=fun b hb=>by simp at hb;simp[hb]
 frame:=fun _ _ _ x hk=>⟨x.1,x.2.1.at fun o e=>hk I (by simp) o e,x.2.2.elim fun o g=>⟨o,hk t (by simp) o g.1,g.2⟩⟩
 item:=fun i s Q E hi x hQ=>by
  have e:(items.size:Int)-1-(i:Int)=((items.size-1-i:Nat):Int):=oqz [items.size,i,items.size-1-i,items.size-1] [] [(.le (Y1+1) Y0),(osb Y0 1 Y3),(osb Y3 Y1 Y2)] (.ie (.s (.s (.c Y0) 1) (.c Y1)) (.c Y2)) [10010001,1000011,10001011,1001001,101001,101] rfl hi (am (items.size) (1)) (am (items.size-1) (i))
  have hit:=x.2.1
  rw[e] at hit
  have hlt:items.size-1-i<items.size:=oqz [items.size-1-i,items.size,i] [] [(.ie (.s (.s (.c Y1) 1) (.c Y2)) (.c Y0))] (.le (Y0+1) Y1) [101] rfl e
  refine zN hit x.2.2 (x:=items[items.size-1-i]) (by simp[hlt]) (EL (Hj (JJ hlt) hz)) fun h' tk hit' hs'=>?_
  refine hQ _ h' tk (by simp[hlt]) ⟨by exact oqz [i,items.size] [] [(.le (Y0+1) Y1)] (.le (Y0+1) Y1) [11] rfl hi,?_,x.2.2.extBut hs'.extBut hne⟩ fun b o hb e=>hs'.extBut b o (fun h=>hb (by simp[h])) e
  have e2:(items.size:Int)-1-((i+1:Nat):Int)=((items.size-1-i:Nat):Int)-1:=oqz [items.size,i,items.size-1-i] [] [(.ie (.s (.s (.c Y0) 1) (.c Y1)) (.c Y2))] (.ie (.s (.s (.c Y0) 1) (.c (Y1+1))) (.s (.c Y2) 1)) [101,11] rfl e
  rw[e2];exact hit'
 done:=fun s Q E x hQ=>by
  have hit:=x.2.1
  rw[show (items.size:Int)-1-(items.size:Int)=-1 by exact oqz [items.size] [] [] (.ie (.s (.s (.c Y0) 1) (.c Y0)) (.g 1)) [1] rfl] at hit
  exact Ey hh hit fun h' he'=>hQ h' s.toks fun b o hb e=>he' b o (fun h=>hb (by simp[h])) e
 self:=fun _ _ _ _ x hQ=>n5 x.2.1 hQ
theorem pM{t:Addr}{items:Array Value}{Q₁:Value->Shared->Prop}(ht:IsTup s.heap t items)(hz:(items.size:Int)<2^63)
  (h:∀tk,Q₁ (.ref s.heap.objs.size) { s with heap:=s.heap.push (i6 t ((items.size:Int)-1)),toks:=tk }) :
  codeAny (model prog w) A (.call (.builtin "reversed.__new__") ⟨[.type "reversed",.ref t],[]⟩) (wants Q₁ E) s:=by
 refine codeAny_of_tree ?_
 show wpAny _ A.in1 (do checkBuiltinCall "reversed.__new__" ⟨[.type "reversed",.ref t],[]⟩;again (.builtin "reversed.__new__" ⟨[.type "reversed",.ref t],[]⟩)) _ _ s
 refine Hk (Jv (F.newCall_reversed_1 _) (HC ⟨plainId_quiet F.plain_reversed_new _,codeAny_builtin F.entry_reversed_new ?_⟩))
 rw[Around.under_plainId F.plain_reversed_new _]
 unfold Builtin.«reversed.__new__»
 refine Hk (Jv (newClass_reversed _) ?_)
 try dsimp only
 refine Hk (Jv (a:=()) (by first|rfl|kernel_rfl) ?_)
 refine Hk (Jv (a:=()) (by first|rfl|kernel_rfl) ?_)
 try dsimp only
 refine Hk (wpAny_specialOf ht.typeIs oy ?_)
 try dsimp only
 refine Hk (Hk (wpAny_isInstance ht.typeIs lT ?_))
 show wpAny _ _ (specialOf (.ref t) "__getitem__" >>= _) _ _ s
 refine Hk (wpAny_specialOf ht.typeIs slot_tuple_getitem.lookup ?_)
 show wpAny _ _ (if (["tuple.__getitem__","str.__getitem__","bytes.__getitem__","bytearray.__getitem__","memoryview.__getitem__","numpy.ndarray.__getitem__","sqlite3.Row.__getitem__"].contains "tuple.__getitem__")=true then _ else _) _ _ s
 rw[if_pos (by decide)]
 refine HC ?_
 show wpAny _ _ (call (.builtin "len") [.ref t] >>= _) _ _ s
 refine Hk (len_tuple ht hz ?_)
 refine Hk (m:=asInt? _) (Jv (a:=some (items.size:Int)) (by rfl) ?_)
 try dsimp only
 refine Hk (m:=Builtin.SmallTypes.newRecord _ _) ?_
 unfold Builtin.SmallTypes.newRecord
 refine Kd ?_ (by show Array.size _<=_;rw[sizeLine_eq];simp)
 first
 |exact HC (h _)
 |exact Hk (HC (HC (h _)))
theorem slot_rv_init:Slot "reversed" "__init__" "object.__init__":=
 .of (owner:="object") (n:="__init__") (by rw[J6,Jt];kernel_rfl) (by decide +kernel) (by decide +kernel) (by decide +kernel)
  (by first|exact .inl (by decide +kernel) |exact .inr (by decide +kernel)) (by rw[Kh];kernel_rfl)
theorem jO:TypeCalled "reversed" "reversed.__new__" "object.__init__":=
 ⟨by decide +kernel,F.create_reversed,⟨_,_,F.mro_reversed⟩,F.made_reversed,F.plain_reversed_new,F.sub_reversed_self,slot_rv_init⟩
theorem e6{t:Addr}{items:Array Value}{Q:Value->Shared->Prop}(ht:IsTup s.heap t items)(hz:(items.size:Int)<2^63)
  (h:∀tk,Q (.ref s.heap.objs.size) { s with heap:=s.heap.push (i6 t ((items.size:Int)-1)),toks:=tk }):wpAny (model prog w) A (call (.type "reversed") [.ref t]) Q E s:=by
 refine callType_codes (Q₁:=fun obj s1=>∃tk,obj=.ref s.heap.objs.size/\s1={ s with heap:=s.heap.push (i6 t ((items.size:Int)-1)),toks:=tk }) jO (F.typeCall_reversed_1 _) F.entry_object_init
  (pM ht hz fun tk=>⟨tk,rfl,rfl⟩) ?_
 intro obj s1 zr1;refine ac (zr1) fun tk zq1 zq2=>?_;subst zq1;subst zq2
 have hT:Shared.TypeIs { s with heap:=s.heap.push (i6 t ((items.size:Int)-1)),toks:=tk } (.ref s.heap.objs.size) "reversed":=⟨_,HJ _ rfl,rfl⟩
 refine ⟨hT,F.args_object_init_2 _ _,?_⟩
 exact object_init_meets slot_rv_init.lookup F.made_reversed (by decide) prog w A.in1 _ _ ⟨hT,rfl,h tk⟩
end
end Mine
namespace Mine
open PySem PyProof.Rows PySem.Calls
theorem wF:typeLookup (.type "reversed") "__len__"=pure none:=by rw[J6,Jt];kernel_rfl
theorem slot_rv_hint:Slot "reversed" "__length_hint__" "reversed.__length_hint__":=
 .of (owner:="reversed") (n:="__length_hint__") (by rw[J6,Jt];kernel_rfl) (by decide +kernel) (by decide +kernel) (by decide +kernel)
  (by first|exact .inl (by decide +kernel) |exact .inr (by decide +kernel)) (by rw[Kh];kernel_rfl)
theorem l6:entryFor table "reversed.__length_hint__"=some Builtin.«reversed.__length_hint__»:=entryFor_of_tree (by kernel_rfl)
theorem kL(a:Value):argsOk "reversed.__length_hint__" ⟨[a],[]⟩:=by
 unfold argsOk;rw[signature?_of (id:="reversed.__length_hint__") (n:=['_','_','t','n','i','h','_','h','t','g','n','e','l','_','_']) (o:=['d','e','s','r','e','v','e','r']) (by kernel_rfl) kR];kernel_rfl
section
variable {prog:Program}{w:World}{A:Around}{E:Value->Shared->Prop}{s:Shared}
theorem nK{r t:Addr}{items:Array Value}{Q:Value->Shared->Prop}(hit:IsRv s.heap r t ((items.size:Int)-1))(ht:IsTup s.heap t items)(hz:items.size<=1000000)
  (h:∀u tk,Q (.int (items.size:Int) u) { s with toks:=tk }):wpAny (model prog w) A (call (.builtin "reversed.__length_hint__") [.ref r]) Q E s:=by
 refine cw (id hit) fun o ho hc hd=>?_
 refine wpAny_call_entry slot_rv_hint hit.typeIs l6 ?_ (kL _)
 unfold Builtin.«reversed.__length_hint__»
 refine Hk (Jv (a:=Value.ref r) rfl ?_)
 refine Hk (wpAny_field ho hd (x:=.ref t) rfl ?_)
 refine I7 (fun hab=>absurd hab Hq) (fun _=>?_)
 refine Hk (len_tuple ht (EL hz) ?_)
 refine Hk (m:=asInt? _) (Jv (a:=some (items.size:Int)) (by rfl) ?_)
 refine Hk (wpAny_field ho hd (x:=rawInt ((items.size:Int)-1)) rfl ?_)
 refine I7 (fun hab=>absurd hab (by exact oqz [items.size] [] [] (.no (.il (.a (.c Y0) 1) (.a (.s (.c Y0) 1) 1))) [1] rfl)) (fun _=>?_)
 rw[show (items.size:Int)-1+1=items.size by exact oqz [items.size] [] [] (.ie (.a (.s (.c Y0) 1) 1) (.c Y0)) [1] rfl]
 refine Hk (wpAny_mkInt (HC ⟨_,rfl,h _ _⟩))
theorem AS{r t:Addr}{items:Array Value}{Q:Bool->Shared->Prop}(hit:IsRv s.heap r t ((items.size:Int)-1))(ht:IsTup s.heap t items)(hz:items.size<=1000000)
  (h:∀b tk,Q b { s with toks:=tk }):wpAny (model prog w) A (Builtin.List.listLengthHint (.ref r)) Q E s:=by
 unfold Builtin.List.listLengthHint
 refine Hk (wpAny_specialOf hit.typeIs wF ?_)
 refine I7 (fun hab=>absurd hab (by decide +kernel)) (fun _=>?_)
 refine I7 (fun hab=>absurd hab (by decide +kernel)) (fun _=>?_)
 refine Hk (wpAny_specialOf hit.typeIs slot_rv_hint.lookup ?_)
 generalize hid:("reversed.__length_hint__":String)=id0
 wp_delta
 rw[show splitId id0=some ("reversed","__length_hint__") from by subst hid;decide +kernel]
 subst hid
 refine Hk (wpAny_isInstance (T:="reversed") (b:=true) hit.typeIs (by rw[Kh];kernel_rfl) ?_)
 refine I7 (fun hab=>absurd hab (by decide)) (fun _=>?_)
 refine I7 (fun hab=>absurd hab (by decide +kernel)) (fun _=>?_)
 refine Hk (wpAny_rule ?_)
 refine Hk (Jv (slot_rv_hint.bind _) ?_)
 refine Hk (wpAny_attempt (nK hit ht hz fun u tk=>?_))
 have f1:Builtin.List.listFitsIndex (items.size:Int)=true:=by simp[Builtin.List.listFitsIndex];exact oqz [items.size] [] [(.le Y0 1000000)] (.il (.a (.c Y0) 1) 9223372036854775808) [11] rfl hz
 have f2:Builtin.List.listTooLong ((items.size:Int).toNat)=false:=by simp[Builtin.List.listTooLong,sizeLine];exact owk (by decide) hz
 have f3:¬ (items.size:Int)<0:=oqz [items.size] [] [] (.no (.il (.a (.c Y0) 1) 0)) [1] rfl
 generalize (items.size:Int)=N at *
 dsimp only
 refine Hk (m:=asInt? _) (HC (a:=some N) ?_)
 dsimp only
 refine I7 (fun hab=>absurd hab (by rw[f1];decide)) (fun _=>?_)
 refine I7 (fun hab=>absurd hab f3) (fun _=>?_)
 exact I7 (fun hab=>absurd hab (by rw[f2];decide)) (fun _=>HC (h _ _))
theorem vG{R:Result->Shared->Prop}{r t:Addr}{items:Array Value} (hh:A.handled=none) (hit:IsRv s.heap r t ((items.size:Int)-1)) (ht:IsTup s.heap t items) (hz:items.size<=1000000) (hrt:t ≠ r) (S:Addr) (res:Value) (c0:Nat) (hS:s.heap.get? S=some { cls:=.type "list",data:=.seq #[] c0 })
  (hR:∀h' tk acc' c',(∀b o,b ≠ S->b ≠ r->s.heap.get? b=some o->h'.get? b=some o)->h'.get? S=some { cls:=.type "list",dict:=none,data:=.seq acc' c',slots:=#[] } →
   ItemsOf (fun i v=>items[items.size-1-i]?=some v) acc' items.size->R (.ok (.ret res)) { s with heap:=h',toks:=tk }) :
  wpAny (model prog w) A.in1 (Builtin.List.listExtendWith (.ref S) (.ref r) res)
   (fun fin s'=>match fin with | .done f=>R (.ok f) s' | .again c'=>c'.quiet=true/\codeAny (model prog w) A c' R s') (fun e s'=>R (.error e) s') s:=by
 refine cw (id hit) fun o ho hc hd=>?_
 refine bS (id ht) fun ot hot hct nt hdt=>?_
 have hSr:S ≠ r:=fun e=>by rw[e,ho] at hS;rw[HA hS] at hc;exact absurd hc (show ¬ Value.type "list"=Value.type "reversed" by decide)
 have hSt:S ≠ t:=fun e=>by rw[e,hot] at hS;rw[HA hS] at hct;exact absurd hct (show ¬ Value.type "list"=Value.type "tuple" by decide)
 have hSf:S ∉ [r,t]:=fun hm=>by rcases HM.mp hm with e|hm;exact hSr e;exact hSt (Iw.mp hm)
 have W:=(Walks.tupRev (prog:=prog) (w:=w) (A:=A.in1) hh r t hrt items hz).toS
 have key:∀ (h:Heap) (c1 tk:Nat),IsRv h r t ((items.size:Int)-1)->IsTup h t items->(∀b o,b≠S->s.heap.get? b=some o->h.get? b=some o) ->
   h.get? S=some { cls:=.type "list",data:=.seq #[] c1 }->codeAny (model prog w) A (.builtin "list.extend.loop" ⟨[.ref S,.ref r,res],[]⟩) R { s with heap:=h,toks:=tk }:=by
  intro h c1 tk hit ht hk hS1
  refine codeAny_extend_loopS W (by rw[sizeLine_eq];exact owk (by decide) hz) S hSf res items.size 0 _ #[] c1 rfl (HQ _) ⟨HQ _,by simpa using hit,ht⟩ hS1 (ItemsOf.nil _) fun s' acc' c' hm hS' hacc=>?_
  rw[Moved.eq_with hm]
  refine hR s'.heap s'.toks acc' c' (fun b o hb hbr e=>hm.heap b o (fun hmem=>?_) (hk b o hb e)) hS' hacc
  rcases HM.mp hmem with e' |hmem
  ·exact hb e'
  ·exact hbr (Iw.mp hmem)
 unfold Builtin.List.listExtendWith
 refine Hk (wpAny_typeOf (T:="reversed") hit.typeIs ?_)
 have h1:Builtin.List.listSameRef (.ref S) (.ref r)=false:=by simp[Builtin.List.listSameRef,hSr]
 have h2:(Value.type "reversed" == Value.type "list")=false:=by decide
 have h3:(Value.type "reversed" == Value.type "tuple")=false:=by decide
 simp only[h1,h2,h3,Bool.or_false,I9,if_false]
 refine Hk (n5 hit ?_)
 refine Hk (J1 (AS hit ht hz fun b tk=>?_))
 refine I7 (fun _=>?_) (fun _=>HC ⟨plainId_quiet F.plain_extend_loop _,key _ c0 _ hit ht (fun b o _ e=>e) hS⟩)
 refine Hk (wpAny_rule ?_)
 refine Hk ?_
 show wpAny _ _ (updateSeq S (·.push .none) >>= fun _=>updateSeq S (·.pop)) _ _ _
 refine Hk (wpAny_updateSeq hS rfl ?_)
 have hS2:=Jr (Obj.mapSeq (·.push Value.none)) hS rfl
 refine wpAny_updateSeq (hz:=by seq_fits) hS2 rfl ?_
 have hS3:=Jr (Obj.mapSeq (·.pop)) hS2 rfl
 have oth:∀b o,b≠S->s.heap.get? b=some o->((s.heap.update S (Obj.mapSeq (·.push Value.none))).update S (Obj.mapSeq (·.pop))).get? b=some o:=
  fun b o hb e=>(Heap.get?_update_other _ _ (Ne.symm hb)).trans ((Heap.get?_update_other _ _ (Ne.symm hb)).trans e)
 exact HC ⟨plainId_quiet F.plain_extend_loop _,key _ _ _ (hit.at fun o e=>oth r o (Ne.symm hSr) e) ⟨ot,oth t _ (Ne.symm hSt) hot,hct,nt,hdt⟩ oth hS3⟩
theorem AR{R:Result->Shared->Prop}{r t:Addr}{items:Array Value} (hh:A.handled=none) (hit:IsRv s.heap r t ((items.size:Int)-1)) (ht:IsTup s.heap t items) (hz:items.size<=1000000) (hrt:t ≠ r) (S:Addr) (hS:s.heap.get? S=some { cls:=.type "list",data:=.seq #[] })
  (hR:∀h' tk acc' c',(∀b o,b ≠ S->b ≠ r->s.heap.get? b=some o->h'.get? b=some o)->h'.get? S=some { cls:=.type "list",dict:=none,data:=.seq acc' c',slots:=#[] } →
   ItemsOf (fun i v=>items[items.size-1-i]?=some v) acc' items.size->R (.ok (.ret .none)) { s with heap:=h',toks:=tk }) :
  wpAny (model prog w) A.in1 (Builtin.«list.__init__» ⟨[.ref S,.ref r],[]⟩)
   (fun fin s'=>match fin with | .done f=>R (.ok f) s' | .again c'=>c'.quiet=true/\codeAny (model prog w) A c' R s') (fun e s'=>R (.error e) s') s:=by
 refine cw (id hit) fun o ho hc hd=>?_
 refine bS (id ht) fun ot hot hct nt hdt=>?_
 have hSr:S ≠ r:=fun e=>by rw[e,ho] at hS;rw[HA hS] at hc;exact absurd hc (show ¬ Value.type "list"=Value.type "reversed" by decide)
 have hSt:S ≠ t:=fun e=>by rw[e,hot] at hS;rw[HA hS] at hct;exact absurd hct (show ¬ Value.type "list"=Value.type "tuple" by decide)
 show wpAny _ _ (do let old <- Builtin.List.listItems (.ref S);Builtin.List.listUpdate (.ref S) (fun _=>#[]);letGo old.toList.reverse;Builtin.List.listExtendWith (.ref S) (.ref r) .none) _ _ s
 refine Hk ?_
 unfold Builtin.List.listItems
 refine Hk (wpAny_seqItems hS rfl (HC ?_))
 show wpAny _ _ (updateSeq S (fun _=>#[]) >>= fun _=>letGo (#[]:Array Value).toList.reverse >>= fun _=>Builtin.List.listExtendWith (.ref S) (.ref r) .none) _ _ s
 refine Hk (wpAny_updateSeq hS rfl ?_)
 have hS2:=Jr (Obj.mapSeq (fun _=>(#[]:Array Value))) hS rfl
 have oth:∀b o,b≠S->s.heap.get? b=some o->(s.heap.update S (Obj.mapSeq (fun _=>(#[]:Array Value)))).get? b=some o:=
  fun b o hb e=>(Heap.get?_update_other _ _ (Ne.symm hb)).trans e
 refine Hk (wpAny_letGo ?_)
 refine vG hh (hit.at fun o e=>oth r o (Ne.symm hSr) e) ⟨ot,oth t _ (Ne.symm hSt) hot,hct,nt,hdt⟩ hz hrt S .none _ hS2 fun h' tk acc' c' hk hS' hacc=>?_
 exact hR h' tk acc' c' (fun b o hb hbr e=>hk b o hb hbr (oth b o hb e)) hS' hacc
theorem nU{Q:Value->Shared->Prop}{r t:Addr}{items:Array Value}(hh:A.handled=none)(hit:IsRv s.heap r t ((items.size:Int)-1))(ht:IsTup s.heap t items)(hz:items.size<=1000000)(hrt:t≠r)
  (hQ:∀h' tk acc' c',(∀b o,b≠r->s.heap.get? b=some o->h'.get? b=some o) ->
   h'.get? s.heap.objs.size=some { cls:=.type "list",dict:=none,data:=.seq acc' c',slots:=#[] }->ItemsOf (fun i v=>items[items.size-1-i]?=some v) acc' items.size->Q (.ref s.heap.objs.size) { s with heap:=h',toks:=tk }) :
  wpAny (model prog w) A (call (.type "list") [.ref r]) Q E s:=by
 refine callType_codes (Q₁:=fun obj s1=>obj=.ref s.heap.objs.size/\s1={ s with heap:=s.heap.push { cls:=.type "list",data:=.seq #[] } }) F.called_list (F.typeCall_list_1 _) F.entry_list_init
  (code_list_new _ ⟨rfl,rfl⟩) fun obj s1 h₁=>?_
 obtain ⟨rfl,rfl⟩:=h₁
 have hS:(s.heap.push { cls:=.type "list",data:=.seq #[] }).get? s.heap.objs.size=some { cls:=.type "list",data:=.seq #[] }:=HJ _ rfl
 refine bS (id ht) fun ot hot hct nt hdt=>?_
 refine ⟨⟨_,hS,rfl⟩,F.args_list_init_2 _ _,AR (A:=A.in1) hh (hit.at fun o e=>IY _ e) ⟨ot,IY _ hot,hct,nt,hdt⟩ hz hrt _ hS fun h' tk acc' c' hk hS' hacc=>?_⟩
 exact ⟨rfl,hQ h' tk acc' c' (fun b o hb e=>hk b o (Jm (I8 e)) hb (IY _ e)) hS' hacc⟩
end
theorem Reps.inv1{G:GV}{α:List Addr}{h:Heap}{vs:List Value}{a:V}(r:Reps G α h vs [a]):∃v,vs=[v]/\Rep G α h v a:=by
 cases r with|cons x r=>cases r with|nil=>exact ⟨_,rfl,x⟩
theorem Reps.inv2{G:GV}{α:List Addr}{h:Heap}{vs:List Value}{a b:V}(r:Reps G α h vs [a,b]):∃v w,vs=[v,w]/\Rep G α h v a/\Rep G α h w b:=by
 cases r with|cons x r=>refine ac (r.inv1) fun w zq29 y=>?_;subst zq29;exact ⟨_,_,rfl,x,y⟩
theorem Reps.inv3{G:GV}{α:List Addr}{h:Heap}{vs:List Value}{a b c:V}(r:Reps G α h vs [a,b,c]):∃v w u,vs=[v,w,u]/\Rep G α h v a/\Rep G α h w b/\Rep G α h u c:=by
 cases r with|cons x r=>refine ay (r.inv2) fun w u zq28 y z=>?_;subst zq28;exact ⟨_,_,_,rfl,x,y,z⟩
inductive Bv (prog:Program) (w:World) (A:Around) (G:GV) (s:Shared) (α:List Addr) (xs:List V) (src:Option Nat) (it:Value) (s2:Shared):Prop
 |mk (I:Addr) (fp wr:List Addr) (P:Nat->Value->Prop) (St:Nat->Heap->Prop) (h:Heap) (tk:Nat) (e1:it=.ref I) (e2:s2={ s with heap:=h,toks:=tk }) (k:KeepsH s.heap h) (W:Walks prog w A I fp wr xs.length P St) (st:St 0 h) (hw:∀b∈wr,s.heap.get? b=none)
  (hf:∀i h,St i h->∀b∈wr,∃o vs,h.get? b=some o/\o.data=.fields vs) (hp:∀b∈fp,∃o,h.get? b=some o) (hs:∀b∈fp,b ∉ wr->(∃n,src=some n/\α[n]?=some b)\/∃items,IsTup h b items) (hP:∀i v,i<xs.length->P i v->∃d,xs[i]?=some d/\Rep G α h v d)
section
variable {prog:Program}{w:World}{A:Around}{E:Value->Shared->Prop}{s:Shared}{G:GV}{α:List Addr}{H:Hp}
theorem vT{v:Value}{d:V}{xs:List V}(hA:AOk prog A)(R:HR G α s.heap H)(r:Rep G α s.heap v d)(e:items H d=some xs) :
  wpAny (model prog w) A (pyIter v) (Bv prog w A G s α xs (jL d)) E s:=by
 refine dy (kW R r e) fun a vs zq27 rs z z' hk=>?_;subst zq27
 rcases hk with ⟨ht,ys,rfl⟩ | ⟨hl,n,rfl⟩
 ·refine wpAny_pyIter_tuple ht ?_
  have hlt:a<s.heap.objs.size:=ht.elim fun o g=>I8 g.1
  have hne:a≠s.heap.objs.size:=Jm hlt
  have k:=bc s.heap { cls:=.type "tuple_iterator",data:=.fields #[.ref a,.int 0 0] }
  have ht':=ht.keeps k
  have W:=Walks.tuple (prog:=prog) (w:=w) hA.handled s.heap.objs.size a hne vs.toArray
  have hsz:vs.toArray.size=xs.length:=by rw[HX,rs.len]
  rw[hsz] at W
  refine ⟨_,_,_,_,_,_,s.toks,rfl,rfl,k,W,⟨⟨_,HJ _ rfl,rfl,rfl⟩,ht'⟩,?_,?_,?_,?_,?_⟩
  ·intro b hb;simp at hb;subst hb;exact cO _
  ·rintro i h ⟨⟨o,ho,_,hd⟩,_⟩ b hb;simp at hb;subst hb;exact ⟨o,_,ho,hd⟩
  ·intro b hb;simp at hb
   rcases hb with rfl|rfl
   ·exact ⟨_,HJ _ rfl⟩
   ·refine ac (ht') fun o ho _=>?_;exact ⟨o,ho⟩
  ·intro b hb hw;simp at hb hw
   rcases hb with rfl|rfl
   ·exact absurd rfl hw
   ·exact .inr ⟨_,ht'⟩
  ·intro i v _ hv
   refine ac (rs.get' (by simpa using hv)) fun d hd r=>?_
   exact ⟨d,hd,r.mono (fun _ _ e=>e) (.of k)⟩
 ·refine wpAny_pyIter_list hl ?_
  have hlt:a<s.heap.objs.size:=hl.elim fun o g=>I8 g.1
  have hne:a≠s.heap.objs.size:=Jm hlt
  have k:=bc s.heap { cls:=.type "list_iterator",data:=.fields #[.ref a,.int 0 0] }
  have hl':=ew hl k
  have W:=Walks.list (prog:=prog) (w:=w) hA.handled s.heap.objs.size a hne vs.toArray
  have hsz:vs.toArray.size=xs.length:=by rw[HX,rs.len]
  rw[hsz] at W
  refine ⟨_,_,_,_,_,_,s.toks,rfl,rfl,k,W,⟨⟨_,HJ _ rfl,rfl,rfl⟩,hl'⟩,?_,?_,?_,?_,?_⟩
  ·intro b hb;simp at hb;subst hb;exact cO _
  ·rintro i h ⟨⟨o,ho,_,hd⟩,_⟩ b hb;simp at hb;subst hb;exact ⟨o,_,ho,hd⟩
  ·intro b hb;simp at hb
   rcases hb with rfl|rfl
   ·exact ⟨_,HJ _ rfl⟩
   ·refine ac (hl') fun o ho _=>?_;exact ⟨o,ho⟩
  ·intro b hb hw;simp at hb hw
   rcases hb with rfl|rfl
   ·exact absurd rfl hw
   ·cases r with
    |lst ha=>exact .inl ⟨n,rfl,ha⟩
  ·intro i v _ hv
   refine ac (rs.get' (by simpa using hv)) fun d hd r=>?_
   exact ⟨d,hd,r.mono (fun _ _ e=>e) (.of k)⟩
theorem rm{a b c:Int}(hc:0<c):0<=(if a<b then (b-a-1) / c+1 else 0):=by
 split
 ·exact Il (Int.ediv_nonneg (Int.le_sub_one_of_lt (Int.sub_pos_of_lt (by assumption))) (HZ hc)) (Int.le_add_one (Kp _))
 ·exact Kp _
theorem rf{a b c:Int}(hc:0<c)(ha:cG a)(hb:cG b):(if a<b then (b-a-1) / c+1 else 0)<=2^41:=by
 split
 ·rename_i h
  have h1:(b-a-1) / c<=b-a-1:=Int.ediv_le_self _ (Int.le_sub_one_of_lt (Int.sub_pos_of_lt h))
  have h2:b-a<=2^40 - -(2^40):=Int.sub_le_sub (HZ hb.2) (HZ ha.1)
  exact Il (Int.add_le_add_right h1 1) (by rw[Int.sub_add_cancel];exact h2)
 ·decide
theorem fx{a b c:Int}(hc:c=1\/c=-1\/c=2):0<=Builtin.Range.rangeSize a b c:=by
 unfold Builtin.Range.rangeSize
 rcases hc with rfl|rfl|rfl
 ·rw[if_pos (by decide)];exact rm (by decide)
 ·rw[if_neg (by decide)];exact rm (by decide)
 ·rw[if_pos (by decide)];exact rm (by decide)
theorem mZ{a b c:Int}(hc:c=1\/c=-1\/c=2)(ha:cG a)(hb:cG b):Builtin.Range.rangeSize a b c<=2^41:=by
 unfold Builtin.Range.rangeSize
 rcases hc with rfl|rfl|rfl
 ·rw[if_pos (by decide)];exact rf (by decide) ha hb
 ·rw[if_neg (by decide)];exact rf (by decide) hb ha
 ·rw[if_pos (by decide)];exact rf (by decide) ha hb
theorem rL{a b c:Int}{t u v:Tok}{r:Addr}(hA:AOk prog A)(hr:IsRange s.heap r a b c t u v)(ha:cG a)(hb:cG b)(hc:c=1\/c=-1\/c=2) :
  wpAny (model prog w) A (pyIter (.ref r)) (Bv prog w A G s α ((dM a b c).map V.int) none) E s:=by
 have hsm:Builtin.Range.small a b c=true:=by
  have h1:=fx (a:=a) (b:=b) hc
  have h2:=mZ hc ha hb
  have f:∀x:Int,-(2^63)<=x->x<2^63->Builtin.Range.rangeFitsLong x=true:=fun x p q=>by
   unfold Builtin.Range.rangeFitsLong
   rw[Iu];exact ⟨decide_eq_true p,decide_eq_true q⟩
  unfold Builtin.Range.small
  rw[f a (AL ha).1 (AL ha).2,f b (AL hb).1 (AL hb).2,f c (by rcases hc with rfl|rfl|rfl <;> decide) (by rcases hc with rfl|rfl|rfl <;> decide),f _ (Il (by decide) h1) (Int.lt_of_le_of_lt h2 (by decide))]
  rcases hc with rfl|rfl|rfl
  ·rw[if_pos (by decide),f _ (vI hb (by decide) (by decide)).1 (vI hb (by decide) (by decide)).2];simp
  ·rw[if_neg (by decide),f _ (vI hb (by decide) (by decide)).1 (vI hb (by decide) (by decide)).2];simp
  ·rw[if_pos (by decide),f _ (vI hb (by decide) (by decide)).1 (vI hb (by decide) (by decide)).2];simp
 refine wpAny_pyIter_range hr hsm ?_
 have k:=bc s.heap { cls:=.type "range_iterator",data:=.fields #[rawInt a,rawInt (Builtin.Range.rangeSize a b c),rawInt c] }
 have hn:0<=Builtin.Range.rangeSize a b c:=fx hc
 have hlen:((dM a b c).map V.int).length=(Builtin.Range.rangeSize a b c).toNat:=by simp[dM]
 have W:=Walks.range (prog:=prog) (w:=w) hA.handled s.heap.objs.size a c (Builtin.Range.rangeSize a b c).toNat
 rw[<- hlen] at W
 refine ⟨_,_,_,_,_,_,s.toks,rfl,rfl,k,W,?_,?_,?_,?_,?_,?_⟩
 ·show IsRangeIter _ _ _ _ _
  rw[hlen]
  have e1:a+((0:Nat):Int)*c=a:=by simp
  have e2:(((Builtin.Range.rangeSize a b c).toNat:Nat):Int)-((0:Nat):Int)=Builtin.Range.rangeSize a b c:=oqz [(Builtin.Range.rangeSize a b c).toNat] [Builtin.Range.rangeSize a b c] [(.il 0 Y0),(otn Y0 Y0)] (.ie (.s (.c Y0) (.c 0)) Y0) [10001,101,1001,1011] rfl hn (aR (Builtin.Range.rangeSize a b c))
  rw[e1,e2]
  exact HJ _ rfl
 ·intro b hb;simp at hb;subst hb;exact cO _
 ·intro i h hi b hb;simp at hb;subst hb;exact ⟨_,_,hi,rfl⟩
 ·intro b hb;simp at hb;subst hb;exact ⟨_,HJ _ rfl⟩
 ·intro b hb hw;exact absurd hb hw
 ·rintro i v hi ⟨t,rfl⟩
  rw[hlen] at hi
  refine ⟨.int (a+i*c),?_,.int _ _⟩
  simp[dM,List.getElem?_range hi,Ir]
theorem xX{v:Value}{d:V}{xs:List V}(hA:AOk prog A)(R:HR G α s.heap H)(r:Rep G α s.heap v d)(e:items H d=some xs) :
  wpAny (model prog w) A (call (.type "reversed") [v]) (fun x s1=>wpAny (model prog w) A (pyIter x) (Bv prog w A G s α xs.reverse (jL d)) E s1) E s:=by
 refine dy (kW R r e) fun a vs zq26 rs z z' hk=>?_;subst zq26
 have hz:vs.length<=1000000:=z'
 have hsz:vs.toArray.size=xs.reverse.length:=by rw[HX,rs.len,Ih]
 have get:∀i v (h:Heap),KeepsH s.heap h->i<xs.reverse.length->vs.toArray[xs.reverse.length-1-i]?=some v->∃d,xs.reverse[i]?=some d/\Rep G α h v d:=fun i v h k hi hv=>by
  refine ac (rs.get' (by simpa using hv)) fun d hd r=>?_
  refine ⟨d,?_,r.mono (fun _ _ e=>e) (.of k)⟩
  rw[Ih] at hi
  rw[List.getElem?_reverse hi];exact hd
 rcases hk with ⟨ht,ys,rfl⟩ | ⟨hl,n,rfl⟩
 ·have hlt:a<s.heap.objs.size:=ht.elim fun o g=>I8 g.1
  have hne:a≠s.heap.objs.size:=Jm hlt
  refine e6 ht (by simp;exact oqz [vs.length] [] [(.le Y0 1000000)] (.il (.a (.c Y0) 1) 9223372036854775808) [11] rfl hz) fun tk=>?_
  have k:=bc s.heap (i6 a ((vs.toArray.size:Int)-1))
  have ht':=ht.keeps k
  have hI:IsRv (s.heap.push (i6 a ((vs.toArray.size:Int)-1))) s.heap.objs.size a ((vs.toArray.size:Int)-1):=⟨_,HJ _ rfl,rfl,rfl⟩
  refine n5 hI ?_
  have W:=Walks.tupRev (prog:=prog) (w:=w) hA.handled s.heap.objs.size a hne vs.toArray (by simp;exact owk (by decide) hz)
  rw[hsz] at W
  refine ⟨_,_,_,_,_,_,tk,rfl,rfl,k,W,⟨HQ _,?_,ht'⟩,?_,?_,?_,?_,fun i v hi hv=>get i v _ k hi hv⟩
  ·rw[<- hsz];simpa using hI
  ·intro b hb;simp at hb;subst hb;exact cO _
  ·rintro i h ⟨_,⟨o,ho,_,hd⟩,_⟩ b hb;simp at hb;subst hb;exact ⟨o,_,ho,hd⟩
  ·intro b hb;simp at hb
   rcases hb with rfl|rfl
   ·exact ⟨_,HJ _ rfl⟩
   ·refine ac (ht') fun o ho _=>?_;exact ⟨o,ho⟩
  ·intro b hb hw;simp at hb hw
   rcases hb with rfl|rfl
   ·exact absurd rfl hw
   ·exact .inr ⟨_,ht'⟩
 ·have hlt:a<s.heap.objs.size:=hl.elim fun o g=>I8 g.1
  have hne:a≠s.heap.objs.size:=Jm hlt
  refine call_reversed_list hl ?_
  have k:=bc s.heap (revObj a ((vs.toArray.size:Int)-1))
  have hl':=ew hl k
  have hI:(s.heap.push (revObj a ((vs.toArray.size:Int)-1))).IsRevIter s.heap.objs.size a ((vs.toArray.size:Int)-1):=⟨_,HJ _ rfl,rfl,rfl⟩
  refine wpAny_pyIter_revIter hI ?_
  have W:=Walks.listRev (prog:=prog) (w:=w) hA.handled s.heap.objs.size a hne vs.toArray
  rw[hsz] at W
  refine ⟨_,_,_,_,_,_,s.toks,rfl,rfl,k,W,⟨HQ _,?_,hl'⟩,?_,?_,?_,?_,fun i v hi hv=>get i v _ k hi hv⟩
  ·rw[<- hsz];simpa using hI
  ·intro b hb;simp at hb;subst hb;exact cO _
  ·rintro i h ⟨_,⟨o,ho,_,hd⟩,_⟩ b hb;simp at hb;subst hb;exact ⟨o,_,ho,hd⟩
  ·intro b hb;simp at hb
   rcases hb with rfl|rfl
   ·exact ⟨_,HJ _ rfl⟩
   ·refine ac (hl') fun o ho _=>?_;exact ⟨o,ho⟩
  ·intro b hb hw;simp at hb hw
   rcases hb with rfl|rfl
   ·exact absurd rfl hw
   ·cases r with
    |lst ha=>exact .inl ⟨n,rfl,ha⟩
end
inductive sz (X:SX) (s:Shared) (α:List Addr) (H:Hp) (Q:List V->Option Nat->Hp->Prop) (it:Value) (s2:Shared):Prop
 |mk (h₁:Heap) (tk₁:Nat) (β:List Addr) (K:Hp) (xs:List V) (src:Option Nat) (k:KeepsH s.heap h₁) (f:∀b∈β,s.heap.get? b=none) (R:HR X.G (α++β) h₁ (H++K)) (o:Bv X.prog X.w X.A X.G { s with heap:=h₁,toks:=tk₁ } (α++β) xs src it s2) (q:Q xs src (H++K))
noncomputable def SI(X:SX)(c:MC)(pi:PI)(e:Expr):Prop:=
 ∀ (env:Env) (s:Shared) (α:List Addr) (ρ:Loc) (H:Hp) (Q:List V->Option Nat->Hp->Prop) (E:Value->Shared->Prop),bP c env->GF X.G c.g X.DT s.heap->HR X.G α s.heap H->FI X.G c env α s.heap ρ ->
  wpI X.sub X.Φ pi ρ H Q->wpAny (model X.prog X.w) X.A (eval e env) (fun xv s1=>wpAny (model X.prog X.w) X.A (pyIter xv) (sz X s α H Q) E s1) E s
theorem Reps.rng{G:GV}{α:List Addr}{h:Heap}{vs:List Value}{ds:List V}{a b c:Int}{C:List Value->Prop}(r:Reps G α h vs ds)(e:B4 ds=some (a,b,c))(h1:∀t,a=0->c=1->C [.int b t])(h2:∀t u,c=1->C [.int a t,.int b u])(h3:∀t u v,C [.int a t,.int b u,.int c v]):C vs:=by
 obtain ⟨l,h0,e0⟩:=Jg.mp e
 cases vints.get h0
 clear h0 e
 rcases l with _ | ⟨x,_ | ⟨y,_ | ⟨z,_|_⟩⟩⟩ <;> cases e0
 ·obtain ⟨_,rfl,x⟩:=r.inv1
  obtain ⟨t,rfl⟩:=x.int_inv
  exact h1 t rfl rfl
 ·obtain ⟨_,_,rfl,x,y⟩:=r.inv2
  obtain ⟨t,rfl⟩:=x.int_inv
  obtain ⟨u,rfl⟩:=y.int_inv
  exact h2 t u rfl
 ·obtain ⟨_,_,_,rfl,x,y,z⟩:=r.inv3
  obtain ⟨t,rfl⟩:=x.int_inv
  obtain ⟨u,rfl⟩:=y.int_inv
  obtain ⟨v,rfl⟩:=z.int_inv
  exact h3 t u v
section
variable {X:SX}{c:MC}
theorem Ek{pe:PE}{e:Expr}(hA:AOk X.prog X.A)(h:SE X c pe e):SI X c (.seq pe) e:=fun env s α ρ H Q E O T R F q=>by
 simp only[qI1,qI2,qI3] at q
 refine wpAny_mono (h env s α ρ H _ E O T R F q) (fun v s1 p=>?_) fun _ _ x=>x
 obtain ⟨h₁,tk₁,β,K,d,rfl,k,f,R',r,q⟩:=p
 refine ac (ifSome.get q) fun xs e q=>?_
 exact wpAny_mono (vT (s:={ s with heap:=h₁,toks:=tk₁ }) hA R' r e) (fun it s2 p=>⟨h₁,tk₁,β,K,xs,_,k,f,R',p,q⟩) fun _ _ x=>x
theorem D4{pe:PE}{e:Expr}{p pos:Pos} (hA:AOk X.prog X.A) (hx:c.isGlob "reversed"=true) (hn:cZ e=true) (h:SE X c pe e):SI X c (.rev pe) (.Call (.Name "reversed" p) [e] [] pos):=fun env s α ρ H Q E O T R F q=>by
 simp only[qI1,qI2,qI3] at q
 refine Call_ (eW uN ut hx O T (callWith_type1 (args_cons (wpAny_mono (h env s α ρ H _ E O T R F q) (fun v s1 p=>args_nil ?_) fun _ _ x=>x) (aJ hn)) (aJ hn) rfl))
 obtain ⟨h₁,tk₁,β,K,d,rfl,k,f,R',r,q⟩:=p
 refine ac (ifSome.get q) fun xs e q=>?_
 refine wpAny_mono (xX (s:={ s with heap:=h₁,toks:=tk₁ }) hA R' r e) (fun x s2 p=>?_) fun _ _ x=>x
 exact wpAny_mono p (fun it s2 p=>⟨h₁,tk₁,β,K,_,_,k,f,R',p,q⟩) fun _ _ x=>x
theorem CW{ps:PEs}{es:List Expr}{p pos:Pos} (hA:AOk X.prog X.A) (hx:c.isGlob "range"=true) (he:(!es.isEmpty)=true) (hn:cR es=true) (h:SEs X c ps es):SI X c (.rng ps) (.Call (.Name "range" p) es [] pos):=fun env s α ρ H Q E O T R F q=>by
 cases es with|nil=>exact (Hq he).elim|cons e es =>
 simp only[qI1,qI2,qI3] at q
 simp only[cR,List.all_cons,Iu] at hn
 refine Call_ (eW vz mem_range hx O T (callWith_type1 (wpAny_mono (h env s α ρ H _ E pos O T R F q) (fun vs s1 p=>?_) fun _ _ y=>y) (aJ hn.1) (fF hn.2)))
 obtain ⟨h₁,tk₁,β,K,ds,rfl,k,f,R',r,a,b,cc,hr,ha,hb,hc,q⟩:=p
 obtain ⟨r,_⟩:=r
 have fin:∀ (o:Obj) (tk:Nat) (t u v:Tok),o={ cls:=.type "range",data:=.fields #[.int a t,.int b u,.int cc v] } →
   wpAny (model X.prog X.w) X.A (pyIter (.ref h₁.objs.size)) (sz X s α H Q) E { s with heap:=h₁.push o,toks:=tk }:=fun o tk t u v ho=>by
  subst ho
  refine wpAny_mono (rL (s:={ s with heap:=h₁.push _,toks:=tk }) (G:=X.G) (α:=α++β) hA (IsRange.new h₁ a b cc t u v) ha hb hc) (fun it s2 p=>?_) fun _ _ x=>x
  refine ⟨_,tk,β,K,_,_,KeepsH.trans k (bc _ _),f,R'.keeps (bc _ _),p,q⟩
 apply r.rng hr
 ·intro t e1 e2
  exact call_range_1 (s:={ s with heap:=h₁,toks:=tk₁ }) (fin _ _ _ _ _ (by rw[e1,e2]))
 ·intro t u e2
  exact call_range_2 (s:={ s with heap:=h₁,toks:=tk₁ }) (fin _ _ _ _ _ (by rw[e2]))
 ·intro t u v
  exact call_range_3 (s:={ s with heap:=h₁,toks:=tk₁ }) (by rcases hc with rfl|rfl|rfl <;> decide) (fin _ _ _ _ _ rfl)
end
noncomputable def KeepsLT(h h':Heap):Prop:=∀a o items n,h.get? a=some o->o.data=.seq items n->h'.get? a=some o
theorem KeepsLT.trans{h h' h'':Heap}(a:KeepsLT h h')(b:KeepsLT h' h''):KeepsLT h h'':=fun x o _ _ e d=>b x o _ _ (a x o _ _ e d) d
theorem KeepsLT.tup{h h':Heap}(k:KeepsLT h h'):KeepsT h h':=fun a items ⟨o,ho,hc,n,hd⟩=>⟨o,k a o _ _ ho hd,hc,n,hd⟩
theorem KeepsLT.list{h h':Heap}(k:KeepsLT h h'){a:Addr}{items:Array Value}(x:h.IsList a items):h'.IsList a items:=x.elim fun o g=>g.2.2.elim fun n hd=>⟨o,k a o _ _ g.1 hd,g.2.1,n,hd⟩
theorem KeepsLT.plain{h h':Heap}(k:KeepsLT h h'){a:Addr}{items:Array Value}(x:h.PlainList a items):h'.PlainList a items:=x.elim fun n e=>⟨n,k a _ _ _ e rfl⟩
theorem HR.lt'{G:GV}{α:List Addr}{h h':Heap}{H:Hp}(r:HR G α h H)(k:KeepsLT h h'):HR G α h' H:=
 ⟨r.len,r.nodup,r.pos,fun n a xs e1 e2=>(r.lst n a xs e1 e2).elim fun vs g=>⟨vs,k.list g.1,g.2.1.mono (fun _ _ e=>e) k.tup,g.2.2.1,fun hn=>k.plain (g.2.2.2 hn)⟩⟩
theorem KeepsLT.sameBut{h h':Heap}{b:Addr}(hs:Heap.SameBut b h h')(hb:∀o,h.get? b=some o->∀items n,o.data≠.seq items n):KeepsLT h h':=fun a o items n e d=>by
 by_cases hab:a=b
 ·subst hab;exact absurd d (hb o e items n)
 ·exact hs.extBut a o hab e
theorem gH{h:Heap}{b:Addr}{m:Str->Option Value}(hn:h.Ns b m):∀o,h.get? b=some o->∀items n,o.data≠.seq items n:=fun o e items n d=>by
 refine cV (hn) fun o' es ep ho hd _=>?_
 rw[ho] at e;cases e;rw[hd] at d;cases d
theorem cH{env:Env}:∀ {names:List (Str × NameKind)}{x:Str}{k:NameKind},names.lookup x=some k ->
  (names.map fun (n,k)=>if (k == NameKind.free && env.scope.kind == .function && env.kindOf n == some .cell) then (n,NameKind.cell) else (n,k)).lookup x =
   some (if (k == NameKind.free && env.scope.kind == .function && env.kindOf x == some .cell) then NameKind.cell else k)
 | [],_,_,h=>by simp at h
 | (n,k')::r,x,k,h=>by
  have ih:=@cH env r x k
  show List.lookup x ((if (k' == NameKind.free && env.scope.kind == .function && env.kindOf n == some .cell)=true then (n,NameKind.cell) else (n,k'))::_)=_
  cases hx:x == n with
  |true =>
   have hx':=beq_iff_eq.mp hx
   subst hx'
   simp only[HY,Km] at h
   cases h
   by_cases hc:(k' == NameKind.free && env.scope.kind == .function && env.kindOf x == some .cell)=true
   ·rw[if_pos hc,if_pos hc,HY,Km]
   ·rw[if_neg hc,if_neg hc,HY,Km]
  |false =>
   simp only[HY,hx] at h
   by_cases hc:(k' == NameKind.free && env.scope.kind == .function && env.kindOf n == some .cell)=true
   ·rw[if_pos hc];simp only[HY,hx];exact ih h
   ·rw[if_neg hc];simp only[HY,hx];exact ih h
theorem d5{env:Env}:∀ {names:List (Str × NameKind)}{x:Str},names.lookup x=none ->
  (names.map fun (n,k)=>if (k == NameKind.free && env.scope.kind == .function && env.kindOf n == some .cell) then (n,NameKind.cell) else (n,k)).lookup x=none
 | [],_,h=>by simp
 | (n,k')::r,x,h=>by
  have ih:=@d5 env r x
  show List.lookup x ((if (k' == NameKind.free && env.scope.kind == .function && env.kindOf n == some .cell)=true then (n,NameKind.cell) else (n,k'))::_)=_
  cases hx:x == n with
  |true=>simp[HY,hx] at h
  |false =>
   simp only[HY,hx] at h
   by_cases hc:(k' == NameKind.free && env.scope.kind == .function && env.kindOf n == some .cell)=true
   ·rw[if_pos hc];simp only[HY,hx];exact ih h
   ·rw[if_neg hc];simp only[HY,hx];exact ih h
noncomputable def dT(env:Env):List (Str × NameKind)->List (Str × Addr)->List (Str × Addr)
 | [],acc=>acc
 | (n,k)::r,acc=>dT env r (if k == .free then (n,(env.cells.lookup n).getD 0)::acc else acc)
theorem li(env:Env):∀ (names:List (Str × NameKind)) (acc:List (Str × Addr)),(∀x∈names,x.2=.free->∃c,env.cells.lookup x.1=some c) ->
  (forIn names acc fun x (r:List (Str × Addr))=>(if x.2 == .free then do let c <- cellOf env x.1;pure (ForInStep.yield ((x.1,c)::r)) else pure (ForInStep.yield r):Sem (ForInStep (List (Str × Addr)))))=pure (dT env names acc)
 | [],acc,_=>rfl
 | (n,k)::r,acc,h=>by
  rw[List.forIn_cons]
  by_cases hk:k=.free
  ·subst hk
   obtain ⟨c,hc⟩:=h _ Hy rfl
   dsimp only at hc
   have e:cellOf env n=pure c:=by unfold cellOf;rw[hc]
   simp only[Km,if_true,e,pure_bind,dT,hc,Option.getD_some]
   exact li env r _ fun x hx=>h x (Hz _ hx)
  ·have hb:(k == NameKind.free)=false:=by simpa using hk
   simp only[hb,I9,if_false,pure_bind,dT]
   exact li env r _ fun x hx=>h x (Hz _ hx)
theorem jk{scope:Scope}{env:Env}(h:∀x∈scope.names,x.2=.free->∃c,env.cells.lookup x.1=some c):closureFor scope env=pure (dT env scope.names []):=by
 have e:=li env scope.names [] h
 unfold closureFor
 first
 |exact e
 | (simp only[bind_pure];exact e)
theorem kT(env:Env)(n:Str):∀ (names:List (Str × NameKind)) (acc:List (Str × Addr)),((n,NameKind.free)∈names\/acc.lookup n=some ((env.cells.lookup n).getD 0))->(dT env names acc).lookup n=some ((env.cells.lookup n).getD 0)
 | [],acc,h=>by
  rcases h with h|h
  ·simp at h
  ·exact h
 | (m,k)::r,acc,h=>by
  unfold dT
  refine kT env n r _ ?_
  by_cases hk:k=.free
  ·subst hk
   simp only[Km,if_true]
   by_cases hm:n=m
   ·subst hm;right;simp[HY]
   ·rcases h with h|h
    ·left
     rcases HM.mp h with h|h
     ·cases h;exact absurd rfl hm
     ·exact h
    ·right
     have:(n == m)=false:=by simpa using hm
     simp[HY,this,h]
  ·have hb:(k == NameKind.free)=false:=by simpa using hk
   simp only[hb,I9,if_false]
   rcases h with h|h
   ·left
    rcases HM.mp h with h|h
    ·cases h;exact absurd rfl hk
    ·exact h
   ·right;exact h
theorem eG{names:List (Str × NameKind)}{x:Str}{k:NameKind}(h:names.lookup x=some k):(x,k)∈names:=by
 induction names with
 |nil=>simp at h
 |cons p r ih =>
  obtain ⟨n,k'⟩:=p
  rw[HY] at h
  cases hx:x == n with
  |true=>rw[hx] at h;cases h;rw[beq_iff_eq.mp hx];exact Hy
  |false=>rw[hx] at h;exact Hz _ (ih h)
structure CompOk (c:MC)(sc:Scope)(x:Str)(cs:List Str)(caps:List Nat):Prop where
 kind:sc.kind=.function
 loc:∀p ∈ sc.names,p.2=.local->p.1=Str.ofString ".0"\/p.1=x
 fre:∀p∈sc.names,p.2=.free->p.1∈cs
 nocell:∀p∈sc.names,p.2≠.cell
 tx:sc.names.lookup x=some .local
 cap:∀n∈cs,sc.names.lookup n=some .free
 out:∀n∈cs,c.scope.names.lookup n=some NameKind.cell\/c.scope.names.lookup n=some NameKind.free
 names:∀y∈sc.names,y.2=.local->sc.names.lookup y.1=some .local
 cp:∀ (i j:Nat),caps[i]?=some j->∃n,cs[i]?=some n/\c.names[j]?=some n
theorem CompOk.outer{c:MC}{sc:Scope}{x:Str}{cs:List Str}{caps:List Nat}{env:Env}(K:CompOk c sc x cs caps)(O:bP c env){n:Str}(hn:n∈cs):(env.kindOf n=some .cell\/env.kindOf n=some .free)/\∃a,env.cells.lookup n=some a:=by
 have h:env.kindOf n=some .cell\/env.kindOf n=some .free:=by
  rcases K.out n hn with h|h
  ·exact .inl (O.cel n h)
  ·exact O.fre n h
 exact ⟨h,O.cells n h⟩
theorem CompOk.clos{c:MC}{sc:Scope}{x:Str}{cs:List Str}{caps:List Nat}{env:Env}(K:CompOk c sc x cs caps)(O:bP c env):closureFor sc env=pure (dT env sc.names []):=
 jk fun p hp hf=>(K.outer O (K.fre p hp hf)).2
theorem CompOk.closLook{c:MC}{sc:Scope}{x:Str}{cs:List Str}{caps:List Nat}{env:Env}(K:CompOk c sc x cs caps)(O:bP c env){n:Str}(hn:n∈cs){a:Addr}(ha:env.cells.lookup n=some a):(dT env sc.names []).lookup n=some a:=by
 rw[kT env n sc.names [] (.inl (eG (K.cap n hn))),ha];rfl
theorem CompOk.env{c:MC}{sc:Scope}{x:Str}{cs:List Str}{caps:List Nat}{env:Env}(K:CompOk c sc x cs caps)(O:bP c env)(C:Addr):bP ⟨c.g,sc,x::cs⟩ (compEnvC sc (dT env sc.names []) C env) where
 kind:=K.kind
 globals:=O.globals
 builtins:=O.builtins
 loc:=fun y h=>cH (env:=env) h
 glob:=fun y h=>cH (env:=env) h
 cel:=fun y h=>absurd rfl (K.nocell _ (eG h))
 fre:=fun y h=>by
  have:=cH (env:=env) h
  by_cases hc:((NameKind.free == NameKind.free && env.scope.kind == .function && env.kindOf y == some .cell))=true
  ·rw[if_pos hc] at this;exact .inl this
  ·rw[if_neg hc] at this;exact .inr this
 cells:=fun y h=>by
  have hy:y∈cs:=by
   cases hl:sc.names.lookup y with
   |none =>
    have:=d5 (env:=env) hl
    have h':(compEnvC sc (dT env sc.names []) C env).kindOf y=none:=this
    rw[h'] at h;rcases h with h|h <;> cases h
   |some k =>
    have:=cH (env:=env) hl
    have h':(compEnvC sc (dT env sc.names []) C env).kindOf y=_:=this
    rw[h'] at h
    have hm:=eG hl
    cases k with
    |free=>exact K.fre _ hm rfl
    |cell=>exact absurd rfl (K.nocell _ hm)
    |_=>simp at h
  obtain ⟨a,ha⟩:=(K.outer O hy).2
  exact ⟨a,K.closLook O hy ha⟩
theorem qs{ρ:Loc}:∀ {caps:List Nat}{i:Nat}{d:V},ah (caps.map (ah ρ)) i=some d->∃j,caps[i]?=some j/\ah ρ j=some d
 | [],i,d,h=>nomatch (show (none:Option V)=some d from h)
 |j::r,0,d,h=>⟨j,rfl,h⟩
 |j::r,i+1,d,h=>by
  refine ac (qs (caps:=r) h) fun k a b=>?_
  exact ⟨k,by simpa using a,b⟩
theorem CompOk.vars{G:GV}{c:MC}{sc:Scope}{x:Str}{cs:List Str}{caps:List Nat}{env:Env}{α:List Addr}{h h':Heap}{ρ:Loc}{β:List Addr}{C:Addr}{m:Str->Option Value}{v:Value}{d:V}
  (K:CompOk c sc x cs caps) (O:bP c env) (F:FI G c env α h ρ) (k:KeepsH h h') (hn:h'.Ns C m) (hm:m x=some v) (r:Rep G (α++β) h' v d) :
  FI G ⟨c.g,sc,x::cs⟩ (compEnvC sc (dT env sc.names []) C env) (α++β) h' (some d::caps.map (ah ρ)):=by
 intro i y e hy he
 cases i with
 |zero =>
  simp at hy;subst hy
  cases (show some d=some e from he)
  exact ⟨v,.inl ⟨(K.env O C).loc x K.tx,m,hn,hm⟩,r⟩
 |succ i =>
  simp at hy
  refine ac (qs he) fun j hj hd=>?_
  refine ac (K.cp i j hj) fun n hn1 hn2=>?_
  have hyn:n=y:=by rw[hn1] at hy;exact HA hy
  rw[hyn] at hn1 hn2
  have hmem:y∈cs:=IG hn1
  refine ac (F j y e hn2 hd) fun u hu ru=>?_
  refine ⟨u,?_,ru.up k⟩
  obtain ⟨hk,a,ha⟩:=K.outer O hmem
  rcases hu with ⟨hl,_⟩ | ⟨_,cc,hc,hv⟩
  ·rcases hk with hk|hk <;> rw[hk] at hl <;> cases hl
  ·rw[ha] at hc;cases hc
   exact .inr ⟨(K.env O C).fre y (K.cap y hmem),a,K.closLook O hmem ha,i5 hv k⟩
section
variable {X:SX}{c:MC}
noncomputable def vV(X:SX)(c:MC)(po:PO)(ifs:List Expr):Prop:=
 match po with
 | .no=>ifs=[]
 | .some pe=>∃e,ifs=[e]/\SC X c pe e
theorem u8{po:PO}{ifs:List Expr}(h:vV X c po ifs)(env:Env)(s:Shared)(α:List Addr)(ρ:Loc)(H:Hp)(Q:Bool->Hp->Prop)(E:Value->Shared->Prop)(O:bP c env)(T:GF X.G c.g X.DT s.heap)(R:HR X.G α s.heap H)
  (F:FI X.G c env α s.heap ρ) (q:wpO X.sub X.Φ po ρ H fun c H3=>ifSome (match c with|some c=>ba H3 c|none=>some true) fun t=>Q t H3) :
  wpAny (model X.prog X.w) X.A (forIn ifs true fun c r=>if r=true then do let ok <- isTrue c env (eval c env);pure (ForInStep.yield ok) else pure (ForInStep.yield r)) (Post X.G (fun _ _ a b=>a=b) s α H Q) E s:=by
 cases po with
 |no =>
  cases h
  simp only[qO1,qO2] at q
  exact HC (Post.same' (d:=true) R rfl q)
 |some pe =>
  obtain ⟨e,rfl,h⟩:=h
  simp only[qO1,qO2] at q
  rw[List.forIn_cons]
  simp only[if_true]
  refine Hk (Hk (wpAny_mono (h env s α ρ H Q E O T R F q) (fun b s1 p=>HC ?_) fun _ _ x=>x))
  simp only[List.forIn_nil]
  exact HC p
inductive uf (X:SX) (s:Shared) (α:List Addr) (H:Hp) (Q:List V->Hp->Prop) (D C:Addr) (s':Shared):Prop
 |mk (h':Heap) (tk:Nat) (β:List Addr) (K:Hp) (ys:List Value) (ds:List V) (m:Str->Option Value) (e:s'={ s with heap:=h',toks:=tk }) (k:KeepsH s.heap h') (f:∀b∈β,s.heap.get? b=none) (R:HR X.G (α++β) h' (H++K)) (dD:s.heap.get? D=none) (dC:s.heap.get? C=none) (ne:D≠C) (nD:D ∉ α++β)
  (pl:h'.PlainList D ys.toArray) (rs:Reps X.G (α++β) h' ys ds) (z:ds.length<=lim) (ns:h'.Ns C m) (q:Q ds (H++K))
theorem pW{step:V->Hp->(Option V->Hp->Prop)->Prop}{x:V}{xs:List V}{H:Hp}{Q:List V->Hp->Prop}:dm step (x::xs) H Q=step x H fun o H1=>dm step xs H1 fun ys H2=>Q (match o with|some y=>y::ys|none=>ys) H2:=rfl
inductive GZ (X:SX) (s:Shared) (α β1:List Addr) (H:Hp) (xs:List V) (St:Nat->Heap->Prop) (wr:List Addr) (h2:Heap) (D C:Addr) (step:V->Hp->(Option V->Hp->Prop)->Prop) (Q:List V->Hp->Prop) (n:Nat) (s':Shared):Prop
 |mk (i:Nat) (h':Heap) (tk:Nat) (γ:List Addr) (KK:Hp) (ys:List Value) (ds:List V) (m:Str->Option Value) (e:s'={ s with heap:=h',toks:=tk }) (hi:i<=xs.length) (hn:n=xs.length+1-i) (st:St i h') (hk:∀b o,b ∉ wr->h2.get? b=some o->h'.get? b=some o)
  (hf:∀b∈β1++γ,s.heap.get? b=none) (hD:D ∉ α++(β1++γ)) (R:HR X.G (α++(β1++γ)) h' (H++KK)) (pl:h'.PlainList D ys.toArray) (rs:Reps X.G (α++(β1++γ)) h' ys ds) (z:ds.length<=i) (ns:h'.Ns C m) (q:dm step (xs.drop i) (H++KK) (fun r H2=>Q (ds++r) H2))
theorem mq{elt:Expr}{iter:Expr}{x:Str}{px pos:Pos}{ifs:List Expr}{sc:Scope}{cs:List Str}{pelt:PE}{caps:List Nat}{cond:PO}
  (K:CompOk c sc x cs caps) (h1:SE X ⟨c.g,sc,x::cs⟩ pelt elt) (h2:vV X ⟨c.g,sc,x::cs⟩ cond ifs)
  (env:Env) (s:Shared) (α:List Addr) (ρ:Loc) (H:Hp) (Q:List V->Hp->Prop) (E:Value->Shared->Prop) (O:bP c env) (T:GF X.G c.g X.DT s.heap) (F:FI X.G c env α s.heap ρ)
  (it:Value) (s2:Shared)
  (hit:sz X s α H (fun xs _ H1=>xs.length<=lim/\dm (fun x H2 k=>ifSome (mH 1 x) fun ρt =>
   wpO X.sub X.Φ cond (ρt++caps.map (ah ρ)) H2 fun c H3=>ifSome (match c with|some c=>ba H3 c|none=>some true) fun t =>
    if t then wpE X.sub X.Φ pelt (ρt++caps.map (ah ρ)) H3 fun y H4=>k (some y) H4 else k none H3) xs H1 Q) it s2)
  (RR:Value->Addr->Result->Shared->Prop) (hRR:∀D C s',uf X s α H Q D C s'->RR (.ref D) C (.ok .next) s') :
  wpAny (model X.prog X.w) X.A (newList []) (fun acc s3=>wpAny (model X.prog X.w) X.A (newFunctionEnv sc env.globals (dT env sc.names []) [] env.qual none .none (some env)) (fun cenv s4 =>
   codeAny (model X.prog X.w) X.A (.compStart (.ListComp elt [⟨.Name x px,iter,ifs,0⟩] sc pos) 0 it acc { cenv with scope:=relabel sc env }) (RR acc cenv.locals) s4) E s3) E s2:=by
 obtain ⟨h₁,tk₁,β1,K₁,xs,src,k1,f1,R1,⟨I,fp,wr,P,St,h₂,tk2,rfl,rfl,k2,W,hst,hwr,hfield,hfp,hsrc,hP⟩,hlen,hgo⟩:=hit
 dsimp only at k2 hwr
 refine Kd (wpAny_newFunctionEnv K.nocell (by intro y hy;simp at hy) (fun h3 hns3 hsb3=>?_) K.kind)
 dsimp only at hns3 hsb3 ⊢
 generalize hH2:h₂.push { cls:=.type "list",dict:=none,data:=.seq ([]:List Value).toArray }=H2 at hns3 hsb3 ⊢
 have hC:H2.objs.size=h₂.objs.size+1:=by rw[<- hH2,Heap.size_push]
 have hDC:h₂.objs.size≠H2.objs.size:=by rw[hC];exact Jm (IA _)
 generalize hCC:H2.objs.size=C at hns3 hsb3 hDC hC ⊢
 generalize hDD:h₂.objs.size=D at hDC hC ⊢
 have deadD:h₂.get? D=none:=by rw[<- hDD];exact cO _
 have deadC:h₂.get? C=none:=by
  cases e:h₂.get? C with
  |none=>rfl
  |some o=>exact absurd (I8 e) (by rw[hDD,hC];exact Nat.not_lt.mpr (IZ _))
 have aliveNe:∀b o,h₂.get? b=some o->b≠D/\b≠C:=fun b o e=>⟨fun q=>(by rw[q,deadD] at e;cases e),fun q=>(by rw[q,deadC] at e;cases e)⟩
 have old:KeepsH h₂ h3:=fun b o e=>hsb3.extBut b o (aliveNe b o e).2 (IY _ (hH2 ▸ IY _ e))
 have hacc:h3.PlainList D ([]:List Value).toArray:=⟨_,hsb3.extBut _ _ hDC (IY _ (hH2 ▸ hDD ▸ HJ _ rfl))⟩
 have hst3:St 0 h3:=W.frame _ _ _ hst fun b _ o e=>old b o e
 have hDf:D ∉ fp:=fun hm=>by obtain ⟨o,e⟩:=hfp _ hm;rw[deadD] at e;cases e
 have hCf:C ∉ fp:=fun hm=>by obtain ⟨o,e⟩:=hfp _ hm;rw[deadC] at e;cases e
 have hDw:D ∉ wr:=fun hm=>hDf (W.sub _ hm)
 have hCw:C ∉ wr:=fun hm=>hCf (W.sub _ hm)
 have deadS:∀b,h₁.get? b=none->s.heap.get? b=none:=fun b e=>by
  cases e':s.heap.get? b with
  |none=>rfl
  |some o=>have:=k1 b o e';rw[e] at this;cases this
 have deadS2:∀b,h₂.get? b=none->s.heap.get? b=none:=fun b e=>deadS b (by
  cases e':h₁.get? b with
  |none=>rfl
  |some o=>have:=k2 b o e';rw[e] at this;cases this)
 -- whatever keeps h₂ off wr keeps s
 have keepS:∀h':Heap,(∀b o,b ∉ wr->h₂.get? b=some o->h'.get? b=some o)->KeepsH s.heap h':=fun h' hk b o e =>
  hk b o (fun hm=>by have:=hwr b hm;rw[k1 b o e] at this;cases this) (k2 b o (k1 b o e))
 have keepT:∀h':Heap,(∀b o,b ∉ wr->h₂.get? b=some o->h'.get? b=some o)->KeepsT h₂ h':=fun h' hk=>by
  refine KeepsLT.tup fun a o items n e d=>hk a o (fun hm=>?_) e
  refine cU (hfield 0 h₂ hst a hm) fun o' vs e' d'=>?_
  rw[e] at e';cases e';rw[d] at d';cases d'
 have D1:D ∉ α++β1:=fun hm=>by
  obtain ⟨n,hn⟩:=List.mem_iff_getElem?.mp hm
  obtain ⟨ys,hy⟩:=R1.at hn
  refine ac (R1.lst n D ys hn hy) fun us zq30 _=>?_;refine ac (zq30) fun o ho _=>?_
  have:=k2 _ _ ho;rw[deadD] at this;cases this
 let step:V->Hp->(Option V->Hp->Prop)->Prop:=fun x H2 k=>ifSome (mH 1 x) fun ρt =>
   wpO X.sub X.Φ cond (ρt++caps.map (ah ρ)) H2 fun c H3=>ifSome (match c with|some c=>ba H3 c|none=>some true) fun t =>
    if t then wpE X.sub X.Φ pelt (ρt++caps.map (ah ρ)) H3 fun y H4=>k (some y) H4 else k none H3
 have loop:∀s3:Shared,s3={ s with heap:=h3,toks:=tk2+([]:List (Str × Value)).length } ->
   codeAny (model X.prog X.w) X.A (.compLoop (.ListComp elt [⟨.Name x px,iter,ifs,0⟩] sc pos) 0 (.ref I) (.ref D) (compEnvC sc (dT env sc.names []) C env)) (RR (.ref D) C) s3:=by
  rintro s3 rfl
  refine codeAny_compLoop_tests (GZ X s α β1 H xs St wr h₂ D C step Q) ?_ (xs.length+1) ⟨0,h3,_,[],K₁,[],[],_,rfl,HQ _,rfl,hst3,fun b o _ e=>old b o e,by simpa using f1,by simpa using D1,?_,hacc,.nil,Ht _,hns3,?_⟩
  ·rintro n s' ⟨i,h',tk,γ,KK,ys,ds,m,rfl,hi,rfl,hsti,hkeep,hfresh,hD',R',hpl,rys,hdl,hns,hgo'⟩
   by_cases hlt:i<xs.length
   ·refine W.item i _ _ _ hlt hsti fun v h'' tk' hPv hst'' hk''=>?_
    have lt1:KeepsLT h' h'':=fun a o items n e d=>hk'' a o (fun hm=>by
     refine cU (hfield i h' hsti a hm) fun o' vs e' d'=>?_
     rw[e] at e';cases e';rw[d] at d';cases d') e
    have hns'':h''.Ns C m:=hns.at' fun o e=>hk'' C o hCw e
    refine wpAny_assign_Name (wpAny_storeName_local ((K.env O C).loc x K.tx) hns'' (fun h4 hns4 hsb4=>?_) (by simp[compEnvC,relabel,K.kind]))
    have lt2:KeepsLT h'' h4:=KeepsLT.sameBut hsb4 (gH hns'')
    have hkeep4:∀b o,b ∉ wr->h₂.get? b=some o->h4.get? b=some o:=fun b o hb e=>hsb4.extBut b o (aliveNe b o e).2 (hk'' b o hb (hkeep b o hb e))
    have st4:St (i+1) h4:=W.frame _ _ _ hst'' fun b hb o e=>hsb4.extBut b o (fun (q:b=C)=>hCf (q ▸ hb)) e
    have R4:=(R'.lt' lt1).lt' lt2
    have kS:=keepS h4 hkeep4
    refine ac (hP i v hlt hPv) fun d hd rd=>?_
    have rd4:Rep X.G (α++(β1++γ)) h4 v d:=by
     have:=rd.mono (α':=(α++β1)++γ) eC (keepT h4 hkeep4)
     rwa [Hv] at this
    have hdrop:xs.drop i=d::xs.drop (i+1):=by
     obtain ⟨hl,he⟩:=Hs.mp hd
     rw[List.drop_eq_getElem_cons hl,he]
    rw[hdrop] at hgo'
    rw[pW] at hgo'
    obtain ⟨ρt,hρ,hgo'⟩:=ifSome.get (show ifSome (mH 1 d) _ from hgo')
    have hρ:some [some d]=some ρt:=hρ
    cases hρ
    have FI4:=K.vars O F kS hns4 (if_pos rfl) rd4
    have T4:GF X.G c.g X.DT h4:=T.keeps kS
    refine wpAny_mono (u8 h2 (compEnvC sc (dT env sc.names []) C env) { s with heap:=h4,toks:=tk'+1 } (α++(β1++γ)) _ (H++KK) _ _ (K.env O C) T4 R4 FI4 hgo') (fun ok s5 p=>?_) fun _ _ x=>x
    obtain ⟨h5,tk5,γ5,K5,t,rfl,k5,f5,R5,rfl,q5⟩:=p
    dsimp only at k5 f5
    have hD5:D ∉ (α++(β1++γ))++γ5:=fun hm=>by
     rcases Ik.mp hm with hm|hm
     ·exact hD' hm
     ·have:=f5 _ hm
      obtain ⟨nn,hh⟩:=lt2.plain (lt1.plain hpl)
      rw[hh] at this;cases this
    have fr5:∀b∈β1++(γ++γ5),s.heap.get? b=none:=fun b hb=>by
     rw[<- Hv] at hb
     rcases Ik.mp hb with hb|hb
     ·exact hfresh b hb
     ·cases e:s.heap.get? b with
      |none=>rfl
      |some o=>have:=kS b o e;rw[f5 b hb] at this;cases this
    have keep5:∀b o,b ∉ wr->h₂.get? b=some o->h5.get? b=some o:=fun b o hb e=>k5 b o (hkeep4 b o hb e)
    have ns5:=hns4.keeps k5
    have st5:St (i+1) h5:=W.frame _ _ _ st4 fun b _ o e=>k5 b o e
    have pl5:h5.PlainList D ys.toArray:=dc (lt2.plain (lt1.plain hpl)) k5
    have rys5:Reps X.G ((α++(β1++γ))++γ5) h5 ys ds:=((rys.mono (fun _ _ e=>e) (lt1.trans lt2).tup).up k5)
    cases ok with
    |false =>
     simp only[I9,if_false] at q5 ⊢
     refine ⟨xs.length+1-(i+1),by exact oqz [xs.length+1-(i+1),xs.length,i,xs.length+1-i] [] [(.le (Y2+1) Y1),(.an (.le (Y1+1) (Y3+Y2)) (.le Y3 (Y1+1))),(osb (Y1+1) (Y2+1) Y0)] (.le (Y0+1) Y3) [1000101,100111] rfl hlt (aX (xs.length+1) (i)) (am (xs.length+1) (i+1)),i+1,h5,tk5,γ++γ5,KK++K5,ys,ds,_,rfl,hlt,rfl,st5,keep5,fr5,by simpa using hD5,by simpa using R5,pl5,by simpa using rys5,by exact oqz [ds.length,i] [] [(.le Y0 Y1)] (.le Y0 (Y1+1)) [11] rfl hdl,ns5,?_⟩
     simpa using q5
    |true =>
     simp only[if_true] at q5 ⊢
     refine wpAny_mono (h1 (compEnvC sc (dT env sc.names []) C env) { s with heap:=h5,toks:=tk5 } ((α++(β1++γ))++γ5) _ ((H++KK)++K5) _ _ (K.env O C) (T4.keeps k5) R5 (FI4.up k5) q5) (fun y s6 p=>?_) fun _ _ x=>x
     obtain ⟨h6,tk6,γ6,K6,e,rfl,k6,f6,R6,r6,q6⟩:=p
     dsimp only at k6 f6
     have pl6:=dc pl5 k6
     have hlen6:ys.length<=lim:=by rw[rys5.len];exact Hj hdl (Hj (JJ hlt) hlen)
     refine wpAny_list_append_plain (s:={ s with heap:=h6,toks:=tk6 }) pl6 (fun h7 pl7 hsb7=>?_) (by simp;exact Hj hlen6 fh)
     have hD6:D ∉ ((α++(β1++γ))++γ5)++γ6:=fun hm=>by
      rcases Ik.mp hm with hm|hm
      ·exact hD5 hm
      ·have:=f6 _ hm
       obtain ⟨nn,hh⟩:=pl5
       rw[hh] at this;cases this
     have fr6:∀b∈β1++(γ++γ5++γ6),s.heap.get? b=none:=fun b hb=>by
      rw[<- Hv] at hb
      rcases Ik.mp hb with hb|hb
      ·exact fr5 b hb
      ·cases e:s.heap.get? b with
       |none=>rfl
       |some o=>have:=k5 b o (kS b o e);rw[f6 b hb] at this;cases this
     -- only D is written
     have nD:∀b∈(((α++(β1++γ))++γ5)++γ6),b≠D:=fun b hb q=>hD6 (q ▸ hb)
     have tup7:KeepsT h6 h7:=fun a items x=>x.extBut hsb7.extBut fun q=>by
      subst q
      refine cw (x) fun o ho hc _=>?_
      obtain ⟨nn,hh⟩:=pl6
      rw[hh] at ho;cases ho;simp at hc
     have R7:HR X.G (((α++(β1++γ))++γ5)++γ6) h7 (((H++KK)++K5)++K6):=
      ⟨R6.len,R6.nodup,R6.pos,fun n a xs e1 e2=>by
       refine cy (R6.lst n a xs e1 e2) fun vs l q z p=>?_
       have hne:=nD a (IG e1)
       exact ⟨vs,l.extBut hsb7.extBut hne,q.mono (fun _ _ e=>e) tup7,z,fun hn=>(p hn).elim fun n' e'=>⟨n',hsb7.extBut _ _ hne e'⟩⟩⟩
     have aliveD:∀b o,h₂.get? b=some o->b≠D:=fun b o e=>(aliveNe b o e).1
     have ns7:=(ns5.keeps k6).extBut hsb7.extBut (Ne.symm hDC)
     refine ⟨xs.length+1-(i+1),by exact oqz [xs.length+1-(i+1),xs.length,i,xs.length+1-i] [] [(.le (Y2+1) Y1),(.an (.le (Y1+1) (Y3+Y2)) (.le Y3 (Y1+1))),(osb (Y1+1) (Y2+1) Y0)] (.le (Y0+1) Y3) [1000101,100111] rfl hlt (aX (xs.length+1) (i)) (am (xs.length+1) (i+1)),i+1,h7,tk6,γ++γ5++γ6,KK++K5++K6,ys++[y],ds++[e],_,rfl,hlt,rfl,?_,?_,fr6,by simpa using hD6,by simpa using R7,?_,?_,by simp;exact oqz [ds.length,i] [] [(.le Y0 Y1)] (.le Y0 Y1) [11] rfl hdl,ns7,?_⟩
     ·exact W.frame _ _ _ st5 fun b hb o eo=>hsb7.extBut b o (fun q=>hDf (q ▸ hb)) (k6 b o eo)
     ·exact fun b o hb eo=>hsb7.extBut b o (aliveD b o eo) (k6 b o (keep5 b o hb eo))
     ·simpa using pl7
     ·have:Reps X.G (((α++(β1++γ))++γ5)++γ6) h6 (ys++[y]) (ds++[e]):=(rys5.up k6).append (.cons r6 .nil)
      simpa using this.mono (fun _ _ e=>e) tup7
     ·simpa using q6
   ·have hin:i=xs.length:=oqz [i,xs.length] [] [(.le Y0 Y1),(.no (.le (Y0+1) Y1))] (.eq Y0 Y1) [101,11] rfl hi hlt
    subst hin
    refine W.done _ _ _ hsti fun h'' tk' hk''=>?_
    have lt1:KeepsLT h' h'':=fun a o items n e d=>hk'' a o (fun hm=>by
     refine cU (hfield _ h' hsti a hm) fun o' vs e' d'=>?_
     rw[e] at e';cases e';rw[d] at d';cases d') e
    refine hRR D C _ ⟨h'',tk',β1++γ,KK,ys,ds,m,rfl,keepS h'' fun b o hb e=>hk'' b o hb (hkeep b o hb e),hfresh,R'.lt' lt1,deadS2 _ deadD,deadS2 _ deadC,hDC,hD',lt1.plain hpl,rys.mono (fun _ _ e=>e) lt1.tup,Hj hdl hlen,hns.at' fun o e=>hk'' C o hCw e,?_⟩
    rw[List.drop_length] at hgo';replace hgo':Q (ds++[]) (H++KK):=hgo';rw[List.append_nil] at hgo';exact hgo'
  ·simpa using (R1.keeps k2).keeps old
  ·simp only[List.drop_zero,List.nil_append];exact hgo
 exact codeAny_compStart_list (loop _ rfl) (W.self 0 _ _ _ hst3 (loop _ rfl))
end
theorem gq{e:Expr}(h:jl e=true)(env:Env)(x:Value):foldedSetIterable e env x=pure x:=by
 cases e <;> first|rfl|cases h
section
variable {X:SX}{c:MC}
theorem nX{s:Shared}{α:List Addr}{H:Hp}{Q:V->Hp->Prop}{D C:Addr}{s':Shared}(p:uf X s α H (fun ys H5=>Q (.lst H5.length) (H5++[ys])) D C s'){h'':Heap}(hs:Heap.SameBut C s'.heap h'') :
  Post X.G (Rep X.G) s α H Q (.ref D) { s' with heap:=h'' }:=by
 obtain ⟨h',tk,β,K,ys,ds,m,rfl,k,f,R,dD,dC,hDC,hD,hpl,rys,z,hn,q⟩:=p
 have lt:KeepsLT h' h'':=KeepsLT.sameBut hs (gH hn)
 have kk:KeepsH s.heap h'':=fun b o e=>hs.extBut b o (fun q=>by rw[q,dC] at e;cases e) (k b o e)
 have R':=R.lt' lt
 refine ⟨h'',tk,β++[D],K++[ds],.lst (H++K).length,rfl,kk,?_,?_,?_,by simpa using q⟩
 ·intro b hb
  rcases Ik.mp hb with hb|hb
  ·exact f b hb
  ·simp at hb;subst hb;exact dD
 ·have:=R'.push (.refl _) hD (lt.plain hpl) (rys.mono (fun _ _ e=>e) lt.tup) z
  simpa using this
 ·refine Rep.lst ?_
  rw[<- R.len,<- Hv,HN (Ht _)];simp
theorem t9{elt iter:Expr}{x:Str}{px pos:Pos}{ifs:List Expr}{sc:Scope}{cs:List Str}{pelt:PE}{caps:List Nat}{pit:PI}{cond:PO}
  (K:CompOk c sc x cs caps) (h1:SE X ⟨c.g,sc,x::cs⟩ pelt elt) (h2:vV X ⟨c.g,sc,x::cs⟩ cond ifs) (h3:SI X c pit iter) (hns:jl iter=true) :
  SE X c (.comp pelt 1 caps pit cond) (.ListComp elt [⟨.Name x px,iter,ifs,0⟩] sc pos):=fun env s α ρ H Q E O T R F q=>by
 simp only[ij] at q
 rw[eval_ListComp]
 refine wpAny_comprehension_free (use:=none) rfl (gq hns env) (K.clos O) K.kind K.names (wpAny_mono (h3 env s α ρ H _ E O T R F q) (fun xv s1 p=>wpAny_mono p (fun it s2 p=>?_) fun _ _ e=>e) fun _ _ e=>e)
 refine mq K h1 h2 env s α ρ H _ E O T F it s2 p (fun acc C=>compPost (model X.prog X.w) X.A E none (Post X.G (Rep X.G) s α H Q) acc C) fun D C s' p=>?_
 obtain ⟨m,hm⟩:∃m,s'.heap.Ns C m:=by obtain ⟨h',tk,β,K,ys,ds,m,rfl,k,f,R,dD,dC,hDC,hD,hpl,rys,z,hn,q⟩:=p;exact ⟨m,hn⟩
 exact ⟨m,hm,fun h' hs=>nX p hs⟩
theorem CJ{a b:PE}{x i:Expr}{pos:Pos}(hs:pP i=true)(h1:SE X c a x)(h2:SE X c b i):SE X c (.idx a b) (.Subscript x i pos):=fun env s α ρ H Q E O T R F q=>by
 simp only[aV] at q
 refine Subscript_ (two h1 h2 O T R F (Q:=fun x y H2=>d8 x y H2 Q) q fun h' tk β K u v x y k f R' ru rv q'=>?_)
 refine wpAny_mono (ve (s:={ s with heap:=h',toks:=tk }) (fun o i'=>?_) R' ru rv q') (fun _ _ p=>p.trans k f) fun _ _ x=>x
 cases i <;> first|rfl|cases hs
noncomputable def SO(X:SX)(c:MC)(po:PO)(o:Option Expr):Prop:=
 match po with
 | .no=>o=none
 | .some pe=>∃e,o=some e/\SE X c pe e
theorem qk{po:PO}{o:Option Expr}(h:SO X c po o)(env:Env)(s:Shared)(α:List Addr)(ρ:Loc)(H:Hp)(Q:Option V->Hp->Prop)(E:Value->Shared->Prop)(O:bP c env)(T:GF X.G c.g X.DT s.heap)(R:HR X.G α s.heap H)
  (F:FI X.G c env α s.heap ρ) (q:wpO X.sub X.Φ po ρ H Q) :
  wpAny (model X.prog X.w) X.A (valueOrNone (evalOpt o env)) (Post X.G (fun α h v (d:Option V)=>match d with|none=>v=.none|some d=>Rep X.G α h v d) s α H Q) E s:=by
 cases po with
 |no =>
  cases h
  simp only[qO1,qO2] at q
  exact HC (Post.same' (d:=none) R rfl q)
 |some pe =>
  obtain ⟨e,rfl,h⟩:=h
  simp only[qO1,qO2] at q
  refine wpAny_mono (h env s α ρ H _ E O T R F q) (fun v s1 p=>?_) fun _ _ x=>x
  obtain ⟨h₁,tk₁,β,K,d,e,k,f,R',r,q⟩:=p
  exact ⟨h₁,tk₁,β,K,some d,e,k,f,R',r,q⟩
theorem uO{G:GV}{α:List Addr}{h:Heap}{v:Value}{o:Option V}{n d a:Nat}(r:match o with|none=>v=.none|some x=>Rep G α h v x)(e:endAt n d o=some a):∃p:Option Int,IsPart v p/\a=p.elim d (cx n):=by
 rcases endAt.get e with ⟨rfl,e1⟩ | ⟨i,rfl,e1⟩
 ·cases r;exact ⟨none,.none,e1⟩
 ·obtain ⟨t,rfl⟩:=Rep.int_inv r;exact ⟨some i,.int i t,e1⟩
theorem CF{a:PE}{lo hi:PO}{x:Expr}{l h:Option Expr}{p pos:Pos}(h1:SE X c a x)(h2:SO X c lo l)(h3:SO X c hi h):SE X c (.slc a lo hi) (.Subscript x (.Slice l h none p) pos):=fun env s α ρ H Q E O T R F q=>by
 simp only[D1] at q
 refine Subscript_ (wpAny_mono (h1 env s α ρ H _ E O T R F q) (fun u s1 p1=>?_) fun _ _ x=>x)
 refine p1.go fun h₁ tk₁ β1 K₁ d1 k1 f1 R1 r1 q1=>?_
 rw[arm_eval_Slice]
 refine Hk (wpAny_mono (qk h2 env { s with heap:=h₁,toks:=tk₁ } (α++β1) ρ (H++K₁) _ E O (T.keeps k1) R1 (F.up k1) q1) (fun lv s2 p2=>?_) fun _ _ x=>x)
 refine p2.go fun h₂ tk2 β2 K2 d2 k2 f2 R2 r2 q2=>?_
 dsimp only at k2 f2 ⊢
 refine Hk (J1 (wpAny_mono (qk h3 env { s with heap:=h₂,toks:=tk2 } (α++β1++β2) ρ (H++K₁++K2) _ E O (T.keeps (k1.trans k2)) R2 ((F.up k1).up k2) q2) (fun hv s3 p3=>?_) fun _ _ x=>x))
 refine p3.go fun h₃ tk3 β3 K3 d3 k3 f3 R3 r3 q3=>?_
 dsimp only at k3 f3 ⊢
 refine Hk (J1 (HC ?_))
 refine Kd ?_ (by show Array.size _<=_;rw[sizeLine_eq];simp)
 dsimp only
 have k4:=bc h₃ { cls:=.type "slice",data:=.fields #[lv,hv,.none] }
 have kk:KeepsH s.heap (h₃.push { cls:=.type "slice",data:=.fields #[lv,hv,.none] }):=((k1.trans k2).trans k3).trans k4
 have ff:∀b∈β1++β2++β3,s.heap.get? b=none:=fun b hb=>by
  rcases Ik.mp hb with hb|hb
  ·rcases Ik.mp hb with hb|hb
   ·exact f1 b hb
   ·cases e:s.heap.get? b with
    |none=>rfl
    |some o=>have:=k1 b o e;rw[f2 b hb] at this;cases this
  ·cases e:s.heap.get? b with
   |none=>rfl
   |some o=>have:=k2 b o (k1 b o e);rw[f3 b hb] at this;cases this
 have ru:Rep X.G (α ++ (β1 ++ β2 ++ β3)) (h₃.push { cls:=.type "slice",data:=.fields #[lv,hv,.none] }) u d1:=by
  have:=((r1.up (β:=β2) k2).up (β:=β3) k3).mono (fun _ _ e=>e) (.of k4)
  simpa using this
 have R4:HR X.G (α ++ (β1 ++ β2 ++ β3)) (h₃.push { cls:=.type "slice",data:=.fields #[lv,hv,.none] }) (H ++ (K₁ ++ K2 ++ K3)):=by
  have:=R3.keeps k4
  simpa using this
 have q4:mL d1 d2 d3 (H++(K₁++K2++K3)) Q:=by simpa using q3
 refine ac (ifLst.get q4) fun n en q5=>ac (ifSome.get q5) fun xs hx q6=>ac (ifSome.get q6) fun p hc q7=>?_
 refine ac (Jg.mp hc) fun a ea hd=>ac (Jl.mp hd) fun b eb he=>?_
 obtain ⟨lo',pl,rfl⟩:=uO r2 ea
 obtain ⟨hi',ph,rfl⟩:=uO r3 eb
 cases he
 cases en
 exact wpAny_mono (vf (s:={ s with heap:=h₃.push { cls:=.type "slice",data:=.fields #[lv,hv,.none] },toks:=tk3 }) (fun _ _=>rfl) R4 ru hx (Heap.IsSliceOf.new h₃ lv hv .none) pl ph q7) (fun _ _ p=>p.trans kk ff) fun _ _ x=>x
end
section
variable {X:SX}{c:MC}
theorem Gp{b:Bi}{ps:PEs}{es:List Expr}{p pos:Pos}(hA:AOk X.prog X.A)(hb:b.isRev=false)(hx:c.isGlob (nu b)=true)(he:(!es.isEmpty)=true)(hn:cR es=true)(h:SEs X c ps es):SE X c (.bi b ps) (.Call (.Name (nu b) p) es [] pos):=fun env s α ρ H Q E O T R F q=>by
 cases es with|nil=>exact (Hq he).elim|cons e es =>
 simp only[bV] at q
 cases b with
 |abs=>exact qC AH (Bu) hx hn h O T R F q fun h' tk β K vs ds k R' r q'=>fB (b:=.abs) (s:={ s with heap:=h',toks:=tk }) hA R' r q'
 |len=>exact qC Ba (zZ) hx hn h O T R F q fun h' tk β K vs ds k R' r q'=>fB (b:=.len) (s:={ s with heap:=h',toks:=tk }) hA R' r q'
 |int=>exact rC uL (t7) hx hn h O T R F q fun h' tk β K vs ds k R' r q'=>fB (b:=.int) (s:={ s with heap:=h',toks:=tk }) hA R' r q'
 |list=>exact rC kD (kG) hx hn h O T R F q fun h' tk β K vs ds k R' r q'=>fB (b:=.list) (s:={ s with heap:=h',toks:=tk }) hA R' r q'
 |tuple=>exact rC mD (mj) hx hn h O T R F q fun h' tk β K vs ds k R' r q'=>fB (b:=.tuple) (s:={ s with heap:=h',toks:=tk }) hA R' r q'
 |min=>exact qC zv (AZ) hx hn h O T R F q fun h' tk β K vs ds k R' r q'=>fB (b:=.min) (s:={ s with heap:=h',toks:=tk }) hA R' r q'
 |listrev=>exact (Hq hb.symm).elim
theorem r8{ps:PEs}{es:List Expr}{p p' pos pos':Pos} (hA:AOk X.prog X.A) (hx:c.isGlob "list"=true) (hx':c.isGlob "reversed"=true) (he:(!es.isEmpty)=true) (hn:cR es=true) (h:SEs X c ps es) :
  SE X c (.bi .listrev ps) (.Call (.Name "list" p) [.Call (.Name "reversed" p') es [] pos'] [] pos):=fun env s α ρ H Q E O T R F q=>by
 cases es with|nil=>exact (Hq he).elim|cons e es =>
 simp only[cR,List.all_cons,Iu] at hn
 refine Call_ (eW kD kG hx O T (callWith_type1 (args_cons (Call_ (eW uN ut hx' O T (callWith_type1 (wpAny_mono (h env s α ρ H _ E pos' O T R F q) (fun vs s1 p=>?_) fun _ _ y=>y) (aJ hn.1) (fF hn.2)))) (aJ rfl)) (aJ rfl) rfl))
 obtain ⟨h₁,tk₁,β,K,ds,rfl,k,f,R',r,q⟩:=p
 obtain ⟨r,_⟩:=r
 rcases ds with _ | ⟨d,_ | ⟨_,_⟩⟩ <;> first|exact False.elim q|skip
 refine ac (r.one_inv) fun v zq36 a=>?_;subst zq36
 obtain ⟨xs,rfl,q⟩:=q
 obtain ⟨t,vs,rfl,rs,z,z',hk⟩:=kW (s:={ s with heap:=h₁,toks:=tk₁ }) R' a (xs:=xs) rfl
 rcases hk with ⟨ht,_⟩ | ⟨_,n,hn⟩
 ·have hz:vs.toArray.size<=1000000:=by rw[HX];exact z'
  have hlt:t<h₁.objs.size:=ht.elim fun o g=>I8 g.1
  refine e6 (s:={ s with heap:=h₁,toks:=tk₁ }) ht (EL hz) fun tk=>args_nil ?_
  have kp:=bc h₁ (i6 t ((vs.toArray.size:Int)-1))
  have hI:IsRv (h₁.push (i6 t ((vs.toArray.size:Int)-1))) h₁.objs.size t ((vs.toArray.size:Int)-1):=⟨_,HJ _ rfl,rfl,rfl⟩
  refine nU (s:={ s with heap:=h₁.push (i6 t ((vs.toArray.size:Int)-1)),toks:=tk }) hA.handled hI (ht.keeps kp) hz (Jm hlt) fun h' tk' acc' c' hk hS hacc=>?_
  have k':KeepsH h₁ h':=fun b o e=>hk b o (Jm (I8 e)) (kp b o e)
  have ea:acc'=vs.reverse.toArray:=by
   apply Array.ext_getElem?
   intro i
   have e1:acc'.size=vs.length:=hacc.1.trans (HX ..)
   by_cases hi:i<vs.length
   ·have hg:acc'[i]?=some acc'[i]:=Array.getElem?_eq_getElem (by rw[e1];exact hi)
    have:=hacc.2 i _ hg
    rw[hg,<- this]
    simp only[List.getElem?_toArray,HX]
    rw[List.getElem?_reverse hi]
   ·rw[Array.getElem?_eq_none (by exact oqz [acc'.size,i,vs.length] [] [(.eq Y0 Y2),(.no (.le (Y1+1) Y2))] (.le Y0 Y1) [1011] rfl e1 hi),List.getElem?_toArray,List.getElem?_eq_none (by rw[Ih];exact oqz [vs.length,i] [] [(.no (.le (Y1+1) Y0))] (.le Y0 Y1) [11] rfl hi)]
  rw[ea] at hS
  exact (Post.newLst (s:={ s with heap:=h₁,toks:=tk₁ }) R' k' (rs.reverse.mono (fun _ _ e=>e) (.of k')) (by rw[Ih];exact z) q (gA (by show h₁.objs.size<=(h₁.push _).objs.size;simp[Heap.push])) ⟨c',hS⟩ tk').trans k f
 ·cases hn
noncomputable def Cu:Ty->String
 | .int=>"int" | .bool=>"bool" | .tuple=>"tuple" | .list=>"list" | .cls _=>""
theorem vM{prog:Program}{w:World}{A:Around}{E:Value->Shared->Prop}{s:Shared}{G:GV}{α:List Addr}{H:Hp}{Q:V->Hp->Prop}{u:Value}{x:V}{t:Ty}{b:Bool}{sub:Nat->Nat->Bool}
  (R:HR G α s.heap H) (r:Rep G α s.heap u x) (e:zy sub x t=some b) (q:Q (.bool b) H):wpAny (model prog w) A (call (.builtin "isinstance") [u,.type (Cu t)]) (Post G (Rep G) s α H Q) E s:=by
 have yes:b=true->Post G (Rep G) s α H Q (.bool true) s:=fun h=>by subst h;exact Post.same' R (.bool _) q
 have no:b=false->Post G (Rep G) s α H Q (.bool false) { s with toks:=s.toks+1 }:=fun h=>by subst h;exact Post.same R (.bool _) q _
 cases r with
 |int i tk=>cases t <;> first
  |exact IsiPair.int_int (yes (HA e).symm) |exact IsiPair.int_bool (no (HA e).symm) |exact IsiPair.int_tuple (no (HA e).symm) |exact IsiPair.int_list (no (HA e).symm) |cases e
 |bool i=>cases t <;> first
  |exact IsiPair.bool_int (yes (HA e).symm) |exact IsiPair.bool_bool (yes (HA e).symm) |exact IsiPair.bool_tuple (no (HA e).symm) |exact IsiPair.bool_list (no (HA e).symm) |cases e
 |none=>cases t <;> first
  |exact IsiPair.NoneType_int (no (HA e).symm) |exact IsiPair.NoneType_bool (no (HA e).symm) |exact IsiPair.NoneType_tuple (no (HA e).symm) |exact IsiPair.NoneType_list (no (HA e).symm) |cases e
 |str i tk=>cases t <;> first
  |exact IsiPair.str_int (no (HA e).symm) |exact IsiPair.str_bool (no (HA e).symm) |exact IsiPair.str_tuple (no (HA e).symm) |exact IsiPair.str_list (no (HA e).symm) |cases e
 |tup ht rs z=>cases t <;> first
  |exact IsiPair.isTuple_int ht (fun _ _ e=>e) (no (HA e).symm) |exact IsiPair.isTuple_bool ht (fun _ _ e=>e) (no (HA e).symm) |exact IsiPair.isTuple_tuple ht (fun _ _ e=>e) (yes (HA e).symm) |exact IsiPair.isTuple_list ht (fun _ _ e=>e) (no (HA e).symm) |cases e
 |lst ha =>
  obtain ⟨xs,hx⟩:=R.at ha
  refine ac (R.getList ha hx) fun vs hl _=>?_
  cases t <;> first
  |exact IsiPair.isList_int hl (fun _ _ e=>e) (no (HA e).symm) |exact IsiPair.isList_bool hl (fun _ _ e=>e) (no (HA e).symm) |exact IsiPair.isList_tuple hl (fun _ _ e=>e) (no (HA e).symm) |exact IsiPair.isList_list hl (fun _ _ e=>e) (yes (HA e).symm) |cases e
 |fn _=>cases t <;> cases e
theorem Eb{t:Ty}{p:Pos}(ht:t.isCls=false)(hx:c.isGlob t.nm=true)(env:Env)(s:Shared)(Z:Value->Shared->Prop)(E:Value->Shared->Prop)(O:bP c env)(T:GF X.G c.g X.DT s.heap)(hz:Z (.type (Cu t)) s) :
  wpAny (model X.prog X.w) X.A (eval (.Name t.nm p) env) Z E s:=by
 cases t with
 |int=>exact eW uL t7 hx O T hz
 |bool=>exact eW yb yd hx O T hz
 |tuple=>exact eW mD mj hx O T hz
 |list=>exact eW kD kG hx O T hz
 |cls k=>exact (Hq ht.symm).elim
theorem z8{a:PE}{t:Ty}{x:Expr}{p p' pos:Pos} (hx:c.isGlob "isinstance"=true) (ht:c.isGlob t.nm=true) (hc:t.isCls=false) (hn:cZ x=true) (h:SE X c a x):SE X c (.isi a [t]) (.Call (.Name "isinstance" p) [x,.Name t.nm p'] [] pos):=fun env s α ρ H Q E O T R F q=>by
 replace q:wpE X.sub X.Φ a ρ H fun x H1=>ifSome ([t].mapM (zy X.sub x)) fun bs=>Q (.bool (bs.any id)) H1:=q
 refine Call_ (eW z7 Br hx O T (callWith_builtin1 (args_cons (wpAny_mono (h env s α ρ H _ E O T R F q) (fun u s1 p=>?_) fun _ _ y=>y) (aJ hn)) (aJ hn) (fF rfl)))
 obtain ⟨h₁,tk₁,β,K,d,rfl,k,f',R',r,q'⟩:=p
 refine ac (ifSome.get q') fun bs e q'=>?_
 simp only[List.mapM_cons,List.mapM_nil,Option.bind_eq_bind,Jg,Option.pure_def,Option.some.injEq] at e
 refine tI (e) fun b e1 _ zq36 zq37=>?_;subst zq36;subst zq37
 refine args_cons (Eb hc ht env _ _ _ O (T.keeps k) (args_nil ?_)) (aJ rfl)
 exact wpAny_mono (vM (s:={ s with heap:=h₁,toks:=tk₁ }) R' r e1 (by simpa using q')) (fun _ _ p=>p.trans k f') fun _ _ y=>y
end
theorem mM{c:MC}{sc:Scope}{x:Str}{caps:List Nat}(h:nd c sc x (c.cap caps) caps=true):CompOk c sc x (c.cap caps) caps:=by
 unfold nd at h
 simp only[Iu,IR,Ki] at h
 obtain ⟨hk,hs,hx,hcs,hout,hcp⟩:=h
 simp only[Bool.or_eq_true,IR] at hout
 refine ⟨hk,fun p hp hl=>?_,fun p hp hl=>?_,fun p hp hl=>?_,hx,hcs,hout,fun p hp hl=>?_,fun i j e=>⟨c.nm j,by unfold MC.cap;rw[HL,e];rfl,hcp j (IG e)⟩⟩
 ·have:=hs p hp;rw[hl] at this;simp at this;exact this.1
 ·have:=hs p hp;rw[hl] at this;simpa using this
 ·have:=hs p hp;rw[hl] at this;simp at this
 ·have:=hs p hp;rw[hl] at this;simp at this;exact this.2
theorem lc{a b p}:bW (.Constant a b p):=fun _ _=>rfl
theorem nF{a p}:bW (.Name a p):=fun _ _=>rfl
theorem EV{a b d p}:bW (.BinOp a b d p):=fun _ _=>rfl
theorem DV{a p}:bW (.UnaryOp .USub a p):=fun _ _=>rfl
theorem iM{a b d p}:bW (.Call a b d p):=fun _ _=>rfl
theorem vS{a b p}:bW (.Subscript a b p):=fun _ _=>rfl
theorem DR{a b p}:bW (.Tuple a b p):=fun _ _=>rfl
theorem zX{a p}:bW (.List a p):=fun _ _=>rfl
theorem Af{a b d p}:bW (.ListComp a b d p):=fun _ _=>rfl
theorem fP{X:SX}{c:MC}{pe:PE}{e:Expr}(h:SE X c pe e)(pt:bW e):SE X c pe e/\SC X c pe e:=⟨h,yq h pt⟩
theorem bnd{a b:Bool}(h:(a && b)=true):a=true/\b=true:=HU.mp h
theorem ode{p:Prop}[Decidable p](h:decide p=true):p:=of_decide_eq_true h
theorem nte{b:Bool}(h:(!b)=true):b=false:=by cases b with|false=>rfl|true=>exact (Hq h).elim
section
variable {X:SX}{g:GC}(hA:AOk X.prog X.A)(hΦ:f4 X.prog X.w X.G g X.DT X.A X.Φ)
include hA hΦ
omit hΦ in
theorem At(b:Bi)(es:PEs)(sc:Scope)(names:List Str)(e:Expr)(ih:∀t,(gEs ⟨g,sc,names⟩ es t).2=true->SEs X ⟨g,sc,names⟩ es (gEs ⟨g,sc,names⟩ es t).1/\cR (gEs ⟨g,sc,names⟩ es t).1=true)(h:(gE ⟨g,sc,names⟩ (.bi b es) e).2=true) :
  SE X ⟨g,sc,names⟩ (.bi b es) (gE ⟨g,sc,names⟩ (.bi b es) e).1/\SC X ⟨g,sc,names⟩ (.bi b es) (gE ⟨g,sc,names⟩ (.bi b es) e).1:=by
 cases b with
 |listrev=>exact fP (r8 hA (bnd (bnd h).1).1 (bnd (bnd h).1).2 (bnd (bnd h).2).1 (ih _ (bnd (bnd h).2).2).2 (ih _ (bnd (bnd h).2).2).1) iM
 |_=>exact fP (Gp hA rfl (bnd h).1 (bnd (bnd h).2).1 (ih _ (bnd (bnd h).2).2).2 (ih _ (bnd (bnd h).2).2).1) iM
omit hA hΦ in
theorem xk{a:PE}{sc:Scope}{names:List Str}(ts:List Ty)(e:Expr)(ih:(gE ⟨g,sc,names⟩ a (kid 1 e)).2=true->SE X ⟨g,sc,names⟩ a (gE ⟨g,sc,names⟩ a (kid 1 e)).1)(h:(gE ⟨g,sc,names⟩ (.isi a ts) e).2=true) :
  SE X ⟨g,sc,names⟩ (.isi a ts) (gE ⟨g,sc,names⟩ (.isi a ts) e).1/\SC X ⟨g,sc,names⟩ (.isi a ts) (gE ⟨g,sc,names⟩ (.isi a ts) e).1:=by
 have h0:=(bnd (bnd h).1).2
 rcases ts with _ | ⟨t,_ | ⟨_,_⟩⟩
 ·exact (Hq h0).elim
 ·exact fP (z8 (bnd (bnd (bnd h).1).1).1 (bnd (bnd (bnd h).1).1).2 (nte h0) (bnd (bnd h).2).1 (ih (bnd (bnd h).2).2)) iM
 ·exact (Hq h0).elim
omit hA hΦ in
theorem FK{c:MC}{b:Bool}{pe:PE}{ps:PEs}{e:Expr}{t:List Expr}(h:SE X c pe e/\SC X c pe e)(ih:og X c b ps (gEs c ps t).1/\iL X c b ps (gEs c ps t).1):og X c b (.cons pe ps) (e::(gEs c ps t).1)/\iL X c b (.cons pe ps) (e::(gEs c ps t).1):=by
 cases ps with
 |nil=>exact ⟨vY h.1,vp h.2⟩
 |cons p2 ps=>exact ⟨vb h.1 ih.1,qY h.2 ih.2⟩
mutual
theorem bj:(pe:PE)->∀ (sc:Scope) (names:List Str) (e:Expr),(gE ⟨g,sc,names⟩ pe e).2=true->SE X ⟨g,sc,names⟩ pe (gE ⟨g,sc,names⟩ pe e).1/\SC X ⟨g,sc,names⟩ pe (gE ⟨g,sc,names⟩ pe e).1
 | .cint _,_,_,_,_=>fP Ak lc
 | .cbool _,_,_,_,_=>fP wS lc
 | .cstr _,_,_,_,_=>fP sV lc
 | .var _,_,_,_,h=>fP (DM h) nF
 | .fnv _,_,_,_,h=>fP (DZ (ode (bnd h).1) (bnd h).2) nF
 | .glob _ _ _,_,_,_,h=>fP (A7 (List.contains_iff_mem.mp (bnd h).1) (bnd h).2) nF
 | .bin op a b,sc,names,_,h=>fP (Eg (op:=op) hA (bj a sc names _ (bnd h).1).1 (bj b sc names _ (bnd h).2).1) EV
 | .neg a,sc,names,_,h=>fP (Eo (bj a sc names _ h).1) DV
 | .nt a,sc,names,_,h=>⟨F7 (bj a sc names _ h).1,Gg (bj a sc names _ h).2⟩
 | .cmp _ a b,sc,names,_,h=>⟨CG hA (nte (bnd h).1) (bj a sc names _ (bnd (bnd h).2).1).1 (bj b sc names _ (bnd (bnd h).2).2).1,CO hA (nte (bnd h).1) (bj a sc names _ (bnd (bnd h).2).1).1 (bj b sc names _ (bnd (bnd h).2).2).1⟩
 | .and es,sc,names,_,h=>⟨Ez (f9 true es sc names _ h).1,Da (f9 true es sc names _ h).2⟩
 | .or es,sc,names,_,h=>⟨F5 (f9 false es sc names _ h).1,Gf (f9 false es sc names _ h).2⟩
 | .call _ es,sc,names,_,h=>fP (Bx (c:=⟨g,sc,names⟩) hΦ (ode (bnd (bnd h).1).1) (bnd (bnd h).1).2 (bnd (bnd h).2).1 (cL es sc names _ (bnd (bnd h).2).2).2 (cL es sc names _ (bnd (bnd h).2).2).1) iM
 | .callv _ _ es,sc,names,_,h=>fP (yf (c:=⟨g,sc,names⟩) hΦ (ode (bnd (bnd h).2).1) (bnd h).1 (bnd (bnd (bnd h).2).2).1 (cL es sc names _ (bnd (bnd (bnd h).2).2).2).2 (cL es sc names _ (bnd (bnd (bnd h).2).2).2).1) iM
 | .bi b es,sc,names,e,h=>At hA b es sc names e (fun t h=>cL es sc names t h) h
 | .isi a ts,sc,names,e,h=>xk ts e (fun h=>(bj a sc names _ h).1) h
 | .idx a b,sc,names,_,h=>fP (CJ (bnd h).1 (bj a sc names _ (bnd (bnd h).2).1).1 (bj b sc names _ (bnd (bnd h).2).2).1) vS
 | .slc a lo hi,sc,names,_,h=>fP (CF (bj a sc names _ (bnd h).1).1 (yy lo sc names _ (bnd (bnd h).2).1) (yy hi sc names _ (bnd (bnd h).2).2)) vS
 | .tup es,sc,names,_,h=>fP (D9 (ode (bnd h).1) (cL es sc names _ (bnd h).2).1) DR
 | .lst es,sc,names,_,h=>fP (Do (ode (bnd h).1) (cL es sc names _ (bnd h).2).1) zX
 | .comp elt tg caps it cond,sc,names,e,h=>by
  have htg:=ode (bnd (bnd h).1).1
  subst htg
  exact fP (t9 (mM (bnd (bnd h).1).2) (bj elt _ _ _ (bnd (bnd h).2).1).1 (ov cond _ _ _ (bnd (bnd (bnd h).2).2).2) (lQ it sc names _ (bnd (bnd (bnd h).2).2).1).1 (lQ it sc names _ (bnd (bnd (bnd h).2).2).1).2) Af
theorem cL:(ps:PEs)->∀ (sc:Scope) (names:List Str) (es:List Expr),(gEs ⟨g,sc,names⟩ ps es).2=true->SEs X ⟨g,sc,names⟩ ps (gEs ⟨g,sc,names⟩ ps es).1/\cR (gEs ⟨g,sc,names⟩ ps es).1=true
 | .nil,_,_,_,_=>⟨sO,rfl⟩
 | .cons pe ps,sc,names,_,h=>⟨pO (bnd h).1 (bj pe sc names _ (bnd (bnd h).2).1).1 (cL ps sc names _ (bnd (bnd h).2).2).1,HU.mpr ⟨(bnd h).1,(cL ps sc names _ (bnd (bnd h).2).2).2⟩⟩
theorem f9:(b:Bool)->(ps:PEs)->∀ (sc:Scope) (names:List Str) (es:List Expr),(gEs ⟨g,sc,names⟩ ps es).2=true->og X ⟨g,sc,names⟩ b ps (gEs ⟨g,sc,names⟩ ps es).1/\iL X ⟨g,sc,names⟩ b ps (gEs ⟨g,sc,names⟩ ps es).1
 |_,.nil,_,_,_,_=>⟨wV,vg⟩
 |b,.cons pe ps,sc,names,es,h=>FK (bj pe sc names _ (bnd (bnd h).2).1) (f9 b ps sc names _ (bnd (bnd h).2).2)
theorem yy:(po:PO)->∀ (sc:Scope) (names:List Str) (o:Expr),(gO ⟨g,sc,names⟩ po o).2=true->SO X ⟨g,sc,names⟩ po (gO ⟨g,sc,names⟩ po o).1
 | .no,_,_,_,_=>rfl
 | .some pe,sc,names,_,h=>⟨_,rfl,(bj pe sc names _ h).1⟩
theorem ov:(po:PO)->∀ (sc:Scope) (names:List Str) (o:Expr),(zG ⟨g,sc,names⟩ po o).2=true->vV X ⟨g,sc,names⟩ po (zG ⟨g,sc,names⟩ po o).1
 | .no,_,_,_,_=>rfl
 | .some pe,sc,names,_,h=>⟨_,rfl,(bj pe sc names _ h).2⟩
theorem lQ:(pi:PI)->∀ (sc:Scope) (names:List Str) (e:Expr),(gI ⟨g,sc,names⟩ pi e).2=true->SI X ⟨g,sc,names⟩ pi (gI ⟨g,sc,names⟩ pi e).1/\jl (gI ⟨g,sc,names⟩ pi e).1=true
 | .seq pe,sc,names,_,h=>⟨Ek hA (bj pe sc names _ (bnd h).2).1,(bnd h).1⟩
 | .rev pe,sc,names,_,h=>⟨D4 hA (bnd h).1 (bnd (bnd h).2).1 (bj pe sc names _ (bnd (bnd h).2).2).1,rfl⟩
 | .rng es,sc,names,_,h=>⟨CW hA (bnd h).1 (bnd (bnd h).2).1 (cL es sc names _ (bnd (bnd h).2).2).2 (cL es sc names _ (bnd (bnd h).2).2).1,rfl⟩
end
end
structure FC where
 c:MC
 env:Env
 hb:Heap
structure dI (f:FC):Prop where
 env:bP f.c f.env
 nodup:f.c.names.Nodup
 kind:∀x,f.c.scope.names.lookup x≠some NameKind.free
 deadL:f.hb.get? f.env.locals=none
 deadC:∀n a,(n,a)∈f.env.cells->f.hb.get? a=none
 above:∀n a,(n,a)∈f.env.cells->f.env.locals<a
 apart:f.env.cells.Pairwise fun x y=>x.2≠y.2
 uniq:∀n a,(n,a)∈f.env.cells->f.env.cells.lookup n=some a
structure FrS (G:GV)(f:FC)(W:Nat->Prop)(h:Heap)(α:List Addr)(ρ:Loc):Prop where
 fr:∃m cm,h.Ns f.env.locals m/\Cl f.env.locals f.env.cells h cm/\∀ (i:Nat) (x:Str) (d:V),f.c.names[i]?=some x->ah ρ i=some d ->
  ∃v,((f.env.kindOf x=some .local/\m x=some v)\/(f.env.kindOf x=some .cell/\cm x=some v/\∃a,f.env.cells.lookup x=some a))/\Rep G α h v d
 kb:KeepsH f.hb h
 wb:∀n a,α[n]?=some a->W n->f.hb.get? a=none
theorem FrS.fi{G:GV}{f:FC}{W:Nat->Prop}{h:Heap}{α:List Addr}{ρ:Loc}(F:FrS G f W h α ρ):FI G f.c f.env α h ρ:=fun i x d e1 e2=>by
 refine ay (F.fr) fun m cm hn hc hv=>?_
 refine ac (hv i x d e1 e2) fun v hv r=>?_
 refine ⟨v,?_,r⟩
 rcases hv with ⟨k,e⟩ | ⟨k,e,a,ha⟩
 ·exact .inl ⟨k,m,hn,e⟩
 ·exact .inr ⟨.inl k,a,ha,by have:=hc.cell x a ha;rw[e] at this;exact this⟩
theorem FrS.up{G:GV}{f:FC}{W:Nat->Prop}{h h':Heap}{α β:List Addr}{ρ:Loc}(F:FrS G f W h α ρ)(k:KeepsH h h')(hf:∀b∈β,h.get? b=none):FrS G f W h' (α++β) ρ:=by
 refine ay (F.fr) fun m cm hn hc hv=>?_
 refine ⟨⟨m,cm,hn.keeps k,hc.keeps k,fun i x d e1 e2=>?_⟩,F.kb.trans k,fun n a ha hw=>?_⟩
 ·refine ac (hv i x d e1 e2) fun v hv r=>?_
  exact ⟨v,hv,r.up k⟩
 ·by_cases hl:n<α.length
  ·rw[HI hl] at ha;exact F.wb n a ha hw
  ·rw[HN (by exact oqz [α.length,n] [] [(.no (.le (Y1+1) Y0))] (.le Y0 Y1) [11] rfl hl)] at ha
   have hm:=hf a (IG ha)
   cases e:f.hb.get? a with
   |none=>rfl
   |some o=>have:=F.kb a o e;rw[hm] at this;cases this
theorem FrS.weak{G:GV}{f:FC}{W W':Nat->Prop}{h:Heap}{α:List Addr}{ρ:Loc}(F:FrS G f W h α ρ)(hw:∀n,W' n->W n):FrS G f W' h α ρ:=⟨F.fr,F.kb,fun n a e w=>F.wb n a e (hw n w)⟩
theorem mN{v:V}:∀ (ρ:Loc) (i j:Nat),ah (aE ρ i v) j=some v/\j=i\/ah (aE ρ i v) j=ah ρ j/\(j≠i\/ah ρ j=none)
 | [],i,j=>.inr ⟨rfl,.inr rfl⟩
 |x::r,0,0=>.inl ⟨rfl,rfl⟩
 |x::r,0,j+1=>.inr ⟨rfl,.inl (Kl j)⟩
 |x::r,i+1,0=>.inr ⟨rfl,.inl (Kl i).symm⟩
 |x::r,i+1,j+1=>(mN r i j).imp (fun h=>⟨h.1,congrArg Nat.succ h.2⟩) fun h=>⟨h.1,h.2.imp (fun b q=>b (IW q)) id⟩
noncomputable def Lives(h h':Heap):Prop:=∀b o,h.get? b=some o->∃o',h'.get? b=some o'
theorem Lives.of{h h':Heap}(k:KeepsH h h'):Lives h h':=fun b o e=>⟨o,k b o e⟩
theorem Lives.trans{h h' h'':Heap}(a:Lives h h')(b:Lives h' h''):Lives h h'':=fun x o e=>(a x o e).elim fun o' e'=>b x o' e'
theorem Lives.sameBut{h h':Heap}{a:Addr}(hs:Heap.SameBut a h h')(ha:∃o,h'.get? a=some o):Lives h h':=fun b o e=>by
 by_cases hb:b=a
 ·subst hb;exact ha
 ·exact ⟨o,hs.extBut b o hb e⟩
noncomputable def qG(f:FC)(h h':Heap):Prop:=∀b o,h.get? b=some o->b≠f.env.locals->(∀n,(n,b) ∉ f.env.cells)->h'.get? b=some o
theorem FrS.alive{G:GV}{f:FC}{W:Nat->Prop}{h:Heap}{α:List Addr}{ρ:Loc}(F:FrS G f W h α ρ):(∃o,h.get? f.env.locals=some o):=by
 refine cU (F.fr) fun m cm zq68 _=>?_;obtain ⟨o,es,ep,ho,_⟩:=zq68
 exact ⟨o,ho⟩
section
variable {M:Model}{A:Around}{E:Value->Shared->Prop}{s:Shared}{G:GV}{f:FC}{W:Nat->Prop}{α:List Addr}{ρ:Loc}
theorem gZ{i:Nat}{x:Str}{v:Value}{d:V}{Q:Unit->Shared->Prop}(K:dI f)(F:FrS G f W s.heap α ρ)(hx:f.c.isVar i x=true)(r:Rep G α s.heap v d)
  (h:∀h' tk,FrS G f W h' α (aE ρ i d)->qG f s.heap h'->KeepsLT s.heap h'->Lives s.heap h'->Q () { s with heap:=h',toks:=tk }):wpAny M A (storeName f.env x v) Q E s:=by
 refine ay (F.fr) fun m cm hn hc hv=>?_
 refine cv (MC.isVar_spec hx) fun hxi _ _ hk=>?_
 have other:∀j y e,f.c.names[j]?=some y->ah (aE ρ i d) j=some e->(j=i/\e=d)\/(y≠x/\ah ρ j=some e):=fun j y e hj he=>by
  rcases mN (v:=d) ρ i j with ⟨a,b⟩ | ⟨a,b⟩
  ·rw[a] at he;cases he;exact .inl ⟨b,rfl⟩
  ·rw[a] at he
   rcases b with b|b
   ·refine .inr ⟨fun q=>b ?_,he⟩
    subst q
    obtain ⟨l1,g1⟩:=Hs.mp hj
    obtain ⟨l2,g2⟩:=Hs.mp hxi
    exact (List.getElem_inj K.nodup).mp (g1.trans g2.symm)
   ·rw[b] at he;cases he
 have hkind:f.env.kindOf x=some .local\/f.env.kindOf x=some .cell:=by
  rcases hk with hk|hk|hk
  ·exact .inl (K.env.loc x hk)
  ·exact .inr (K.env.cel x hk)
  ·exact absurd hk (K.kind x)
 rcases hkind with hl|hl
 ·refine wpAny_storeName_local hl hn (fun h' hn' hs'=>?_) (by rw[K.env.kind];rfl)
  have lt:KeepsLT s.heap h':=KeepsLT.sameBut hs' (gH hn)
  refine h h' _ ⟨⟨_,cm,hn',hc.sameBut hs' (Ht _),fun j y e hj he=>?_⟩,fun b o e=>hs'.extBut b o (fun q=>by rw[q,K.deadL] at e;cases e) (F.kb b o e),F.wb⟩ (fun b o e hb _=>hs'.extBut b o hb e) lt (.sameBut hs' (hn'.elim fun o g=>g.elim fun _ g=>g.elim fun _ g=>⟨o,g.1⟩))
  rcases other j y e hj he with ⟨rfl,rfl⟩ | ⟨hy,he⟩
  ·rw[hxi] at hj;cases hj
   exact ⟨v,.inl ⟨hl,if_pos rfl⟩,r.mono (fun _ _ e=>e) lt.tup⟩
  ·refine ac (hv j y e hj he) fun u hu ru=>?_
   refine ⟨u,?_,ru.mono (fun _ _ e=>e) lt.tup⟩
   rcases hu with ⟨k,e⟩ |hu
   ·exact .inl ⟨k,by rw[if_neg hy];exact e⟩
   ·exact .inr hu
 ·obtain ⟨ca,hca⟩:=K.env.cells x (.inl hl)
  have hcell:=hc.cell x ca hca
  have hmem:=Ks hca
  refine wpAny_storeName_cell K.env.kind hl hca hcell fun h' hv' hs'=>?_
  have lt:KeepsLT s.heap h':=KeepsLT.sameBut hs' fun o ho items n d=>by
   refine ac (hcell) fun o' ho' hd'=>?_
   rw[ho] at ho';cases ho';rw[hd'] at d;cases d
  have hLc:f.env.locals<ca:=K.above x ca hmem
  refine h h' s.toks ⟨⟨m,fun y=>if y=x then some v else cm y,hn.sameBut hs' (Jm hLc),⟨fun n c' e=>?_,hc.apart,hc.above⟩,fun j y e hj he=>?_⟩,fun b o e=>hs'.extBut b o (fun q=>by rw[q,K.deadC x ca hmem] at e;cases e) (F.kb b o e),F.wb⟩ (fun b o e _ hb=>hs'.extBut b o (fun q=>hb x (q ▸ hmem)) e) lt (.sameBut hs' (hv'.elim fun o g=>⟨o,g.1⟩))
  ·by_cases hnx:n=x
   ·subst hnx;rw[hca] at e;cases e;simpa using hv'
   ·have hcc:c'≠ca:=fun q=>hnx (name_of_addr hc.apart (Ks e) (q ▸ hmem))
    simpa [hnx] using (hc.cell n c' e).sameBut hs' hcc
  ·rcases other j y e hj he with ⟨rfl,rfl⟩ | ⟨hy,he⟩
   ·rw[hxi] at hj;cases hj
    exact ⟨v,.inr ⟨hl,if_pos rfl,ca,hca⟩,r.mono (fun _ _ e=>e) lt.tup⟩
   ·refine ac (hv j y e hj he) fun u hu ru=>?_
    refine ⟨u,?_,ru.mono (fun _ _ e=>e) lt.tup⟩
    rcases hu with hu | ⟨k,e,a,ha⟩
    ·exact .inl hu
    ·exact .inr ⟨k,by show (if y=x then some v else cm y)=some u;rw[if_neg hy];exact e,a,ha⟩
end
structure StepS (f:FC)(W:Nat->Prop)(s:Shared)(α:List Addr)(H:Hp)(h':Heap)(β:List Addr)(H':Hp):Prop where
 keep:∀b o,s.heap.get? b=some o->b≠f.env.locals->(∀n,(n,b) ∉ f.env.cells)->(∀n,α[n]?=some b->¬ W n)->h'.get? b=some o
 fresh:∀b∈β,s.heap.get? b=none
 same:∀n,n<H.length->¬ W n->H'[n]?=H[n]?
 le:H.length<=H'.length
theorem StepS.refl{f:FC}{W:Nat->Prop}{s:Shared}{α:List Addr}{H:Hp}:StepS f W s α H s.heap [] H:=⟨fun _ _ e _ _ _=>e,by simp,fun _ _ _=>rfl,Ht _⟩
theorem StepS.of{f:FC}{W:Nat->Prop}{s:Shared}{α:List Addr}{H:Hp}{h':Heap}{β:List Addr}{K:Hp}(k:KeepsH s.heap h')(hf:∀b∈β,s.heap.get? b=none):StepS f W s α H h' β (H++K):=
 ⟨fun b o e _ _ _=>k b o e,hf,fun n hn _=>HI hn,by simp⟩
theorem StepS.trans{f:FC}{W:Nat->Prop}{s:Shared}{α:List Addr}{H:Hp}{h₁ h₂:Heap}{tk:Nat}{β1 β2:List Addr}{H1 H2:Hp}
  (a:StepS f W s α H h₁ β1 H1) (ak:∀b o,s.heap.get? b=some o->∃o',h₁.get? b=some o') (b:StepS f W { s with heap:=h₁,toks:=tk } (α++β1) H1 h₂ β2 H2):StepS f W s α H h₂ (β1++β2) H2:=by
 refine ⟨fun x o e h1 h2 h3=>?_,fun x hx=>?_,fun n hn hw=>?_,Hj a.le b.le⟩
 ·refine b.keep x o (a.keep x o e h1 h2 h3) h1 h2 fun n hn=>?_
  by_cases hlt:n<α.length
  ·rw[HI hlt] at hn;exact h3 n hn
  ·rw[HN (by exact oqz [α.length,n] [] [(.no (.le (Y1+1) Y0))] (.le Y0 Y1) [11] rfl hlt)] at hn
   have:=a.fresh x (IG hn)
   rw[e] at this;cases this
 ·rcases Ik.mp hx with hx|hx
  ·exact a.fresh x hx
  ·cases e:s.heap.get? x with
   |none=>rfl
   |some o =>
    obtain ⟨o',e'⟩:=ak x o e
    have:=b.fresh x hx
    rw[show ({ s with heap:=h₁,toks:=tk }:Shared).heap.get? x=some o' from e'] at this;cases this
 ·rw[b.same n (J3 hn a.le) hw];exact a.same n hn hw
inductive PostS (G:GV) (f:FC) (W:Nat->Prop) (s:Shared) (α:List Addr) (H:Hp) (N:Loc->Hp->Prop) (R:V->Hp->Prop) (fl:Flow) (s':Shared):Prop
 |mk (h':Heap) (tk:Nat) (β:List Addr) (H':Hp) (e:s'={ s with heap:=h',toks:=tk }) (st:StepS f W s α H h' β H') (lv:Lives s.heap h') (hr:HR G (α++β) h' H') (c:match fl with
  | .next=>∃ρ',FrS G f W h' (α++β) ρ'/\N ρ' H'
  | .ret v=>KeepsH f.hb h'/\∃d,Rep G (α++β) h' v d/\R d H'
  |_=>False)
noncomputable def By(c:MC)(k:Nat)(st:Stmt):Prop:=∃x np u kk pp cpos pos,st=.Raise (some (.Call (.Name x np) [.Constant (.str u) kk pp] [] cpos)) none pos/\c.g.cls[k]?=some x/\c.isGlob x=true
noncomputable def RaiseOk(X:SX)(f:FC)(W:Nat->Prop)(s:Shared)(α:List Addr)(H:Hp)(Y:Nat->Hp->Prop)(E:Value->Shared->Prop):Prop:=
 ∀ (k:Nat) (st:Stmt) (h':Heap) (tk:Nat) (β:List Addr) (H':Hp) (ρ':Loc),By f.c k st->StepS f W s α H h' β H'->Lives s.heap h'->HR X.G (α++β) h' H'->FrS X.G f W h' (α++β) ρ'->Y k H' ->
  wpAny (model X.prog X.w) X.A (exec st f.env) (fun _ _=>False) E { s with heap:=h',toks:=tk }
noncomputable def SS(X:SX)(f:FC)(ps:PS)(st:Stmt):Prop:=
 ∀ (W:Nat->Prop) (s:Shared) (α:List Addr) (ρ:Loc) (H:Hp) (N:Loc->Hp->Prop) (R:V->Hp->Prop) (Y:Nat->Hp->Prop) (E:Value->Shared->Prop),(∀n,W n->1<=n)->GF X.G f.c.g X.DT f.hb->FrS X.G f W s.heap α ρ->HR X.G α s.heap H ->
  RaiseOk X f W s α H Y E->wpS X.sub X.Φ W ps ρ H N R Y->wpAny (model X.prog X.w) X.A (exec st f.env) (PostS X.G f W s α H N R) E s
noncomputable def SB(X:SX)(f:FC)(ps:PS)(sts:List Stmt):Prop:=
 ∀ (W:Nat->Prop) (s:Shared) (α:List Addr) (ρ:Loc) (H:Hp) (N:Loc->Hp->Prop) (R:V->Hp->Prop) (Y:Nat->Hp->Prop) (E:Value->Shared->Prop),(∀n,W n->1<=n)->GF X.G f.c.g X.DT f.hb->FrS X.G f W s.heap α ρ->HR X.G α s.heap H ->
  RaiseOk X f W s α H Y E->wpS X.sub X.Φ W ps ρ H N R Y->wpAny (model X.prog X.w) X.A (execs sts f.env) (PostS X.G f W s α H N R) E s
theorem gD{h:Heap}{a:Addr}{items:Array Value}(x:h.PlainList a items)(f:Array Value->Array Value):(h.update a (Obj.mapSeq f)).PlainList a (f items):=by
 obtain ⟨n,e⟩:=x
 have:=Jr (h:=h) (a:=a) (Obj.mapSeq f) e rfl
 exact ⟨_,this⟩
section
variable {prog:Program}{w:World}{A:Around}{E:Value->Shared->Prop}{s:Shared}
theorem l5{l:Addr}{items:Array Value}{k:Int}{j:Nat}{t:Tok}{v:Value}{Q:Unit->Shared->Prop}(hl:s.heap.PlainList l items)(hp:cf items.size k=some j)(hz:items.size<=1000000)
  (hQ:Q () { s with heap:=s.heap.update l (Obj.mapSeq (·.setIfInBounds j v)) }) :
  wpAny (model prog w) A (setItem (.ref l) (.int k t) v) Q E s:=by
 obtain ⟨ne,ho⟩:=id hl
 have hty:=hl.isList.typeIs
 obtain ⟨h1,h2⟩:=im hp
 have hx':items[j]?=some items[j]:=Array.getElem?_eq_getElem h1
 unfold setItem
 try with_reducible refine J1 ?_
 first|refine Hk (HC ?_) |skip
 refine Hk (wpAny_sequenceKey hty (by decide) ?_)
 refine Hk (wpAny_callSpecial?_slot (name:=Str.ofString "__setitem__") hty slot_list_setitem
  (wpAny_call_entry slot_list_setitem hty entry_list_setitem ?_ (args_list_setitem _ _ _)))
 show wpAny _ _ (Builtin.List.listSubscript? (.int k t) >>= _) _ _ s
 rcases h2 with ⟨h0,h2⟩ | ⟨h0,h2⟩
 ·refine Hk (wpAny_listSubscript_int (fitsIndex_of h0 (uw hz h1 (.inl ⟨h0,h2⟩)).2) ?_)
  subst h2
  show wpAny _ _ ((seqItemAt l j >>= fun r=>pure (r.map (j,·))) >>= _) _ _ s
  refine Hk (Hk (wpAny_seqItemAt ho rfl (HC ?_)))
  rw[hx']
  show wpAny _ _ (setSeqItemAt l j v >>= _) _ _ s
  refine Hk (wpAny_setSeqItemAt ho rfl ?_)
  first
   |exact Hk (HC (HC ⟨.none,rfl,HC hQ⟩))
   |exact HC ⟨.none,rfl,HC hQ⟩
 ·refine Hk (wpAny_listSubscript_int (fitsIndex_neg h0 (uw hz h1 (.inr ⟨h0,h2⟩)).1) ?_)
  have hidx:seqIndex? k items.size=some j:=mR hp
  obtain ⟨i,rfl⟩:∃i:Nat,k=Int.negSucc i:=by
   cases k with
   |ofNat n=>exact absurd h0 (JG.mpr (Int.ofNat_nonneg n))
   |negSucc n=>exact ⟨n,rfl⟩
  show wpAny _ _ ((Builtin.List.listItems (.ref l) >>= fun xs=>pure ((seqIndex? (Int.negSucc i) xs.size).bind fun i=>xs[i]?.map (i,·))) >>= _) _ _ s
  refine Hk (Hk ?_)
  show wpAny _ _ (seqItems? (.ref l) >>= _) _ _ s
  refine Hk (wpAny_seqItems ho rfl (HC (HC ?_)))
  rw[hidx]
  simp only[Option.bind_some,hx',Option.map_some]
  show wpAny _ _ (setSeqItemAt l j v >>= _) _ _ s
  refine Hk (wpAny_setSeqItemAt ho rfl ?_)
  first
   |exact Hk (HC (HC ⟨.none,rfl,HC hQ⟩))
   |exact HC ⟨.none,rfl,HC hQ⟩
end
section
variable {G:GV}{f:FC}{W:Nat->Prop}{s:Shared}{α:List Addr}{ρ:Loc}{H:Hp}
theorem fV(K:dI f)(F:FrS G f W s.heap α ρ)(R:HR G α s.heap H){n:Nat}{a:Addr}{xs xs':List V}{vs':List Value}(hw:W n)(ha:α[n]?=some a)(hx:H[n]?=some xs){h':Heap}(hs:Heap.SameBut a s.heap h')
  (hl:h'.PlainList a vs'.toArray) (q:Reps G α s.heap vs' xs') (z:xs'.length<=lim) :
  FrS G f W h' α ρ/\HR G α h' (H.set n xs')/\StepS f W s α H h' [] (H.set n xs')/\Lives s.heap h':=by
 obtain ⟨kt,R'⟩:=R.set ha hx hs hl q z
 refine ay (F.fr) fun m cm hn hc hv=>?_
 refine ac (R.lst n a xs ha hx) fun us zq69 _=>?_;obtain ⟨o,ho,hcl,no,hd⟩:=zq69
 have hL:a≠f.env.locals:=fun q=>by
  refine cV (hn) fun o' es ep ho' hd' _=>?_
  rw[<- q,ho] at ho';cases ho';rw[hd] at hd';cases hd'
 refine ⟨⟨⟨m,cm,hn.sameBut hs (Ne.symm hL),⟨fun x c e=>?_,hc.apart,hc.above⟩,fun i x d e1 e2=>?_⟩,fun b ob e=>hs.extBut b ob (fun q=>?_) (F.kb b ob e),F.wb⟩,R',⟨fun b ob e _ _ h3=>hs.extBut b ob (fun q=>h3 n (q ▸ ha) hw) e,by simp,fun k hk hnw=>?_,by simp⟩,.sameBut hs (hl.elim fun k e=>⟨_,e⟩)⟩
 ·refine (hc.cell x c e).sameBut hs fun q=>?_
  refine ac (hc.cell x c e) fun o' ho' hd'=>?_
  rw[q,ho] at ho';cases ho';rw[hd] at hd';cases hd'
 ·refine ac (hv i x d e1 e2) fun v hv r=>?_
  exact ⟨v,hv,r.mono (fun _ _ e=>e) kt⟩
 ·rw[q,F.wb n a ha hw] at e;cases e
 ·rw[JS (fun (q:n=k)=>hnw (q ▸ hw))]
end
section
variable {X:SX}{f:FC}
theorem GF.at{G:GV}{gc:GC}{DT:List cW}{W:Nat->Prop}{h:Heap}{α:List Addr}{ρ:Loc}(T:GF G gc DT f.hb)(F:FrS G f W h α ρ):GF G gc DT h:=T.keeps F.kb
theorem kI(K:dI f){W:Nat->Prop}{s:Shared}{α:List Addr}{ρ:Loc}{H:Hp}{N:Loc->Hp->Prop}{R:V->Hp->Prop}{E:Value->Shared->Prop}{i:Nat}{x:Str}(F:FrS X.G f W s.heap α ρ)(hx:f.c.isVar i x=true)
  {v:Value}{s1:Shared} (p:Post X.G (Rep X.G) s α H (fun v H1=>N (aE ρ i v) H1) v s1) :
  wpAny (model X.prog X.w) X.A (storeName f.env x v) (fun _=>PostS X.G f W s α H N R .next) E s1:=by
 obtain ⟨h₁,tk₁,β,K₁,d,rfl,k,fr,R',r,q⟩:=p
 refine gZ (s:={ s with heap:=h₁,toks:=tk₁ }) K (F.up k fr) hx r fun h' tk F' kf lt lv=>?_
 refine ⟨h',tk,β,H++K₁,rfl,⟨fun b o e h1 h2 _=>kf b o (k b o e) h1 h2,fr,fun n hn _=>HI hn,by simp⟩,(Lives.of k).trans lv,R'.lt' lt,_,F',q⟩
theorem dF{e:Expr}(h:fU e=true)(t:Option Expr)(l:Nat)(env:Env):swapsWith e t l env=pure false:=by
 cases e <;> first|rfl|cases h
theorem u4{i:Nat}{x:Str}{pe:PE}{v:Expr}{px pos:Pos}(K:dI f)(hx:f.c.isVar i x=true)(h:SE X f.c pe v)(hc:fU v=true):SS X f (.assign i pe) (.Assign [.Name x px] v pos):=fun W s α ρ H N R Y E hW T F HR' hY q=>by
 simp only[qS3] at q
 refine wpAny_Assign_Name (wpAny_mono (h f.env s α ρ H _ E K.env (T.at F) HR' F.fi q) (fun v s1 p=>?_) fun _ _ x=>x) (dF hc _ _ _)
 exact kI K F hx p
theorem Fa{pe:PE}{v:Expr}{pos:Pos}(K:dI f)(h:SE X f.c pe v):SS X f (.ret pe) (.Return (some v) pos):=fun W s α ρ H N R Y E hW T F HR' hY q=>by
 simp only[qS9] at q
 refine wpAny_Return_some (wpAny_mono (h f.env s α ρ H _ E K.env (T.at F) HR' F.fi q) (fun v s1 p=>?_) fun _ _ x=>x)
 obtain ⟨h₁,tk₁,β,K₁,d,rfl,k,fr,R',r,q⟩:=p
 exact ⟨h₁,tk₁,β,H++K₁,rfl,.of k fr,.of k,R',F.kb.trans k,d,r,q⟩
theorem PostS.trans{G:GV}{W:Nat->Prop}{s:Shared}{α:List Addr}{H:Hp}{N:Loc->Hp->Prop}{R:V->Hp->Prop}{h₁:Heap}{tk₁:Nat}{β:List Addr}{H1:Hp}{fl:Flow}{s':Shared}(st:StepS f W s α H h₁ β H1)(lv:Lives s.heap h₁)
  (p:PostS G f W { s with heap:=h₁,toks:=tk₁ } (α++β) H1 N R fl s'):PostS G f W s α H N R fl s':=by
 obtain ⟨h',tk,β',H',rfl,st',lv',R',q⟩:=p
 refine ⟨h',tk,β++β',H',rfl,st.trans lv st',lv.trans lv',by simpa using R',?_⟩
 cases fl with
 |next=>refine ac (q) fun ρ' F' q=>?_;exact ⟨ρ',by simpa using F',q⟩
 |ret v=>refine rk (q) fun k d r q=>?_;exact ⟨k,d,by simpa using r,q⟩
 |brk=>exact q
 |cont=>exact q
theorem RaiseOk.later{W:Nat->Prop}{s:Shared}{α:List Addr}{H:Hp}{Y:Nat->Hp->Prop}{E:Value->Shared->Prop}{h₁:Heap}{tk₁:Nat}{β:List Addr}{H1:Hp}(hY:RaiseOk X f W s α H Y E)(st:StepS f W s α H h₁ β H1)(lv:Lives s.heap h₁) :
  RaiseOk X f W { s with heap:=h₁,toks:=tk₁ } (α++β) H1 Y E:=fun k stm h' tk β' H' ρ' hm st' lv' R' F' y=>by
 exact hY k stm h' tk (β++β') H' ρ' hm (st.trans lv st') (lv.trans lv') (by simpa using R') (by simpa using F') y
theorem wx(K:dI f):SB X f .skip []:=fun W s α ρ H N R Y E hW T F HR' hY q=>by
 simp only[qS1] at q
 exact wpAny_execs_nil ⟨s.heap,s.toks,[],H,rfl,.refl,fun b o e=>⟨o,e⟩,by simpa using HR',ρ,by simpa using F,q⟩
theorem AT{a b:PS}{st:Stmt}{sts:List Stmt}(K:dI f)(h1:SS X f a st)(h2:SB X f b sts):SB X f (.seq a b) (st::sts):=fun W s α ρ H N R Y E hW T F HR' hY q=>by
 simp only[qS2] at q
 refine wpAny_execs_cons (wpAny_mono (h1 W s α ρ H _ R Y E hW T F HR' hY q) (fun fl s1 p=>?_) fun _ _ x=>x)
 cases fl with
 |next =>
  obtain ⟨h₁,tk₁,β,H1,rfl,st,lv,R1,ρ',F',q'⟩:=p
  exact wpAny_mono (h2 W { s with heap:=h₁,toks:=tk₁ } (α++β) ρ' H1 N R Y E hW T F' R1 (hY.later st lv) q') (fun _ _ p=>p.trans st lv) fun _ _ x=>x
 |ret v =>
  obtain ⟨h₁,tk₁,β,H1,rfl,st,lv,R1,k,d,r,q'⟩:=p
  exact ⟨h₁,tk₁,β,H1,rfl,st,lv,R1,k,d,r,q'⟩
 |brk=>obtain ⟨_,_,_,_,_,_,_,_,q⟩:=p;exact q.elim
 |cont=>obtain ⟨_,_,_,_,_,_,_,_,q⟩:=p;exact q.elim
theorem EF{c:PE}{a b:PS}{v:Expr}{x y:List Stmt}{pos:Pos}(K:dI f)(h:SC X f.c c v)(h1:SB X f a x)(h2:SB X f b y):SS X f (.ite c a b) (.If v x y pos):=fun W s α ρ H N R Y E hW T F HR' hY q=>by
 simp only[bC] at q
 refine wpAny_If (wpAny_mono (h f.env s α ρ H (fun t H1=>if t then wpS X.sub X.Φ W a ρ H1 N R Y else wpS X.sub X.Φ W b ρ H1 N R Y) E K.env (T.at F) HR' F.fi q) (fun t s1 p=>?_) fun _ _ x=>x)
 obtain ⟨h₁,tk₁,β,K₁,t',rfl,k,fr,R',rfl,q'⟩:=p
 have st:StepS f W s α H h₁ β (H++K₁):=.of k fr
 cases t with
 |true =>
  simp only[if_true] at q' ⊢
  exact wpAny_mono (h1 W { s with heap:=h₁,toks:=tk₁ } (α++β) ρ (H++K₁) N R Y E hW T (F.up k fr) R' (hY.later st (.of k)) q') (fun _ _ p=>p.trans st (.of k)) fun _ _ x=>x
 |false =>
  simp only[I9,if_false] at q' ⊢
  exact wpAny_mono (h2 W { s with heap:=h₁,toks:=tk₁ } (α++β) ρ (H++K₁) N R Y E hW T (F.up k fr) R' (hY.later st (.of k)) q') (fun _ _ p=>p.trans st (.of k)) fun _ _ x=>x
theorem kx{W:Nat->Prop}{s:Shared}{α:List Addr}{H:Hp}{E:Value->Shared->Prop}:RaiseOk X f W s α H (fun _ _=>False) E:=fun _ _ _ _ _ _ _ _ _ _ _ _ y=>y.elim
inductive G7 (X:SX) (f:FC) (s:Shared) (α:List Addr) (H:Hp) (W:Nat->Prop) (I:Loc->Hp->Prop) (μ:Loc->Hp->Nat) (n:Nat) (s':Shared):Prop
 |mk (h':Heap) (tk:Nat) (β:List Addr) (H':Hp) (ρ':Loc) (e:s'={ s with heap:=h',toks:=tk }) (st:StepS f W s α H h' β H') (lv:Lives s.heap h') (R:HR X.G (α++β) h' H') (F:FrS X.G f W h' (α++β) ρ') (hI:I ρ' H') (hn:n=μ ρ' H')
theorem DQ{c:PE}{b:PS}{v:Expr}{x:List Stmt}{pos:Pos}(K:dI f)(h:SC X f.c c v)(h1:SB X f b x):SS X f (.whl c b) (.While v x [] pos):=fun W s α ρ H N R Y E hW T F HR' hY q=>by
 simp only[lr] at q
 refine cU (q) fun I μ hI turn=>?_
 refine wpAny_While (codeAny_whileLoop
  (G7 X f s α H W I μ) ?_ (μ ρ H)
  ⟨s.heap,s.toks,[],H,ρ,rfl,.refl,fun b o e=>⟨o,e⟩,by simpa using HR',by simpa using F,hI,rfl⟩)
 rintro n s' ⟨h',tk,β,H',ρ',rfl,st,lv,R',F',hI',rfl⟩
 have q:=turn ρ' H' hI'
 refine wpAny_mono (h f.env { s with heap:=h',toks:=tk } (α++β) ρ' H' (fun t H2=>if t then wpS X.sub X.Φ W b ρ' H2 (fun ρ3 H3=>I ρ3 H3/\μ ρ3 H3<μ ρ' H') R (fun _ _=>False) else N ρ' H2) _ K.env (T.at F') R' F'.fi q) (fun t s1 p=>?_) fun _ _ x=>x
 obtain ⟨h₁,tk₁,γ,K₁,t',rfl,k,fr,R1,rfl,q'⟩:=p
 dsimp only at k fr
 have st1:StepS f W { s with heap:=h',toks:=tk } (α++β) H' h₁ γ (H'++K₁):=.of k fr
 have st2:=st.trans lv st1
 have lv2:=lv.trans (.of k)
 have F1:=F'.up k fr
 cases t with
 |true =>
  simp only[if_true] at q' ⊢
  refine wpAny_mono (h1 W { s with heap:=h₁,toks:=tk₁ } ((α++β)++γ) ρ' (H'++K₁) _ R _ _ hW T F1 R1 kx q') (fun fl s2 p=>?_) fun _ _ x=>x
  cases fl with
  |next =>
   obtain ⟨h2,tk2,δ,H₂,rfl,st3,lv3,R2,ρ2,F2,hI2,hμ⟩:=p
   refine ⟨_,hμ,h2,tk2,(β++γ)++δ,H₂,ρ2,rfl,st2.trans (tk:=tk₁) lv2 (by simpa using st3),lv2.trans lv3,by simpa using R2,by simpa using F2,hI2,rfl⟩
  |ret v =>
   obtain ⟨h2,tk2,δ,H₂,rfl,st3,lv3,R2,kk,d,r,q2⟩:=p
   exact ⟨h2,tk2,(β++γ)++δ,H₂,rfl,st2.trans (tk:=tk₁) lv2 (by simpa using st3),lv2.trans lv3,by simpa using R2,kk,d,by simpa using r,q2⟩
  |brk=>obtain ⟨_,_,_,_,_,_,_,_,q⟩:=p;exact q.elim
  |cont=>obtain ⟨_,_,_,_,_,_,_,_,q⟩:=p;exact q.elim
 |false =>
  simp only[I9,if_false] at q' ⊢
  refine wpAny_execs_nil ?_
  exact ⟨h₁,tk₁,β++γ,H'++K₁,rfl,st2,lv2,by simpa using R1,ρ',by simpa using F1,q'⟩
end
section
variable {X:SX}{f:FC}
theorem vr{G:GV}{W:Nat->Prop}{h:Heap}{α:List Addr}{ρ:Loc}(F:FrS G f W h α ρ){b:Addr}{o:Obj}(e:h.get? b=some o)(hd:∀es n,o.data≠.dict es n):b≠f.env.locals:=fun q=>by
 refine cU (F.fr) fun m cm zq73 _=>?_;refine cV (zq73) fun o' es ep ho' hd' _=>?_
 rw[<- q,e] at ho';cases ho';exact hd _ _ hd'
theorem iV{G:GV}{W:Nat->Prop}{h:Heap}{α:List Addr}{ρ:Loc}(K:dI f)(F:FrS G f W h α ρ){b:Addr}{o:Obj}(e:h.get? b=some o)(hd:∀v,o.data≠.cell v):∀n,(n,b) ∉ f.env.cells:=fun n hm=>by
 refine ay (F.fr) fun m cm _ hc _=>?_
 refine ac (hc.cell n b (K.uniq n b hm)) fun o' ho' hd'=>?_
 rw[e] at ho';cases ho';exact hd _ hd'
theorem nY{G:GV}{h:Heap}{α:List Addr}{H:Hp} (R:HR G α h H) {b:Addr}{o:Obj} (e:h.get? b=some o) (hd:o.cls ≠ .type "list"\/∀xs n,o.data ≠ .seq xs n) (n:Nat):α[n]? ≠ some b:=fun ha=>by
 obtain ⟨xs,hx⟩:=R.at ha
 refine ac (R.lst n b xs ha hx) fun vs zq72 _=>?_;refine bS (zq72) fun o' ho' hc' k hd'=>?_
 rw[e] at ho';cases ho'
 rcases hd with hd|hd
 ·exact hd hc'
 ·exact hd _ _ hd'
theorem StepS.tup{G:GV}{W:Nat->Prop}{s:Shared}{α:List Addr}{H:Hp}{ρ:Loc}{h':Heap}{β:List Addr}{H':Hp}(K:dI f)(F:FrS G f W s.heap α ρ)(R:HR G α s.heap H)(st:StepS f W s α H h' β H'):KeepsT s.heap h':=fun a items x=>by
 refine bS (x) fun o ho hc n hd=>?_
 refine ⟨o,st.keep a o ho (vr F ho (by simp[hd])) (iV K F ho (by simp[hd])) fun k hk=>?_,hc,n,hd⟩
 exact absurd hk (nY R ho (.inl (by rw[hc];decide)) k)
theorem StepS.weak{W W':Nat->Prop}{s:Shared}{α:List Addr}{H:Hp}{h':Heap}{β:List Addr}{H':Hp}(hw:∀n,W' n->W n)(st:StepS f W' s α H h' β H'):StepS f W s α H h' β H':=
 ⟨fun b o e h1 h2 h3=>st.keep b o e h1 h2 fun n hn w=>h3 n hn (hw n w),st.fresh,fun n hn w=>st.same n hn fun x=>w (hw n x),st.le⟩
theorem FrS.off{G:GV}{W:Nat->Prop}{h h':Heap}{α:List Addr}{ρ:Loc}{wr:List Addr}(K:dI f)(F:FrS G f W h α ρ)(hwr:∀b∈wr,∃o vs,h.get? b=some o/\o.data=.fields vs)(hdead:∀b∈wr,f.hb.get? b=none)
  (hk:∀b o,b ∉ wr->h.get? b=some o->h'.get? b=some o) (lt:KeepsLT h h'):FrS G f W h' α ρ:=by
 refine ay (F.fr) fun m cm hn hc hv=>?_
 refine ⟨⟨m,cm,hn.at' fun o e=>hk _ o (fun hm=>?_) e,⟨fun x a e=>?_,hc.apart,hc.above⟩,fun i x d e1 e2=>?_⟩,fun b o e=>hk b o (fun hm=>?_) (F.kb b o e),F.wb⟩
 ·refine cU (hwr _ hm) fun o' vs e' d'=>?_
  exact vr F e' (by simp[d']) rfl
 ·refine ac (hc.cell x a e) fun o ho hd=>?_
  refine ⟨o,hk a o (fun hm=>?_) ho,hd⟩
  refine cU (hwr _ hm) fun o' vs e' d'=>?_
  rw[ho] at e';cases e';rw[hd] at d';cases d'
 ·refine ac (hv i x d e1 e2) fun v hv r=>?_
  exact ⟨v,hv,r.mono (fun _ _ e=>e) lt.tup⟩
 ·rw[hdead b hm] at e;cases e
inductive GH (X:SX) (f:FC) (s:Shared) (α β1:List Addr) (H:Hp) (xs:List V) (St:Nat->Heap->Prop) (wr fp:List Addr) (h2:Heap) (src:Option Nat) (W:Nat->Prop) (body:Loc->Hp->(Loc->Hp->Prop)->Prop) (i:Nat) (N:Loc->Hp->Prop) (n:Nat) (s':Shared):Prop
 |mk (j:Nat) (h':Heap) (tk:Nat) (γ:List Addr) (H':Hp) (ρ':Loc) (e:s'={ s with heap:=h',toks:=tk }) (hj:j<=xs.length) (hn:n=xs.length+1-j) (hs:St j h') (st:StepS f W s α H h' (β1++γ) H') (lv:Lives s.heap h') (R:HR X.G (α++(β1++γ)) h' H') (F:FrS X.G f W h' (α++(β1++γ)) ρ') (kt:KeepsT h2 h')
  (hsrc:∀b∈fp,b ∉ wr->(∃n,src=some n/\(α++(β1++γ))[n]?=some b)\/∃items,IsTup h' b items) (q:cY body i (xs.drop j) ρ' H' N)
theorem zJ{i:Nat}{x:Str}{pit:PI}{b:PS}{iter:Expr}{body:List Stmt}{px pos:Pos}(K:dI f)(hx:f.c.isVar i x=true)(h:SI X f.c pit iter)(hns:jl iter=true)(h1:SB X f b body) :
  SS X f (.forr i pit b) (.For (.Name x px) iter body [] pos):=fun W s α ρ H N R Y E hW T F HR' hY q=>by
 simp only[dZ] at q
 refine wpAny_For (wpAny_mono (h f.env s α ρ H _ E K.env (T.at F) HR' F.fi q) (fun xv s1 p=>wpAny_mono p (fun it s2 p=>?_) fun _ _ e=>e) fun _ _ e=>e) (gq hns f.env)
 obtain ⟨h₁,tk₁,β1,K₁,xs,src,k1,f1,R₁,⟨I,fp,wr,P,St,h2,tk2,rfl,rfl,k2,Wk,hst,hwr,hfield,hfp,hsrc,hP⟩,hgo⟩:=p
 dsimp only at k2 hwr
 have k12:KeepsH s.heap h2:=k1.trans k2
 have deadS:∀b∈wr,s.heap.get? b=none:=fun b hb=>by
  cases e:s.heap.get? b with
  |none=>rfl
  |some o=>have:=hwr b hb;rw[k1 b o e] at this;cases this
 have deadB:∀b∈wr,f.hb.get? b=none:=fun b hb=>by
  cases e:f.hb.get? b with
  |none=>rfl
  |some o=>have:=deadS b hb;rw[F.kb b o e] at this;cases this
 have hWW:∀m,(W m/\some m≠src)->W m:=fun m h=>h.1
 refine codeAny_forLoop (GH X f s α β1 H xs St wr fp h2 src W (fun ρ2 H2 k=>wpS X.sub X.Φ (fun m=>W m/\some m≠src) b ρ2 H2 k R fun _ _=>False) i N) ?_ (xs.length+1)
  ⟨0,h2,tk2,[],H++K₁,ρ,rfl,HQ _,rfl,hst,by simpa using (StepS.of (f:=f) (W:=W) (α:=α) (H:=H) (K:=K₁) k12 f1),.of k12,by simpa using R₁.keeps k2,by simpa using F.up k12 f1,fun _ _ x=>x,by simpa using hsrc,by simpa using hgo⟩
 rintro n s' ⟨j,h',tk,γ,H',ρ',rfl,hj,rfl,hstj,st,lv,R',F',kt,hsrc',hgo'⟩
 have off:∀h'':Heap,(∀b o,b ∉ wr->h'.get? b=some o->h''.get? b=some o)->KeepsLT h' h'':=fun h'' hk a o items n e d=>hk a o (fun hm=>by
  refine cU (hfield j h' hstj a hm) fun o' vs e' d'=>?_
  rw[e] at e';cases e';rw[d] at d';cases d') e
 have stOff:∀h'':Heap,(∀b o,b ∉ wr->h'.get? b=some o->h''.get? b=some o)->StepS f W s α H h'' (β1++γ) H'/\Lives s.heap h'':=fun h'' hk =>
  ⟨⟨fun b o e a1 a2 a3=>hk b o (fun hm=>by rw[deadS b hm] at e;cases e) (st.keep b o e a1 a2 a3),st.fresh,st.same,st.le⟩,
   fun b o e=>by obtain ⟨o',e'⟩:=lv b o e;exact ⟨o',hk b o' (fun hm=>by rw[deadS b hm] at e;cases e) e'⟩⟩
 by_cases hlt:j<xs.length
 ·refine Wk.item j _ _ _ hlt hstj fun v h'' tk' hPv hst'' hk''=>?_
  have lt1:=off h'' hk''
  obtain ⟨st1,lv1⟩:=stOff h'' hk''
  have F1:=F'.off K (hfield j h' hstj) deadB hk'' lt1
  have R1:=R'.lt' lt1
  have kt1:KeepsT h2 h'':=fun a items x=>lt1.tup a items (kt a items x)
  refine ac (hP j v hlt hPv) fun d hd rd=>?_
  have rd1:Rep X.G (α++(β1++γ)) h'' v d:=by
   have:=rd.mono (α':=(α++β1)++γ) eC kt1
   rwa [Hv] at this
  refine wpAny_assign_Name (gZ (s:={ s with heap:=h'',toks:=tk' }) K F1 hx rd1 fun h3 tk3 F3 kf3 lt3 lv3=>?_)
  dsimp only at kf3 lt3 lv3
  have R3:=R1.lt' lt3
  have kt3:KeepsT h2 h3:=fun a items x=>lt3.tup a items (kt1 a items x)
  have st3:StepS f W s α H h3 (β1++γ) H':=⟨fun b o e a1 a2 a3=>kf3 b o (st1.keep b o e a1 a2 a3) a1 a2,st1.fresh,st1.same,st1.le⟩
  have lv13:=lv1.trans lv3
  -- what the iterator reads is kept by the store
  have st3':St (j+1) h3:=Wk.frame _ _ _ hst'' fun b hb o e=>by
   by_cases hbw:b∈wr
   ·refine cU (hfield (j+1) h'' hst'' b hbw) fun o' vs e' d'=>?_
    rw[e] at e';cases e'
    exact kf3 b o e (vr F1 e (by simp[d'])) (iV K F1 e (by simp[d']))
   ·rcases hsrc' b hb hbw with ⟨n,hn,ha⟩ | ⟨items,hi⟩
    ·obtain ⟨ys,hy⟩:=R1.at ha
     refine ac (R1.lst n b ys ha hy) fun vs zq71 _=>?_;refine bS (zq71) fun o' ho' hc' kk hd'=>?_
     rw[e] at ho';cases ho'
     exact lt3 b o _ _ e hd'
    ·refine bS (lt1.tup b items hi) fun o' ho' hc' kk hd'=>?_
     rw[e] at ho';cases ho'
     exact lt3 b o _ _ e hd'
  have hdrop:xs.drop j=d::xs.drop (j+1):=by
   obtain ⟨hl,he⟩:=Hs.mp hd
   rw[List.drop_eq_getElem_cons hl,he]
  rw[hdrop] at hgo'
  replace hgo':wpS X.sub X.Φ (fun m=>W m/\some m≠src) b (aE ρ' i d) H' (fun ρ'' H''=>cY (fun ρ2 H2 k=>wpS X.sub X.Φ (fun m=>W m/\some m≠src) b ρ2 H2 k R fun _ _=>False) i (xs.drop (j+1)) ρ'' H'' N) R (fun _ _=>False):=hgo'
  refine wpAny_mono (h1 (fun m=>W m/\some m≠src) { s with heap:=h3,toks:=tk3 } (α++(β1++γ)) (aE ρ' i d) H' _ R _ _ (fun n hn=>hW n hn.1) T (F3.weak hWW) R3 kx hgo') (fun fl s4 p=>?_) fun _ _ e=>e
  obtain ⟨h4,tk4,δ,H4,rfl,st4,lv4,R4,q4⟩:=p
  have stAll:StepS f W s α H h4 ((β1++γ)++δ) H4:=st3.trans (tk:=tk3) lv13 (st4.weak hWW)
  have lvAll:=lv13.trans lv4
  cases fl with
  |next =>
   refine ac (q4) fun ρ4 F4 q4=>?_
   have kt4:KeepsT h3 h4:=st4.tup K (F3.weak hWW) R3
   refine ⟨xs.length+1-(j+1),by exact oqz [xs.length+1-(j+1),xs.length,j,xs.length+1-j] [] [(.le (Y2+1) Y1),(.an (.le (Y1+1) (Y3+Y2)) (.le Y3 (Y1+1))),(osb (Y1+1) (Y2+1) Y0)] (.le (Y0+1) Y3) [1000101,100111] rfl hlt (aX (xs.length+1) (j)) (am (xs.length+1) (j+1)),j+1,h4,tk4,γ++δ,H4,ρ4,rfl,hlt,rfl,?_,by simpa using stAll,lvAll,by simpa using R4,?_,fun a items x=>kt4 a items (kt3 a items x),fun b hb hbw=>?_,q4⟩
   ·refine Wk.frame _ _ _ st3' fun b hb o e=>?_
    by_cases hbw:b∈wr
    ·refine cU (hfield (j+1) h3 st3' b hbw) fun o' vs e' d'=>?_
     rw[e] at e';cases e'
     exact st4.keep b o e (vr F3 e (by simp[d'])) (iV K F3 e (by simp[d'])) fun n hn=>absurd hn (nY R3 e (.inr (by simp[d'])) n)
    ·rcases hsrc' b hb hbw with ⟨n,hn,ha⟩ | ⟨items,hi⟩
     ·obtain ⟨ys,hy⟩:=R3.at ha
      refine ac (R3.lst n b ys ha hy) fun vs zq70 _=>?_;refine bS (zq70) fun o' ho' hc' kk hd'=>?_
      rw[e] at ho';cases ho'
      refine st4.keep b o e (vr F3 e (by simp[hd'])) (iV K F3 e (by simp[hd'])) fun m hm hw=>?_
      obtain ⟨l1,g1⟩:=Hs.mp ha
      obtain ⟨l2,g2⟩:=Hs.mp hm
      have:m=n:=(List.getElem_inj R3.nodup).mp (g2.trans g1.symm)
      exact hw.2 (by rw[this,hn])
     ·refine bS (lt3.tup b items (lt1.tup b items hi)) fun o' ho' hc' kk hd'=>?_
      rw[e] at ho';cases ho'
      exact st4.keep b o e (vr F3 e (by simp[hd'])) (iV K F3 e (by simp[hd'])) fun n hn=>absurd hn (nY R3 e (.inl (by rw[hc'];decide)) n)
   ·-- the frame,with the lists of the loop's outside
    obtain ⟨fr4,kb4,wb4⟩:=F4
    refine ⟨by simpa using fr4,kb4,fun n a ha hw=>?_⟩
    rw[<- Hv,<- Hv] at ha
    by_cases hl:n<(α++β1++γ).length
    ·rw[HI hl] at ha
     exact F3.wb n a (by simpa using ha) hw
    ·rw[HN (by exact oqz [(α++β1++γ).length,n] [] [(.no (.le (Y1+1) Y0))] (.le Y0 Y1) [11] rfl hl)] at ha
     have hm:=st4.fresh a (IG ha)
     cases e:f.hb.get? a with
     |none=>rfl
     |some o=>have:=F3.kb a o e;rw[show ({ s with heap:=h3,toks:=tk3 }:Shared).heap.get? a=none from hm] at this;cases this
   ·rcases hsrc' b hb hbw with ⟨n,hn,ha⟩ | ⟨items,hi⟩
    ·refine .inl ⟨n,hn,?_⟩
     have:=eC (β:=δ) n b ha
     simpa using this
    ·exact .inr ⟨items,kt4 b items (lt3.tup b items (lt1.tup b items hi))⟩
  |ret v =>
   refine rk (q4) fun kk d r q4=>?_
   exact ⟨h4,tk4,(β1++γ)++δ,H4,rfl,stAll,lvAll,by simpa using R4,kk,d,by simpa using r,q4⟩
  |brk=>exact q4.elim
  |cont=>exact q4.elim
 ·have hin:j=xs.length:=oqz [j,xs.length] [] [(.le Y0 Y1),(.no (.le (Y0+1) Y1))] (.eq Y0 Y1) [101,11] rfl hj hlt
  subst hin
  refine Wk.done _ _ _ hstj fun h'' tk' hk''=>wpAny_execs_nil ?_
  have lt1:=off h'' hk''
  obtain ⟨st1,lv1⟩:=stOff h'' hk''
  refine ⟨h'',tk',β1++γ,H',rfl,st1,lv1,R'.lt' lt1,ρ',F'.off K (hfield _ h' hstj) deadB hk'' lt1,?_⟩
  rw[List.drop_length] at hgo';exact hgo'
end
theorem rg(vs:List Value):vs.toArray.eraseIdxIfInBounds (vs.toArray.size-1)=vs.dropLast.toArray:=by
 unfold Array.eraseIdxIfInBounds
 split
 ·rename_i h
  apply Array.ext'
  simp only[HX,List.eraseIdx_toArray] at h ⊢
  rw[List.eraseIdx_length_sub_one]
 ·rename_i h
  simp at h
  have h0:vs=[]:=by cases vs with|nil=>rfl|cons a r=>simp at h;omega
  subst h0;rfl
section
variable {X:SX}{f:FC}
theorem oZ{G:GV}{W:Nat->Prop}{s:Shared}{α:List Addr}{ρ:Loc}{H:Hp}(F:FrS G f W s.heap α ρ)(R:HR G α s.heap H)(hW:∀n,W n->1<=n){i:Nat}{x:Str}(hx:f.c.isVar i x=true){n:Nat}{xs:List V}
  (hv:ah ρ i=some (.lst n)) (hw:W n) (hh:H[n]?=some xs) :
  ∃ (a:Addr) (vs:List Value),α[n]?=some a/\VarAt f.env s.heap x (.ref a)/\s.heap.PlainList a vs.toArray/\Reps G α s.heap vs xs/\vs.length<=lim/\xs.length<=lim:=by
 refine ac (F.fi i x _ (MC.isVar_spec hx).1 hv) fun u hu r=>?_
 cases r with
 |lst ha =>
  refine cy (R.lst n _ xs ha hh) fun vs hl q z p=>?_
  exact ⟨_,vs,ha,hu,p (by have:=hW n hw;exact oqz [n] [] [(.le 1 Y0)] (.no (.eq Y0 0)) [101] rfl this),q,by rw[q.len];exact z,z⟩
theorem iq{W:Nat->Prop}{s:Shared}{α:List Addr}{ρ:Loc}{H:Hp}{N:Loc->Hp->Prop}{R:V->Hp->Prop}{h₁ h2:Heap}{tk₁ tk2:Nat}{β:List Addr}{K₁:Hp}{n:Nat}{xs':List V}(k:KeepsH s.heap h₁)(fr:∀b∈β,s.heap.get? b=none)
  (p:FrS X.G f W h2 (α++β) ρ/\HR X.G (α++β) h2 ((H++K₁).set n xs')/\StepS f W { s with heap:=h₁,toks:=tk₁ } (α++β) (H++K₁) h2 [] ((H++K₁).set n xs')/\Lives h₁ h2) (q:N ρ ((H++K₁).set n xs')) :
  PostS X.G f W s α H N R .next { s with heap:=h2,toks:=tk2 }:=by
 refine cv (p) fun F' R' st lv=>?_
 have:=(StepS.of (f:=f) (W:=W) (α:=α) (H:=H) (K:=K₁) k fr).trans (Lives.of k) st
 exact ⟨h2,tk2,β,_,rfl,by simpa using this,(Lives.of k).trans lv,R',ρ,F',q⟩
theorem u7{i:Nat}{x:Str}{pk pe:PE}{j v:Expr}{px pp pos:Pos}(K:dI f)(hx:f.c.isVar i x=true)(hk:SE X f.c pk j)(h:SE X f.c pe v)(hc:fU v=true) :
  SS X f (.setidx i pk pe) (.Assign [.Subscript (.Name x px) j pp] v pos):=fun W s α ρ H N R Y E hW T F HR' hY q=>by
 simp only[qS5] at q
 refine wpAny_Assign_Subscript (wpAny_mono (h f.env s α ρ H _ E K.env (T.at F) HR' F.fi q) (fun v s1 p=>?_) fun _ _ x=>x) (dF hc _ _ _)
 refine p.go fun h₁ tk₁ β K₁ d k1 fr1 R1 r1 q1=>?_
 have F1:=F.up k1 fr1
 refine cw (ifLst.get q1) fun n hl hw q1=>?_
 refine ac (F1.fi i x _ (MC.isVar_spec hx).1 hl) fun u hu ru=>?_
 refine fC (s:={ s with heap:=h₁,toks:=tk₁ }) K.env hx hu ?_
 refine wpAny_mono (hk f.env { s with heap:=h₁,toks:=tk₁ } (α++β) ρ (H++K₁) _ E K.env (T.at F1) R1 F1.fi q1) (fun iv s3 p=>?_) fun _ _ x=>x
 obtain ⟨h2,tk2,γ,K2,kv,rfl,k2,fr2,R2,r2,q2⟩:=p
 refine ac (ifInt.get q2) fun jj zq74 q2=>?_;subst zq74
 refine ac (ifSome.get q2) fun xs hxs q2=>?_
 refine ac (ifSome.get q2) fun pl hpl q2=>?_
 dsimp only at k2 fr2
 have F2:=F1.up k2 fr2
 cases r2 with
 |int _ t =>
  cases ru with
  |lst ha =>
   have ha2:=eC (β:=γ) _ _ ha
   refine cy (R2.lst n _ xs ha2 hxs) fun vs hli rs z pp=>?_
   have hpl':=pp (by have:=hW n hw;exact oqz [n] [] [(.le 1 Y0)] (.no (.eq Y0 0)) [101] rfl this)
   have hlen:=rs.len
   have zz:xs.length<=1000000:=z
   refine l5 (s:={ s with heap:=h2,toks:=tk2 }) hpl' (by rw[HX,hlen];exact hpl) (by rw[HX];exact oqz [vs.length,xs.length] [] [(.eq Y0 Y1),(.le Y1 1000000)] (.le Y0 1000000) [1011] rfl hlen zz) ?_
   have wl:=fV (s:={ s with heap:=h2,toks:=tk2 }) (vs':=vs.set pl v) (xs':=xs.set pl d) K F2 R2 hw ha2 hxs (I3 ..) (by simpa using gD hpl' (·.setIfInBounds pl v)) (rs.set (r1.up k2) pl) (by rw[List.length_set];exact z)
   have st1:StepS f W s α H h₁ β (H++K₁):=.of k1 fr1
   have st2:StepS f W { s with heap:=h₁,toks:=tk₁ } (α++β) (H++K₁) h2 γ (H++K₁++K2):=.of k2 fr2
   have st12:=st1.trans (Lives.of k1) st2
   refine cv (wl) fun F3 R3 st3 lv3=>?_
   have st:=st12.trans (tk:=tk2) ((Lives.of k1).trans (.of k2)) (by simpa using st3)
   exact ⟨_,tk2,β++γ,_,rfl,by simpa using st,((Lives.of k1).trans (.of k2)).trans lv3,by simpa using R3,ρ,by simpa using F3,q2⟩
theorem iy{prog:Program}{w:World}{A:Around}{E:Value->Shared->Prop}{s:Shared}{name:Str}{id:String}{a:Addr}{items:Array Value}{pos:Pos}{args:List (Bool × Sem Value)}{Q:Value->Shared->Prop} (slot:Slot "list" name id)
  (hty:typeOf (.builtin id)=pure (.type "method_descriptor")) (hl:s.heap.PlainList a items) (h:wpAny (model prog w) A (callWith pos (.builtin id) [.ref a] args []) Q E s):MethodOnS prog w A E name (.ref a) pos args Q s:=by
 refine ⟨"list",id,PySem.F.plainAttrs_list,slot,hty,hl.isList.typeIs,fun b e=>?_,h⟩
 cases e
 obtain ⟨n,ho⟩:=hl
 exact ⟨_,ho,rfl⟩
theorem D3{i:Nat}{x a:Str}{pe:PE}{v:Expr}{px ap cp pos:Pos} (K:dI f) (hx:f.c.isVar i x=true) (ha:a=Str.ofString "append") (hli:ap.endLine=cp.line) (hn:cZ v=true) (h:SE X f.c pe v) :
  SS X f (.app i pe) (.Expr (.Call (.Attribute (.Name x px) a ap) [v] [] cp) pos):=fun W s α ρ H N R Y E hW T F HR' hY q=>by
 subst ha
 simp only[qS6] at q
 refine cw (ifLst.get q) fun n hl hw q=>?_
 refine ac (F.fi i x _ (MC.isVar_spec hx).1 hl) fun u hu ru=>?_
 cases ru with
 |lst ha =>
  obtain ⟨xs0,hx0⟩:=HR'.at ha
  refine cy (HR'.lst n _ xs0 ha hx0) fun vs0 _ _ _ pp0=>?_
  have hpl0:=pp0 (by have:=hW n hw;exact oqz [n] [] [(.le 1 Y0)] (.no (.eq Y0 0)) [101] rfl this)
  refine wpAny_Expr (Call_method1 rfl (aJ hn) (by simp[hli]) (fC K.env hx hu ?_)) (by have:=K.env.kind;simp[interactive,this]) (dF rfl _ _ _)
  refine iy PySem.F.slot_list_append PySem.F.type_list_append hpl0 (P.append_list ?_)
  refine wpAny_mono (h f.env s α ρ H _ E K.env (T.at F) HR' F.fi q) (fun v s1 p=>?_) fun _ _ x=>x
  obtain ⟨h₁,tk₁,β,K₁,d,rfl,k1,fr1,R1,r1,q1⟩:=p
  refine cw (ifSome.get q1) fun xs hxs hlt q1=>?_
  have F1:=F.up k1 fr1
  have ha1:=eC (β:=β) _ _ ha
  refine cy (R1.lst n _ xs ha1 hxs) fun vs _ rs z pp=>?_
  have hpl:=pp (by have:=hW n hw;exact oqz [n] [] [(.le 1 Y0)] (.no (.eq Y0 0)) [101] rfl this)
  have hlen:=rs.len
  obtain ⟨ne,ho⟩:=id hpl
  refine ⟨vs.toArray,ne,by rw[HX,hlen];exact Hj (JJ hlt) fh,ho,?_⟩
  have wl:=fV (s:={ s with heap:=h₁,toks:=tk₁ }) (vs':=vs++[v]) (xs':=xs++[d]) K F1 R1 hw ha1 hxs (I3 ..) (by simpa using gD hpl (·.push v)) (rs.append (.cons r1 .nil)) (by rw[Hl];exact hlt)
  exact iq k1 fr1 wl q1
theorem Dm{i:Nat}{x a:Str}{px ap cp pos:Pos} (K:dI f) (hx:f.c.isVar i x=true) (ha:a=Str.ofString "pop") (hli:ap.endLine=cp.line) :
  SS X f (.pop i) (.Expr (.Call (.Attribute (.Name x px) a ap) [] [] cp) pos):=fun W s α ρ H N R Y E hW T F HR' hY q=>by
 subst ha
 simp only[qS7] at q
 refine cw (ifLst.get q) fun n hl hw q=>?_
 refine wD (ifSome.get q) fun xs hh ys k zq9 q=>?_;subst zq9
 refine lS (oZ F HR' hW hx hl hw hh) fun a vs ha hu hpl rs z' z=>?_
 have hlen:=rs.len
 refine ac (rs.get (n:=ys.length) (d:=.int k) (by simp)) fun val bh rval=>?_
 cases rval with
 |int _ t =>
  obtain ⟨ne,ho⟩:=id hpl
  refine wpAny_Expr (Call_method0 rfl (by simp[hli]) (fC K.env hx hu ?_)) (by have:=K.env.kind;simp[interactive,this]) (dF rfl _ _ _)
  refine iy PySem.F.slot_list_pop PySem.F.type_list_pop hpl (P.pop_list (y:=.int k t) ho ?_ ?_ (by rw[HX];exact Hj z' fh))
  ·simp only[HX,List.getElem?_toArray]
   rw[show vs.length-1=ys.length by simp at hlen;exact oqz [vs.length-1,vs.length,ys.length] [] [(.eq Y1 (Y2+1)),(osb Y1 1 Y0)] (.eq Y0 Y2) [10101,1101,100011,10001] rfl hlen (am (vs.length) (1))];exact bh
  ·have wl:=fV (s:=s) (vs':=vs.dropLast) (xs':=ys) K F HR' hw ha hh (I3 ..) (by
    have e:=gD hpl (fun xs=>xs.eraseIdxIfInBounds (vs.toArray.size-1))
    have e2:vs.toArray.eraseIdxIfInBounds (vs.toArray.size-1)=vs.dropLast.toArray:=rg vs
    rw[e2] at e;exact e) (by simpa using rs.dropLast) (by simp at z;exact Ic z)
   exact iq (h₁:=s.heap) (tk₁:=s.toks) (β:=[]) (K₁:=[]) (.refl _) (by simp) (by simpa using wl) (by simpa using q)
theorem DW{i:Nat}{x a:Str}{px ap cp pos:Pos} (K:dI f) (hx:f.c.isVar i x=true) (ha:a=Str.ofString "reverse") (hli:ap.endLine=cp.line) :
  SS X f (.rev i) (.Expr (.Call (.Attribute (.Name x px) a ap) [] [] cp) pos):=fun W s α ρ H N R Y E hW T F HR' hY q=>by
 subst ha
 simp only[qS8] at q
 refine cw (ifLst.get q) fun n hl hw q=>?_
 refine ac (ifSome.get q) fun xs hh q=>?_
 refine lS (oZ F HR' hW hx hl hw hh) fun a vs ha hu hpl rs z' z=>?_
 obtain ⟨ne,ho⟩:=id hpl
 refine wpAny_Expr (Call_method0 rfl (by simp[hli]) (fC K.env hx hu ?_)) (by have:=K.env.kind;simp[interactive,this]) (dF rfl _ _ _)
 refine iy PySem.F.slot_list_reverse PySem.F.type_list_reverse hpl (P.reverse_list ho ?_ (by rw[HX];exact Hj z' fh))
 have wl:=fV (s:=s) (vs':=vs.reverse) (xs':=xs.reverse) K F HR' hw ha hh (I3 ..) (by simpa using gD hpl (fun xs=>xs.reverse)) rs.reverse (by rw[Ih];exact z)
 exact iq (h₁:=s.heap) (tk₁:=s.toks) (β:=[]) (K₁:=[]) (.refl _) (by simp) (by simpa using wl) (by simpa using q)
end
section
variable {X:SX}{f:FC}
theorem FrS.other{G:GV}{W:Nat->Prop}{h h':Heap}{α:List Addr}{ρ:Loc}{C:Addr}(K:dI f)(F:FrS G f W h α ρ)(hs:Heap.SameBut C h h')(hL:C≠f.env.locals)(hc:∀n,(n,C) ∉ f.env.cells)(hb:f.hb.get? C=none)(kt:KeepsT h h'):FrS G f W h' α ρ:=by
 refine ay (F.fr) fun m cm hn hcl hv=>?_
 refine ⟨⟨m,cm,hn.sameBut hs (Ne.symm hL),⟨fun x a e=>(hcl.cell x a e).sameBut hs fun q=>hc x (q ▸ Ks e),hcl.apart,hcl.above⟩,fun i x d e1 e2=>?_⟩,fun b o e=>hs.extBut b o (fun q=>by rw[q,hb] at e;cases e) (F.kb b o e),F.wb⟩
 refine ac (hv i x d e1 e2) fun v hv r=>?_
 exact ⟨v,hv,r.mono (fun _ _ e=>e) kt⟩
theorem FrS.deadH{G:GV}{W:Nat->Prop}{s:Heap}{α:List Addr}{ρ:Loc}(F:FrS G f W s α ρ){b:Addr}(e:s.get? b=none):f.hb.get? b=none:=by
 cases e':f.hb.get? b with
 |none=>rfl
 |some o=>have:=F.kb b o e';rw[e] at this;cases this
theorem kC{i:Nat}{y:Str}{py spos:Pos}{elt iter:Expr}{x:Str}{px pos:Pos}{ifs:List Expr}{sc:Scope}{cs:List Str}{pelt:PE}{caps:List Nat}{pit:PI}{cond:PO}(KK:dI f)(hy:f.c.isVar i y=true)
  (K:CompOk f.c sc x cs caps) (h1:SE X ⟨f.c.g,sc,x::cs⟩ pelt elt) (h2:vV X ⟨f.c.g,sc,x::cs⟩ cond ifs) (h3:SI X f.c pit iter) (hns:jl iter=true) :
  SS X f (.assign i (.comp pelt 1 caps pit cond)) (.Assign [.Name y py] (.ListComp elt [⟨.Name x px,iter,ifs,0⟩] sc pos) spos):=fun W s α ρ H N R Y E hW T F HR' hY q=>by
 have hsw:∃b,swapsWith (.ListComp elt [⟨.Name x px,iter,ifs,0⟩] sc pos) (some (.Name y py)) spos.line f.env=pure b:=⟨_,rfl⟩
 obtain ⟨b,hsw⟩:=hsw
 cases b with
 |false =>
  simp only[qS3] at q
  refine wpAny_Assign_Name (wpAny_mono (t9 K h1 h2 h3 hns f.env s α ρ H _ E KK.env (T.at F) HR' F.fi q) (fun v s1 p=>?_) fun _ _ x=>x) hsw
  exact kI KK F hy p
 |true =>
  simp only[qS3,ij] at q
  rw[exec_Assign_Name_used _ _ _ _ hsw]
  refine Hk (wpAny_standAt (Hk ?_))
  rw[arm_evalThenUse_ListComp]
  refine Hk (wpAny_mono (Q:=fun _ s'=>PostS X.G f W s α H N R .next s') ?_ (fun _ _ p=>HC (HC p)) fun _ _ e=>e)
  refine wpAny_comprehension_free (use:=some (assign (.Name y py) f.env)) rfl (gq hns f.env) (K.clos KK.env) K.kind K.names (wpAny_mono (h3 f.env s α ρ H _ E KK.env (T.at F) HR' F.fi q) (fun xv s1 p=>wpAny_mono p (fun it s2 p=>?_) fun _ _ e=>e) fun _ _ e=>e)
  refine mq K h1 h2 f.env s α ρ H _ E KK.env (T.at F) F.fi it s2 p (fun acc C=>compPost (model X.prog X.w) X.A E (some (assign (.Name y py) f.env)) (fun _ s'=>PostS X.G f W s α H N R .next s') acc C) fun D C s' p=>?_
  obtain ⟨h',tk,β,K₁,ys,ds,m,rfl,k,fr,R',dD,dC,hDC,hD,hpl,rys,z,hn,q'⟩:=p
  -- the new list joins the lists
  have fr':∀b∈β++[D],s.heap.get? b=none:=fun b hb=>by
   rcases Ik.mp hb with hb|hb
   ·exact fr b hb
   ·simp at hb;subst hb;exact dD
  have F':=F.up k fr'
  have R'':HR X.G (α++(β++[D])) h' (H++(K₁++[ds])):=by
   have:=R'.push (.refl _) hD hpl rys z
   simpa using this
  have rD:Rep X.G (α++(β++[D])) h' (.ref D) (.lst (H++K₁).length):=by
   refine Rep.lst ?_
   rw[<- R'.len,<- Hv,HN (Ht _)];simp
  have hCL:C≠f.env.locals:=fun q=>by obtain ⟨o,ho⟩:=F.alive;rw[<- q,dC] at ho;cases ho
  have hCc:∀n,(n,C) ∉ f.env.cells:=fun n hm=>by
   refine ay (F.fr) fun m cm _ hc _=>?_
   refine ac (hc.cell n C (KK.uniq n C hm)) fun o' ho' hd'=>?_
   rw[dC] at ho';cases ho'
  show wpAny _ _ (assign (.Name y py) f.env (.ref D)) _ _ _
  refine wpAny_assign_Name (gZ (s:={ s with heap:=h',toks:=tk }) KK F' hy rD fun h₃ tk3 F3 kf3 lt3 lv3=>?_)
  dsimp only at kf3 lt3 lv3
  refine bH (id hn) fun oC es ep hoC hdC hkC hfC=>?_
  have hoC3:=kf3 C oC hoC hCL hCc
  have hn3:h₃.Ns C m:=⟨oC,es,ep,hoC3,hdC,hkC,hfC⟩
  refine ⟨m,hn3,fun h4 hs4=>?_⟩
  dsimp only at hs4
  have lt4:KeepsLT h₃ h4:=KeepsLT.sameBut hs4 (gH hn3)
  refine ⟨h4,tk3,β++[D],H++(K₁++[ds]),rfl,⟨fun b o e a1 a2 _=>hs4.extBut b o (fun q=>by rw[q,dC] at e;cases e) (kf3 b o (k b o e) a1 a2),fr',fun n hnn _=>HI hnn,by simp⟩,fun b o e=>?_,(R''.lt' lt3).lt' lt4,_,F3.other KK hs4 hCL hCc (F.deadH dC) lt4.tup,by simpa using q'⟩
  obtain ⟨o',e'⟩:=lv3 b o (k b o e)
  exact ⟨o',hs4.extBut b o' (fun q=>by rw[q,dC] at e;cases e) e'⟩
theorem mJ(K:dI f){W:Nat->Prop}{E:Value->Shared->Prop}:∀ (is:List Nat) (ts:List Expr) (s:Shared) (α:List Addr) (ρ:Loc) (vs:List Value) (ds:List V) (Z:Unit->Shared->Prop),is.all (fun i=>f.c.isVar i (f.c.nm i))=true->vs.length=is.length->FrS X.G f W s.heap α ρ->Reps X.G α s.heap vs ds ->
  (∀h' tk,FrS X.G f W h' α (iC ρ is ds)->qG f s.heap h'->KeepsLT s.heap h'->Lives s.heap h'->Z () { s with heap:=h',toks:=tk }) ->
  wpAny (model X.prog X.w) X.A (assignInOrder ((assignEach (gU f.c is ts) f.env).map (·.2)) vs) Z E s
 | [],ts,s,α,ρ,vs,ds,Z,ht,hl,F,r,hz=>by
  cases vs with
  |nil =>
   cases r
   exact HC (hz s.heap s.toks F (fun _ _ e _ _=>e) (fun _ _ _ _ e _=>e) (fun b o e=>⟨o,e⟩))
  |cons v vs=>exact absurd hl (Kl _)
 |i::is,ts,s,α,ρ,vs,ds,Z,ht,hl,F,r,hz=>by
  have ht:=HU.mp ht
  cases vs with
  |nil=>exact absurd hl.symm (Kl _)
  |cons v vs =>
   cases r with
   |cons rv rs =>
    rename_i d ds
    show wpAny _ _ (do holding vs (assign (.Name (f.c.nm i) _) f.env v);assignInOrder ((assignEach (gU f.c is ts.tail) f.env).map (·.2)) vs) Z E s
    refine Hk (J1 (wpAny_assign_Name (gZ K F ht.1 rv fun h' tk F' kf lt lv=>?_)))
    refine mJ K is ts.tail { s with heap:=h',toks:=tk } α (aE ρ i d) vs ds Z ht.2 (IW hl) F' (rs.mono (fun _ _ e=>e) lt.tup) fun h'' tk' F'' kf' lt' lv'=>?_
    exact hz h'' tk' F'' (fun b o e a1 a2=>kf' b o (kf b o e a1 a2) a1 a2) (lt.trans lt') (lv.trans lv')
theorem mi:∀ {is:List Nat}{ts:List Expr},(assignEach (gU f.c is ts) f.env).length=is.length/\(assignEach (gU f.c is ts) f.env).findIdx? (·.1)=none
 | [],_=>⟨rfl,rfl⟩
 |i::is,ts=>by
  obtain ⟨a,b⟩:=mi (is:=is) (ts:=ts.tail)
  have e:assignEach (gU f.c (i::is) ts) f.env=(false,assign (.Name (f.c.nm i) (bv (ts.headD (.Name "" default)))) f.env)::assignEach (gU f.c is ts.tail) f.env:=rfl
  rw[e,List.length_cons,List.length_cons,a,List.findIdx?_cons,b]
  exact ⟨rfl,rfl⟩
theorem nr{ts:List Expr}{k:Nat}{tp:Pos}{v:Expr}(h:rW v=true)(env:Env):swappedStores [.Tuple ts k tp] v env=pure none:=by
 cases v <;> first|rfl|cases h
end
section
variable {X:SX}{f:FC}
theorem u6{h h':Heap}(e:Heap.ExtBut h.objs.size h h'):KeepsH h h':=fun b o eo=>e b o (Jm (I8 eo)) eo
theorem qr{W:Nat->Prop}{s:Shared}{α:List Addr}{H:Hp}{N:Loc->Hp->Prop}{R:V->Hp->Prop}{h₁ h2:Heap}{tk:Nat}{β:List Addr}{K₁:Hp}{ρ':Loc}(k:KeepsH s.heap h₁)(fr:∀b∈β,s.heap.get? b=none)(R':HR X.G (α++β) h₁ (H++K₁))
  (F':FrS X.G f W h2 (α++β) ρ') (kf:qG f h₁ h2) (lt:KeepsLT h₁ h2) (lv:Lives h₁ h2) (q:N ρ' (H++K₁)):PostS X.G f W s α H N R .next { s with heap:=h2,toks:=tk }:=
 ⟨h2,tk,β,H++K₁,rfl,⟨fun b o e a1 a2 _=>kf b o (k b o e) a1 a2,fr,fun n hn _=>HI hn,by simp⟩,(Lives.of k).trans lv,R'.lt' lt,ρ',F',q⟩
theorem vc{is:List Nat}{ts:List Expr}{pe:PE}{v:Expr}{k:Nat}{tp pos:Pos}(hA:AOk X.prog X.A)(K:dI f)(ht:is.all (fun i=>f.c.isVar i (f.c.nm i))=true)(hnd:is.Nodup)(hc:fU v=true)(hok:rW v=true)(h:SE X f.c pe v):SS X f (.unpack is pe) (.Assign [.Tuple (gU f.c is ts) k tp] v pos):=fun W s α ρ H N R Y E hW T F HR' hY q=>by
 simp only[qS4] at q
 have hsole:swapsWithSole [.Tuple (gU f.c is ts) k tp] v pos.line f.env=pure false:=by
  show swapsWith v (some (.Tuple (gU f.c is ts) k tp)) pos.line f.env=pure false
  refine dF ?_ _ _ _
  exact hc
 have ev:=h f.env s α ρ H _ E K.env (T.at F) HR' F.fi q
 obtain ⟨hlen,hfind⟩:=mi (f:=f) (is:=is) (ts:=ts)
 refine Assign_Tuple (wpAny_mono ev (fun u s1 p=>?_) fun _ _ x=>x) hsole (nr hok f.env)
 obtain ⟨h₁,tk₁,β,K₁,d,rfl,k1,fr,R1,r,q'⟩:=p
 obtain ⟨vs,rfl,hl,q'⟩:=ifTup.get q'
 obtain ⟨a,us,rfl,hti,rs,z⟩:=r.tup_inv
 ·rw[arm_assign_Tuple]
  refine Hk (wpAny_standAt ?_)
  refine unpack_tuple (s:={ s with heap:=h₁,toks:=tk₁ }) hA.handled hti (by rw[hlen,HX,rs.len,hl]) hfind fun h2 he=>?_
  have k2:=u6 he
  refine mJ (W:=W) K is ts { s with heap:=h2,toks:=tk₁ } (α++β) ρ us vs _ ht (by rw[rs.len,hl]) (F.up (k1.trans k2) fr) (rs.mono (fun _ _ e=>e) (.of k2)) fun h3 tk3 F3 kf3 lt3 lv3=>?_
  exact qr (k1.trans k2) fr (R1.keeps k2) F3 kf3 lt3 lv3 q'
end
inductive PostT (G:GV) (f:FC) (s:Shared) (α:List Addr) (H:Hp) (Q:V->Hp->Prop) (v:Value) (s':Shared):Prop
 |mk (h':Heap) (tk:Nat) (β:List Addr) (K:Hp) (d:V) (e:s'={ s with heap:=h',toks:=tk }) (k:∀b o,s.heap.get? b=some o->b≠f.env.locals->h'.get? b=some o)
  (l:∀m,s.heap.Ns f.env.locals m->h'.Ns f.env.locals m) (fr:∀b∈β,s.heap.get? b=none) (R:HR G (α++β) h' (H++K)) (r:Rep G (α++β) h' v d) (q:Q d (H++K))
noncomputable def jR(X:SX)(f:FC):Prop:=
 ∀ (k:Nat) (x:Str) (vs:List V) (H:Hp) (Q:V->Hp->Prop),f.c.g.fns[k]?=some x->X.Φ (k+1000) vs H Q (fun _ _=>False)->∀ (W:Nat->Prop) (s:Shared) (α:List Addr) (ρ:Loc) (vals:List Value) (E:Value->Shared->Prop),
  GF X.G f.c.g X.DT f.hb->FrS X.G f W s.heap α ρ->HR X.G α s.heap H->Reps X.G α s.heap vals vs->wpAny (model X.prog X.w) X.A (call (.ref (X.G.fa k)) vals) (PostT X.G f s α H Q) E s
section
variable {X:SX}{f:FC}
theorem PostT.trans{s:Shared}{α:List Addr}{H:Hp}{Q:V->Hp->Prop}{h₁:Heap}{tk₁:Nat}{β:List Addr}{K:Hp}{v:Value}{s':Shared}(k:KeepsH s.heap h₁)(fr:∀b∈β,s.heap.get? b=none)
  (p:PostT X.G f { s with heap:=h₁,toks:=tk₁ } (α++β) (H++K) Q v s'):PostT X.G f s α H Q v s':=by
 obtain ⟨h',tk,β',K',d,rfl,k',l',fr',R',r',q'⟩:=p
 refine ⟨h',tk,β++β',K++K',d,rfl,fun b o e n=>k' b o (k b o e) n,fun m e=>l' m (e.keeps k),fun b hb=>?_,by simpa using R',by simpa using r',by simpa using q'⟩
 rcases Ik.mp hb with hb|hb
 ·exact fr b hb
 ·cases e:s.heap.get? b with
  |none=>rfl
  |some o=>have:=k b o e;rw[show h₁.get? b=none from fr' b hb] at this;cases this
theorem wO{k:Nat}{x:Str}{ps:PEs}{e:Expr}{es:List Expr}{pos:Pos}(hT:jR X f)(hf:f.c.g.fns[k]?=some x)(hn:cZ e=true)(h:SEs X f.c ps (e::es))
  (W:Nat->Prop) (s:Shared) (α:List Addr) (ρ:Loc) (H:Hp) (Q:V->Hp->Prop) (E:Value->Shared->Prop) (O:bP f.c f.env) (T:GF X.G f.c.g X.DT f.hb) (R:HR X.G α s.heap H) (F:FrS X.G f W s.heap α ρ)
  (q:et X.sub X.Φ ps ρ H fun vs H1=>X.Φ (k+1000) vs H1 Q fun _ _=>False) :
  wpAny (model X.prog X.w) X.A (callWith pos (.ref (X.G.fa k)) [] (backTo pos (starEach (e::es) f.env)) []) (PostT X.G f s α H Q) E s:=by
 refine dS ((T.at F).fn k x hf) fun _ d o pm cd doc _ _ ho hd _=>?_
 refine callWith_def hd (wpAny_mono (h f.env s α ρ H _ E pos O (T.at F) R F.fi q) (fun vs s1 p=>?_) fun _ _ y=>y) (aJ hn)
 obtain ⟨h₁,tk₁,β,K,ds,rfl,k',f',R',r,q'⟩:=p
 refine ⟨k' _ _ ho,?_⟩
 exact wpAny_mono (hT k x ds (H++K) Q hf q' W { s with heap:=h₁,toks:=tk₁ } (α++β) ρ vs E T (F.up k' f') R' r.1) (fun _ _ p=>p.trans k' f') fun _ _ y=>y
theorem Lives.turn{W:Nat->Prop}{s:Shared}{α:List Addr}{ρ:Loc}{h':Heap}(F:FrS X.G f W s.heap α ρ)(k:∀b o,s.heap.get? b=some o->b≠f.env.locals->h'.get? b=some o)(l:∀m,s.heap.Ns f.env.locals m->h'.Ns f.env.locals m):Lives s.heap h':=fun b o e=>by
 by_cases hb:b=f.env.locals
 ·subst hb
  refine cU (F.fr) fun m cm hn _=>?_
  refine iQ (l m hn) fun o' _ _ e' _=>?_
  exact ⟨_,e'⟩
 ·exact ⟨o,k b o e hb⟩
theorem FrS.turn{W:Nat->Prop}{s:Shared}{α β:List Addr}{ρ:Loc}{h':Heap}(K:dI f)(F:FrS X.G f W s.heap α ρ)(k:∀b o,s.heap.get? b=some o->b≠f.env.locals->h'.get? b=some o)
  (l:∀m,s.heap.Ns f.env.locals m->h'.Ns f.env.locals m) (fr:∀b∈β,s.heap.get? b=none):FrS X.G f W h' (α++β) ρ:=by
 refine ay (F.fr) fun m cm hn hc hv=>?_
 have kt:KeepsT s.heap h':=fun a items x=>by
  refine bS (x) fun o ho hc' n hd=>?_
  refine ⟨o,k a o ho fun ha=>?_,hc',n,hd⟩
  subst ha
  refine cV (hn) fun o' es ep ho' hd' _=>?_
  rw[ho] at ho';cases ho'
  rw[hd] at hd';cases hd'
 refine ⟨⟨m,cm,?_,?_,fun i x d e1 e2=>?_⟩,fun b o e=>?_,fun n a ha hw=>?_⟩
 ·exact l m hn
 ·exact hc.extBut (fun c o n e=>k c o e n) (Ht _)
 ·refine ac (hv i x d e1 e2) fun v hv r=>?_
  exact ⟨v,hv,r.mono eC kt⟩
 ·refine k b o (F.kb b o e) fun hb=>?_
  subst hb
  rw[K.deadL] at e;cases e
 ·by_cases hl:n<α.length
  ·rw[HI hl] at ha;exact F.wb n a ha hw
  ·rw[HN (by exact oqz [α.length,n] [] [(.no (.le (Y1+1) Y0))] (.le Y0 Y1) [11] rfl hl)] at ha
   have hm:=fr a (IG ha)
   cases e:f.hb.get? a with
   |none=>rfl
   |some o=>have:=F.kb a o e;rw[hm] at this;cases this
theorem PostT.transT{s:Shared}{α:List Addr}{H:Hp}{Q:V->Hp->Prop}{W:Nat->Prop}{ρ:Loc}{h₁:Heap}{tk₁:Nat}{β:List Addr}{K₁:Hp}{v:Value}{s':Shared}(F:FrS X.G f W s.heap α ρ)
  (k:∀b o,s.heap.get? b=some o->b≠f.env.locals->h₁.get? b=some o) (l:∀m,s.heap.Ns f.env.locals m->h₁.Ns f.env.locals m) (fr:∀b∈β,s.heap.get? b=none)
  (p:PostT X.G f { s with heap:=h₁,toks:=tk₁ } (α++β) (H++K₁) Q v s'):PostT X.G f s α H Q v s':=by
 obtain ⟨h',tk,β',K',d,rfl,k',l',fr',R',r',q'⟩:=p
 refine ⟨h',tk,β++β',K₁++K',d,rfl,fun b o e n=>k' b o (k b o e n) n,fun m e=>l' m (l m e),fun b hb=>?_,by simpa using R',by simpa using r',by simpa using q'⟩
 rcases Ik.mp hb with hb|hb
 ·exact fr b hb
 ·cases e:s.heap.get? b with
  |none=>rfl
  |some o =>
   obtain ⟨o',e'⟩:=Lives.turn F k l b o e
   rw[show h₁.get? b=none from fr' b hb] at e';cases e'
noncomputable def OneT(X:SX)(f:FC)(c:Nat × PEs)(e:Expr):Prop:=
 ∃x p r pos,e=.Call (.Name x p) r [] pos/\f.c.g.fns[c.1]?=some x/\f.c.isGlob x=true/\(!r.isEmpty)=true/\cR r=true/\SEs X f.c c.2 r
noncomputable def A3(X:SX)(f:FC):List (Nat × PEs)->List Expr->Prop
 | [],es=>es=[]
 |c::r,es=>∃e es',es=e::es'/\OneT X f c e/\A3 X f r es'
theorem OneT.run{c:Nat × PEs}{e:Expr}(o:OneT X f c e)(K:dI f)(hT:jR X f)(W:Nat->Prop)(s:Shared)(α:List Addr)(ρ:Loc)(H:Hp)(Q:V->Hp->Prop)(E:Value->Shared->Prop)(T:GF X.G f.c.g X.DT f.hb)(F:FrS X.G f W s.heap α ρ)(R:HR X.G α s.heap H)
  (q:et X.sub X.Φ c.2 ρ H fun vs H1=>X.Φ (c.1+1000) vs H1 Q fun _ _=>False):wpAny (model X.prog X.w) X.A (eval e f.env) (PostT X.G f s α H Q) E s:=by
 obtain ⟨x,p,r,pos,rfl,hf,hx,he,hn,h⟩:=o
 cases r with|nil=>exact (Hq he).elim|cons a r=>exact Call_ (gQ K.env hx (T.at F).g ((T.at F).fn c.1 x hf).1 (wO hT hf (HU.mp hn).1 h W s α ρ H Q E K.env T R F q))
theorem xw(K:dI f)(hT:jR X f)(pos:Pos)(W:Nat->Prop)(ρ:Loc)(Rr:V->Hp->Prop)(E:Value->Shared->Prop)(T:GF X.G f.c.g X.DT f.hb):∀ (c:Nat × PEs) (cs:List (Nat × PEs)) (es:List Expr) (s:Shared) (α:List Addr) (H:Hp),A3 X f (c::cs) es->FrS X.G f W s.heap α ρ->HR X.G α s.heap H ->
  wpT X.sub X.Φ (c::cs) ρ H Rr->wpAny (model X.prog X.w) X.A (boolOp pos .And (evalEach es f.env)) (PostT X.G f s α H Rr) E s
 |c,[],es,s,α,H,a,F,R,q=>by
  refine ay (a) fun e es' zq82 o zq83=>?_;subst zq82;subst zq83
  refine wpAny_mono (o.run K hT W s α ρ H _ E T F R q) (fun v s1 p=>?_) fun _ _ x=>x
  obtain ⟨h₁,tk₁,β,K₁,d,rfl,k,l,fr,R',r,rfl,q'⟩:=p
  exact ⟨h₁,tk₁,β,K₁,_,rfl,k,l,fr,R',r,q'⟩
 |c,c2::cs,es,s,α,H,a,F,R,q=>by
  refine ay (a) fun e es' zq81 o a2=>?_;subst zq81
  refine ay (id a2) fun e2 es2 zq80 o2 a3=>?_;subst zq80
  have key:wpAny (model X.prog X.w) X.A (eval e f.env >>= fun v=>do
    standAt pos
    let t <- holding [v] (truthy v)
    match BoolOp.And,t with
    | .And,false | .Or,true=>pure v
    |_,_=>boolOp pos .And (evalEach (e2::es2) f.env)) (PostT X.G f s α H Rr) E s:=by
   refine Hk (wpAny_mono (o.run K hT W s α ρ H _ E T F R q) (fun v s1 p=>?_) fun _ _ x=>x)
   obtain ⟨h₁,tk₁,β,K₁,d,rfl,k,l,fr,R',r,rfl,q'⟩:=p
   refine Hk (wpAny_standAt (Hk (J1 (dx (s:={ s with heap:=h₁,toks:=tk₁ }) R' r (show ba _ (.bool true)=some true from rfl) fun tk=>?_))))
   exact wpAny_mono (xw K hT pos W ρ Rr E T c2 cs (e2::es2) { s with heap:=h₁,toks:=tk } (α++β) (H++K₁) a2 (F.turn K k l fr) R' q') (fun _ _ p=>p.transT F k l fr) fun _ _ x=>x
  exact key
theorem yQ{c:Nat × PEs}{cs:List (Nat × PEs)}{es:List Expr}{pos pos':Pos}(K:dI f)(hT:jR X f)(a:A3 X f (c::cs) es):SS X f (.randt (c::cs)) (.Return (some (.BoolOp .And es pos)) pos'):=fun W s α ρ H N R Y E hW T F HR' hY q=>by
 replace q:wpT X.sub X.Φ (c::cs) ρ H R:=q
 refine wpAny_Return_some (wpAny_mono (by rw[arm_eval_BoolOp];exact xw K hT pos W ρ R E T c cs es s α H a F HR' q) (fun v s1 p=>?_) fun _ _ x=>x)
 obtain ⟨h₁,tk₁,β,K₁,d,rfl,k,l,fr,R',r,q⟩:=p
 refine ⟨h₁,tk₁,β,H++K₁,rfl,⟨fun b o e n _ _=>k b o e n,fr,fun n hn _=>HI hn,by simp⟩,Lives.turn F k l,R',fun b o e=>?_,d,r,q⟩
 ·refine k b o (F.kb b o e) fun hb=>?_
  subst hb
  rw[K.deadL] at e;cases e
noncomputable def Bk(X:SX)(f:FC):List (Nat × PEs)->List Expr->Prop
 | [],es=>es=[]
 |c::r,es=>∃e p es',es=.UnaryOp .Not e p::es'/\OneT X f c e/\Bk X f r es'
theorem Cz(K:dI f)(hT:jR X f)(W:Nat->Prop)(ρ:Loc)(Rr:V->Hp->Prop)(E:Value->Shared->Prop)(T:GF X.G f.c.g X.DT f.hb):∀ (cs:List (Nat × PEs)) (es:List Expr) (s:Shared) (α:List Addr) (H:Hp),Bk X f cs es->FrS X.G f W s.heap α ρ->HR X.G α s.heap H ->
  wpT X.sub X.Φ cs ρ H Rr->wpAny (model X.prog X.w) X.A (allTrue .Or es f.env) (fun t s'=>t=false/\PostT X.G f s α H Rr (.bool true) s') E s
 | [],es,s,α,H,a,F,R,q=>by
  cases (show es=[] from a)
  replace q:Rr (.bool true) H:=q
  exact wpAny_allTrue_Or_nil ⟨rfl,s.heap,s.toks,[],[],.bool true,rfl,fun _ _ e _=>e,fun _ e=>e,nofun,by simpa using R,.bool _,by simpa using q⟩
 |c::cs,es,s,α,H,a,F,R,q=>by
  refine cV (a) fun e p es' zq42 o a2=>?_;subst zq42
  refine wpAny_allTrue_Or_cons (wpAny_isTrue_Not ?_)
  have ht:isTrue e f.env (eval e f.env)=(do let v <- eval e f.env;standAt e.pos;holding [v] (truthy v)):=by
   refine pV (o) fun x p' r pos zq41 _=>?_;subst zq41
   rfl
  refine wpAny_isTrue_value (wpAny_mono (o.run K hT W s α ρ H _ E T F R q) (fun v s1 p=>?_) fun _ _ x=>x) ht
  obtain ⟨h₁,tk₁,β,K₁,d,rfl,k,l,fr,R',r,rfl,q'⟩:=p
  refine dx (s:={ s with heap:=h₁,toks:=tk₁ }) R' r (show ba _ (.bool true)=some true from rfl) fun tk=>?_
  exact wpAny_mono (Cz K hT W ρ Rr E T cs es' { s with heap:=h₁,toks:=tk } (α++β) (H++K₁) a2 (F.turn K k l fr) R' q') (fun _ _ p=>⟨p.1,p.2.transT F k l fr⟩) fun _ _ x=>x
theorem zm{cs:List (Nat × PEs)}{es:List Expr}{pos pos':Pos}{bd:List Stmt}(K:dI f)(hT:jR X f)(a:Bk X f cs es):SS X f (.iort cs) (.If (.BoolOp .Or es pos) bd [] pos'):=fun W s α ρ H N R Y E hW T F HR' hY q=>by
 replace q:wpT X.sub X.Φ cs ρ H fun _ H1=>N ρ H1:=q
 refine wpAny_If (wpAny_isTrue_BoolOp (wpAny_mono (Cz K hT W ρ _ E T cs es s α H a F HR' q) (fun t s1 p=>?_) fun _ _ x=>x))
 obtain ⟨rfl,h₁,tk₁,β,K₁,d,rfl,k,l,fr,R',r,q⟩:=p
 have st:StepS f W s α H h₁ β (H++K₁):=⟨fun b o e n _ _=>k b o e n,fr,fun n hn _=>HI hn,by simp⟩
 have lv:Lives s.heap h₁:=Lives.turn F k l
 refine wpAny_mono (wx K W { s with heap:=h₁,toks:=tk₁ } (α++β) ρ (H++K₁) N R Y E hW T (F.turn K k l fr) R' (hY.later (tk₁:=tk₁) st lv) q) (fun _ _ p=>?_) fun _ _ x=>x
 exact p.trans st lv
end
theorem y7{X:SX}{f:FC}(hA:AOk X.prog X.A)(hΦ:f4 X.prog X.w X.G f.c.g X.DT X.A X.Φ):∀ (cs:List (Nat × PEs)) (vs:List Expr),(gT f.c cs vs).2=true->A3 X f cs (gT f.c cs vs).1
 | [],_,_=>rfl
 |c::cs,vs,h=>by
  have h1:=bnd (bnd h).1
  have h2:=bnd h1.2
  have h3:=cL hA hΦ c.2 f.c.scope f.c.names _ h2.2
  exact ⟨_,_,rfl,⟨_,_,_,_,rfl,ode (bnd h1.1).1,(bnd h1.1).2,h2.1,h3.2,h3.1⟩,y7 hA hΦ cs vs.tail (bnd h).2⟩
theorem xz{X:SX}{f:FC}(hA:AOk X.prog X.A)(hΦ:f4 X.prog X.w X.G f.c.g X.DT X.A X.Φ):∀ (cs:List (Nat × PEs)) (vs:List Expr),(gN f.c cs vs).2=true->Bk X f cs (gN f.c cs vs).1
 | [],_,_=>rfl
 |c::cs,vs,h=>by
  have h1:=bnd (bnd h).1
  have h2:=bnd h1.2
  have h3:=cL hA hΦ c.2 f.c.scope f.c.names _ h2.2
  exact ⟨_,_,_,rfl,⟨_,_,_,_,rfl,ode (bnd h1.1).1,(bnd h1.1).2,h2.1,h3.2,h3.1⟩,xz hA hΦ cs vs.tail (bnd h).2⟩
section
variable {X:SX}{f:FC}(hA:AOk X.prog X.A)(hΦ:f4 X.prog X.w X.G f.c.g X.DT X.A X.Φ)(K:dI f)(hT:jR X f)
include hA hΦ K hT
theorem GP(i:Nat)(e:PE)(st:Stmt)(h:(gS f.c (.assign i e) st).2=true):SS X f (.assign i e) (gS f.c (.assign i e) st).1:=by
 have h1:=bnd (bnd h).2
 rcases Bool.or_eq_true_iff.mp (bnd h).1 with hc|hc
 ·cases e with
  |comp elt tg caps it cond =>
   have h3:=h1.2
   have htg:=ode (bnd (bnd h3).1).1
   subst htg
   have hi:=lQ hA hΦ it f.c.scope f.c.names _ (bnd (bnd (bnd h3).2).2).1
   exact kC K h1.1 (mM (bnd (bnd h3).1).2) (bj hA hΦ elt _ _ _ (bnd (bnd h3).2).1).1 (ov hA hΦ cond _ _ _ (bnd (bnd (bnd h3).2).2).2) hi.1 hi.2
  |_=>exact (Hq hc).elim
 ·exact u4 K h1.1 (bj hA hΦ e f.c.scope f.c.names _ h1.2).1 hc
mutual
theorem Ew:(ps:PS)->∀ (st:Stmt),(gS f.c ps st).2=true->SS X f ps (gS f.c ps st).1
 | .skip,_,h=>(Hq h).elim
 | .seq _ _,_,h=>(Hq h).elim
 | .assign i e,st,h=>GP hA hΦ K hT i e st h
 | .unpack is e,_,h=>vc hA K (bnd (bnd h).1).1 (ode (bnd (bnd h).1).2) (bnd (bnd (bnd h).2).1).1 (bnd (bnd (bnd h).2).1).2 (bj hA hΦ e f.c.scope f.c.names _ (bnd (bnd h).2).2).1
 | .setidx i k e,_,h=>u7 K (bnd (bnd h).1).1 (bj hA hΦ k f.c.scope f.c.names _ (bnd (bnd h).2).1).1 (bj hA hΦ e f.c.scope f.c.names _ (bnd (bnd h).2).2).1 (bnd (bnd h).1).2
 | .app i e,_,h=>D3 K (bnd (bnd h).1).1 rfl (ode (bnd (bnd h).1).2) (bnd (bnd h).2).1 (bj hA hΦ e f.c.scope f.c.names _ (bnd (bnd h).2).2).1
 | .pop i,_,h=>Dm K (bnd h).1 rfl (ode (bnd h).2)
 | .rev i,_,h=>DW K (bnd h).1 rfl (ode (bnd h).2)
 | .ret e,_,h=>Fa K (bj hA hΦ e f.c.scope f.c.names _ h).1
 | .ite c a b,_,h=>EF K (bj hA hΦ c f.c.scope f.c.names _ (bnd h).1).2 (ja a _ (bnd (bnd h).2).1) (ja b _ (bnd (bnd h).2).2)
 | .whl c b,_,h=>DQ K (bj hA hΦ c f.c.scope f.c.names _ (bnd h).1).2 (ja b _ (bnd h).2)
 | .forr i it b,_,h=>zJ K (bnd h).1 (lQ hA hΦ it f.c.scope f.c.names _ (bnd (bnd h).2).1).1 (lQ hA hΦ it f.c.scope f.c.names _ (bnd (bnd h).2).1).2 (ja b _ (bnd (bnd h).2).2)
 | .raise k,st,h=>fun W s α ρ H N R Y E hW T F HR' hY q=>wpAny_mono (hY k _ s.heap s.toks [] H ρ ⟨_,_,_,_,_,_,_,rfl,ode (bnd h).1,(bnd h).2⟩ .refl (fun b o e=>⟨o,e⟩) (by simpa using HR') (by simpa using F) q) (fun _ _ f=>f.elim) fun _ _ e=>e
 | .opaq,_,h=>(Hq h).elim
 | .iort cs,_,h=>zm K hT (xz hA hΦ cs _ h)
 | .randt [],_,h=>(Hq h).elim
 | .randt (c::cs),_,h=>yQ K hT (y7 hA hΦ (c::cs) _ h)
theorem ja:(ps:PS)->∀ (sts:List Stmt),(gB f.c ps sts).2=true->SB X f ps (gB f.c ps sts).1
 | .skip,_,_=>wx K
 | .seq a b,_,h=>AT K (Ew a _ (bnd h).1) (ja b _ (bnd h).2)
 | .opaq,_,_=>fun W s α ρ H N R Y E hW T F HR' hY q=>(show False from q).elim
 | .assign _ _,_,h=>(Hq h).elim
 | .unpack _ _,_,h=>(Hq h).elim
 | .setidx _ _ _,_,h=>(Hq h).elim
 | .app _ _,_,h=>(Hq h).elim
 | .pop _,_,h=>(Hq h).elim
 | .rev _,_,h=>(Hq h).elim
 | .ret _,_,h=>(Hq h).elim
 | .ite _ _ _,_,h=>(Hq h).elim
 | .whl _ _,_,h=>(Hq h).elim
 | .forr _ _ _,_,h=>(Hq h).elim
 | .raise _,_,h=>(Hq h).elim
 | .iort _,_,h=>(Hq h).elim
 | .randt _,_,h=>(Hq h).elim
end
end
theorem bg:∀ (names:List (Str × NameKind)) (n:Nat) (acc:List (Str × Addr)) (x:Str),(names.lookup x=some NameKind.cell\/∃a,acc.lookup x=some a)->∃a,(cellsFrom n names acc).lookup x=some a
 | [],n,acc,x,h=>by
  rcases h with h|h
  ·simp at h
  ·exact h
 | (y,k)::r,n,acc,x,h=>by
  unfold cellsFrom
  by_cases hxy:x=y
  ·subst hxy
   rcases h with h | ⟨a,h⟩
   ·rw[JN] at h;cases h
    rw[if_pos (by rfl)]
    exact bg r _ _ x (.inr ⟨n,by rw[JN]⟩)
   ·by_cases hk:(k == NameKind.cell)=true
    ·rw[if_pos hk];exact bg r _ _ x (.inr ⟨n,by rw[JN]⟩)
    ·rw[if_neg hk];exact bg r _ _ x (.inr ⟨a,h⟩)
  ·have hne:(x == y)=false:=by simpa using hxy
   have h':r.lookup x=some NameKind.cell\/∃a,acc.lookup x=some a:=by
    rcases h with h|h
    ·rw[HY,hne] at h;exact .inl h
    ·exact .inr h
   by_cases hk:(k == NameKind.cell)=true
   ·rw[if_pos hk]
    refine bg r _ _ x ?_
    rcases h' with h' | ⟨a,h'⟩
    ·exact .inl h'
    ·exact .inr ⟨a,by rw[HY,hne];exact h'⟩
   ·rw[if_neg hk];exact bg r _ _ x h'
theorem eN:∀ (names:List (Str × NameKind)) (n:Nat) (acc:List (Str × Addr)),(cellsFrom n names acc).map (·.1)=((names.filter fun x=>x.2 == NameKind.cell).map (·.1)).reverse++acc.map (·.1)
 | [],n,acc=>by simp[cellsFrom]
 | (y,k)::r,n,acc=>by
  unfold cellsFrom
  by_cases hk:(k == NameKind.cell)=true
  ·rw[if_pos hk,eN r];simp[hk]
  ·rw[if_neg hk,eN r];simp[hk]
theorem dY{β:Type}:∀ (l:List (Str × β)) (x:Str) (v:β),(l.map (·.1)).Nodup->(x,v)∈l->l.lookup x=some v
 | [],_,_,_,h=>by simp at h
 | (y,u)::r,x,v,hn,h=>by
  rw[Hw,List.nodup_cons] at hn
  rcases HM.mp h with h|h'
  ·cases h;rw[JN]
  ·have hne:(x == y)=false:=by
    simp only[beq_eq_false_iff_ne]
    intro e;subst e
    exact hn.1 (HP.mpr ⟨_,h',rfl⟩)
   rw[HY,hne];exact dY r x v hn.2 h'
theorem lm{k:Str->Option NameKind}:∀ (binds:List (Str × Value)) (m:Str->Option Value) (x:Str),x ∉ binds.map (·.1)->bindL k binds m x=m x
 | [],_,_,_=>rfl
 | (n,v)::r,m,x,h=>by
  simp only[Hw,HM,not_or] at h
  unfold bindL
  rw[lm r _ x h.2]
  split
  ·exact if_neg h.1
  ·rfl
theorem mO{k:Str->Option NameKind}:∀ (binds:List (Str × Value)) (m:Str->Option Value) (x:Str) (v:Value),(binds.map (·.1)).Nodup->(x,v)∈binds->k x=some .local->bindL k binds m x=some v
 | [],_,_,_,_,h,_=>by simp at h
 | (n,u)::r,m,x,v,hn,h,hk=>by
  rw[Hw,List.nodup_cons] at hn
  unfold bindL
  rcases HM.mp h with h|h
  ·cases h
   rw[lm r _ _ hn.1,if_pos hk];exact if_pos rfl
  ·exact mO r _ x v hn.2 h hk
theorem lR{k:Str->Option NameKind}:∀ (binds:List (Str × Value)) (m:Str->Option Value) (x:Str),x ∉ binds.map (·.1)->bindC k binds m x=m x
 | [],_,_,_=>rfl
 | (n,v)::r,m,x,h=>by
  simp only[Hw,HM,not_or] at h
  unfold bindC
  rw[lR r _ x h.2]
  split
  ·rfl
  ·exact if_neg h.1
theorem mS{k:Str->Option NameKind}:∀ (binds:List (Str × Value)) (m:Str->Option Value) (x:Str) (v:Value),(binds.map (·.1)).Nodup->(x,v)∈binds->k x≠some .local->bindC k binds m x=some v
 | [],_,_,_,_,h,_=>by simp at h
 | (n,u)::r,m,x,v,hn,h,hk=>by
  rw[Hw,List.nodup_cons] at hn
  unfold bindC
  rcases HM.mp h with h|h
  ·cases h
   rw[lR r _ _ hn.1,if_neg hk];exact if_pos rfl
  ·exact mS r _ x v hn.2 h hk
structure jC (gc:GC)(d:cW)(f:Fn)(vs:List Str):Prop where
 nodup:vs.Nodup
 kind:d.scope.kind=.function
 coro:d.scope.isCoroutine=false
 gen:d.scope.isGenerator=false
 nofree:∀x,d.scope.names.lookup x≠some NameKind.free
 uniq:((d.scope.names.filter fun x=>x.2 == NameKind.cell).map (·.1)).Nodup
 par:∀x∈vs.take f.np,d.scope.names.lookup x=some .local\/d.scope.names.lookup x=some .cell
 bind:∀ (pm cd doc:Value) (vals:List Value),vals.length=f.np->bindArgs (docDef d.name d.params d.body d.scope pm cd doc) ⟨vals,[]⟩=pure ((vs.take f.np).zip vals)
 body:gB ⟨gc,d.scope,vs⟩ f.body d.body=(d.body,true)
theorem qa{gc:GC}{d:cW}{f:Fn}{vs:List Str}(D:jC gc d f vs)(L a:Addr)(cd:Value):bP ⟨gc,d.scope,vs⟩ (envOfC d.name d.scope L a cd) where
 kind:=D.kind
 globals:=rfl
 builtins:=rfl
 loc:=fun x e=>e
 glob:=fun x e=>e
 cel:=fun x e=>e
 fre:=fun x e=>absurd e (D.nofree x)
 cells:=fun x e=>by
  rcases e with e|e
  ·exact bg _ _ _ x (.inl e)
  ·exact absurd e (D.nofree x)
theorem ua{β:Type}:∀ {xs:List Str}{ys:List β}{i:Nat}{x:Str}{y:β},xs[i]?=some x->ys[i]?=some y->(x,y)∈xs.zip ys
 | [],_,_,_,_,h,_=>by simp at h
 |_::_,[],_,_,_,_,h=>by simp at h
 |_::_,_::_,0,_,_,h1,h2=>by simp at h1 h2;subst h1 h2;simp
 |_::_,_::_,i+1,_,_,h1,h2=>by
  simp at h1 h2
  simp only[List.zip_cons_cons,HM]
  exact .inr (ua h1 h2)
theorem qU{np nv:Nat}{vs:List V}{i:Nat}{d:V}(h:ah (cI np nv vs) i=some d):vs[i]?=some d:=by
 have key:∀ (l:List V) (n i:Nat),ah (l.map some++List.replicate n none) i=some d->l[i]?=some d:=fun l=>by
  induction l with
  |nil =>
   intro n
   induction n with
   |zero=>intro i h;cases h
   |succ n ih =>
    intro i h
    cases i with
    |zero=>cases h
    |succ i=>exact absurd (ih i h) (by simp)
  |cons x l ih =>
   intro n i h
   cases i with
   |zero=>exact h
   |succ i=>exact ih n i h
 exact key vs _ i h
structure Room (prog:Program)(A:Around)(n:Nat):Prop where
 handled:A.handled=none
 depth:A.depth+n+100<recursionLimit
 units:A.units+3*n+100<cLine
 tree:prog.given.tree=none
 frames:∃l,A.frames=some l
theorem Room.down{prog:Program}{A:Around}{n:Nat}{env:Env}(r:Room prog A (n+1)):Room prog (A.deeper env) n:=
 ⟨r.handled,rm1 r.depth,rm2 r.units,r.tree,by
  obtain ⟨l,e⟩:=r.frames
  exact ⟨env::l,by show A.frames.map (env :: ·)=_;rw[e];rfl⟩⟩
theorem Room.ok{prog:Program}{A:Around}{n:Nat}{env:Env}(r:Room prog A (n+1))(hg:env.scope.isGenerator=false)(hc:env.scope.isCoroutine=false)(hb:env.builtins=builtinsNs)(hm:env.globals=mainGlobals):AOk prog (A.deeper env):=by
 obtain ⟨l,e⟩:=r.frames
 refine ⟨r.handled,rm3 r.units,fun w s hl hs=>PylongRoom.of hl ?_ (SeerAt.of hs r.tree (env:=env) (l:=l) (by show A.frames.map (env :: ·)=_;rw[e];rfl) hg hc hb hm)⟩
 exact rm4 r.depth
section
variable {prog:Program}{w:World}{G:GV}{gc:GC}{DT:List cW}{P:List Fn}{sub:Nat->Nat->Bool}
theorem jQ{H H':Hp}(hs:∀n,n<H.length->H'[n]?=H[n]?)(hl:H.length<=H'.length):H'=H++H'.drop H.length:=by
 conv=>lhs;rw[<- List.take_append_drop H.length H']
 congr 1
 apply List.ext_getElem?
 intro n
 by_cases hn:n<H.length
 ·rw[List.getElem?_take,if_pos hn];exact hs n hn
 ·rw[List.getElem?_take,if_neg hn,List.getElem?_eq_none (by exact oqz [List.length H,n] [] [(.no (.le (Y1+1) Y0))] (.le Y0 Y1) [11] rfl hn)]
noncomputable def SCallC(prog:Program)(w:World)(G:GV)(gc:GC)(DT:List cW)(A:Around)(Φ:Call):Prop:=
 ∀ (f:Nat) (x:Str) (vs:List V) (H:Hp) (Q:V->Hp->Prop),gc.fns[f]?=some x->Φ f vs H Q (fun _ _=>False)->∀ (s:Shared) (α:List Addr) (vals:List Value) (E:Value->Shared->Prop),
  GF G gc DT s.heap->HR G α s.heap H->Reps G α s.heap vals vs->codeAny (model prog w) A (.call (.ref (G.fa f)) ⟨vals,[]⟩)
   (fun r s'=>match r with | .ok (.ret v)=>Post G (Rep G) s α H Q v s' | .ok _=>False | .error e=>E e s') s
theorem SCallC.wp{A:Around}{Φ:Call}(h:SCallC prog w G gc DT A Φ):f4 prog w G gc DT A Φ:=fun f x vs H Q hx hq s α vals E T R r=>wpAny_call (h f x vs H Q hx hq s α vals E T R r)
theorem mx{n:Nat}{A:Around}{Φ:Call}{f:Nat}{s:Shared}(hA:Room prog A (n+1))(hdefs:∀ (k:Nat) (d:cW) (f:Fn),DT[k]?=some d->P[k]?=some f->∃vs,jC gc d f vs)(hΦ:∀env,f4 prog w G gc DT (A.deeper env) Φ)
  (hT:∀ (d:cW) (vn:List Str) (cd:Value),DT[f]?=some d ->
   jR ⟨prog,w,G,DT,A.deeper (envOfC d.name d.scope s.heap.objs.size (G.fa f) cd),sub,Φ⟩ ⟨⟨gc,d.scope,vn⟩,envOfC d.name d.scope s.heap.objs.size (G.fa f) cd,s.heap⟩)
  {x:Str}{vs:List V}{H:Hp}{Q:V->Hp->Prop}{Y:Nat->Hp->Prop}{fd:Fn} (hx:gc.fns[f]?=some x) (hf:P[f]?=some fd) (hlen:vs.length=fd.np)
  (hw:wpS sub Φ (fun m=>H.length<=m) fd.body (cI fd.np fd.nv vs) H (fun _ H'=>Q .none H') Q Y) (α:List Addr) (vals:List Value) (E:Value->Shared->Prop)
  (hR:∀ (d:cW) (vn:List Str) (cd:Value) (h₁:Heap) (tk:Nat),DT[f]?=some d->jC gc d fd vn->KeepsH s.heap h₁->RaiseOk ⟨prog,w,G,DT,A.deeper (envOfC d.name d.scope s.heap.objs.size (G.fa f) cd),sub,Φ⟩ ⟨⟨gc,d.scope,vn⟩,envOfC d.name d.scope s.heap.objs.size (G.fa f) cd,s.heap⟩ (fun m=>H.length<=m)
   { s with heap:=h₁,toks:=tk } α H Y (fun e s'=>wpAny (model prog w) (A.deeper (envOfC d.name d.scope s.heap.objs.size (G.fa f) cd)) (leaving (envOfC d.name d.scope s.heap.objs.size (G.fa f) cd) e) (fun _ s''=>E e s'') (fun e' s''=>E e' s'') s'))
  (T:GF G gc DT s.heap) (R:HR G α s.heap H) (r:Reps G α s.heap vals vs):codeAny (model prog w) A (.call (.ref (G.fa f)) ⟨vals,[]⟩)
   (fun r s'=>match r with | .ok (.ret v)=>Post G (Rep G) s α H Q v s' | .ok _=>False | .error e=>E e s') s:=by
 refine dS (T.fn f x hx) fun hm d o pm cd doc hd hname ho hdata hcd=>?_
 obtain ⟨vn,D⟩:=hdefs f d fd hd hf
 have hvl:vals.length=fd.np:=r.len.trans hlen
 have hkindOf:∀ (x:Str),x∈vn.take fd.np->d.scope.names.lookup x=some .local\/(d.scope.names.lookup x=some .cell/\((cellsFrom (s.heap.objs.size+1) d.scope.names []).lookup x).isSome=true):=fun x hx=>by
  rcases D.par x hx with e|e
  ·exact .inl e
  ·obtain ⟨a,ha⟩:=bg d.scope.names (s.heap.objs.size+1) [] x (.inl e)
   exact .inr ⟨e,by rw[ha];rfl⟩
 have hmemz:∀y∈(vn.take fd.np).zip vals,y.1∈vn.take fd.np:=fun y hy=>(List.of_mem_zip (show (y.1,y.2)∈_ from hy)).1
 refine (call_cells (rm5 hA.depth) ho hdata T.nolimit hcd (D.bind pm cd doc vals hvl) (fun y hy=>hkindOf y.1 (hmemz y hy)) (fun h₁ tk Fr' Cl'=>?_) D.coro D.gen D.kind)
 let env:=envOfC d.name d.scope s.heap.objs.size (G.fa f) cd
 let fc:FC:=⟨⟨gc,d.scope,vn⟩,env,s.heap⟩
 let X:SX:=⟨prog,w,G,DT,A.deeper env,sub,Φ⟩
 have K:dI fc:=by
  refine ⟨qa D _ _ _,D.nodup,D.nofree,cO _,fun m a hm=>gA (JJ (Cl'.above m a hm)),Cl'.above,Cl'.apart,fun m a hm=>?_⟩
  refine dY _ _ _ ?_ hm
  show ((cellsFrom _ _ _).map (·.1)).Nodup
  rw[eN]
  rw[List.map_nil,List.append_nil]
  exact (List.reverse_perm _).nodup_iff.mpr D.uniq
 have hnd:(((vn.take fd.np).zip vals).map (·.1)).Nodup:=by
  refine List.Nodup.sublist ?_ (List.Nodup.sublist (List.take_sublist fd.np vn) D.nodup)
  have:∀ (a:List Str) (b:List Value),((a.zip b).map (·.1)).Sublist a:=fun a=>by
   induction a with
   |nil=>intro b;simp
   |cons x a ih=>intro b;cases b with
    |nil=>simp
    |cons y b=>simpa using ih b
  exact this _ _
 have hkeep:KeepsH s.heap h₁:=Fr'.keep
 have F:FrS G fc (fun m=>H.length<=m) h₁ α (cI fd.np fd.nv vs):=by
  refine ⟨⟨_,_,Fr'.ns,Cl',fun i y dv hi hd'=>?_⟩,hkeep,fun m a ha hm=>?_⟩
  ·have hvi:=qU hd'
   refine ac (r.get hvi) fun v hv rv=>?_
   have hil:i<fd.np:=by rw[<- hlen];exact (Hs.mp hvi).1
   have hyt:(vn.take fd.np)[i]?=some y:=by rw[List.getElem?_take,if_pos hil];exact hi
   have hz:(y,v)∈(vn.take fd.np).zip vals:=ua hyt hv
   refine ⟨v,?_,rv.mono (fun _ _ e=>e) (.of hkeep)⟩
   rcases hkindOf y (hmemz _ hz) with e | ⟨e,_⟩
   ·exact .inl ⟨e,mO _ _ _ _ hnd hz e⟩
   ·exact .inr ⟨e,mS _ _ _ _ hnd hz (by rw[show (envOfC d.name d.scope s.heap.objs.size (G.fa f) cd).kindOf y=some .cell from e];simp),bg _ _ _ y (.inl e)⟩
  ·have:=(Hs.mp ha).1
   rw[R.len] at this;exact absurd hm (Nat.not_le.mpr this)
 have hb:SB X fc fd.body (gB ⟨gc,d.scope,vn⟩ fd.body d.body).1:=ja (X:=X) (f:=fc) (hA.ok (env:=env) D.gen D.coro rfl rfl) (hΦ env) K (hT d vn cd hd) fd.body d.body (congrArg Prod.snd D.body)
 rw[D.body] at hb
 have hs:=hb (fun m=>H.length<=m) { s with heap:=h₁,toks:=tk } α _ H _ _ _ _
  (fun m hm=>Hj R.pos hm) T F (R.keeps hkeep) (hR d vn cd h₁ tk hd D hkeep) hw
 refine wpAny_mono hs (fun fl s' p=>?_) fun _ _ e=>e
 obtain ⟨h',tk',β,H',rfl,st,lv,R',pf⟩:=p
 have hH':H'=H++H'.drop H.length:=jQ (fun m hm=>st.same m hm (Nat.not_le.mpr hm)) st.le
 have fresh:∀b∈β,s.heap.get? b=none:=fun b hb=>by
  cases e:s.heap.get? b with
  |none=>rfl
  |some o'=>have:=st.fresh b hb;rw[show ({ s with heap:=h₁,toks:=tk }:Shared).heap.get? b=some o' from hkeep b o' e] at this;cases this
 cases fl with
 |next =>
  refine ac (pf) fun ρ' F' hN=>?_
  exact ⟨h',tk',β,_,.none,rfl,F'.kb,fresh,hH' ▸ R',Rep.none,hH' ▸ hN⟩
 |ret v =>
  refine rk (pf) fun kb dv rv hR=>?_
  exact ⟨h',tk',β,_,dv,rfl,kb,fresh,hH' ▸ R',rv,hH' ▸ hR⟩
 |_=>exact pf.elim
theorem mQ{n:Nat}{A:Around}{Φ:Call}{f:Nat}{s:Shared}(hA:Room prog A (n+1))(hdefs:∀ (k:Nat) (d:cW) (f:Fn),DT[k]?=some d->P[k]?=some f->∃vs,jC gc d f vs)(hΦ:∀env,f4 prog w G gc DT (A.deeper env) Φ)
  (hT:∀ (d:cW) (vn:List Str) (cd:Value),DT[f]?=some d ->
   jR ⟨prog,w,G,DT,A.deeper (envOfC d.name d.scope s.heap.objs.size (G.fa f) cd),sub,Φ⟩ ⟨⟨gc,d.scope,vn⟩,envOfC d.name d.scope s.heap.objs.size (G.fa f) cd,s.heap⟩)
  {x:Str}{vs:List V}{H:Hp}{Q:V->Hp->Prop}{fd:Fn} (hx:gc.fns[f]?=some x) (hf:P[f]?=some fd) (hlen:vs.length=fd.np)
  (hw:wpS sub Φ (fun m=>H.length<=m) fd.body (cI fd.np fd.nv vs) H (fun _ H'=>Q .none H') Q (fun _ _=>False)) (α:List Addr) (vals:List Value) (E:Value->Shared->Prop)
  (T:GF G gc DT s.heap) (R:HR G α s.heap H) (r:Reps G α s.heap vals vs):codeAny (model prog w) A (.call (.ref (G.fa f)) ⟨vals,[]⟩)
   (fun r s'=>match r with | .ok (.ret v)=>Post G (Rep G) s α H Q v s' | .ok _=>False | .error e=>E e s') s:=
 mx hA hdefs hΦ hT hx hf hlen hw α vals E (fun d vn cd h₁ tk _ _ _ k st h' tk' β H' ρ' _ _ _ _ _ hf=>hf.elim) T R r
theorem gv(hlenP:P.length=gc.fns.length)(hP:P.length<=1000)(hdefs:∀ (k:Nat) (d:cW) (f:Fn),DT[k]?=some d->P[k]?=some f->∃vs,jC gc d f vs) :
  ∀ (n:Nat) (A:Around),Room prog A n->SCallC prog w G gc DT A (ag sub P n)
 |0,A,_=>fun f x vs H Q _ h=>(show False from h).elim
 |n+1,A,hA=>fun f x vs H Q hx h s α vals E T R r=>by
  refine cw (h) fun fd hf hlen hw=>?_
  refine mQ hA hdefs (fun env=>(gv hlenP hP hdefs n _ hA.down).wp) (fun d vn cd _ k x vs H Q _ hk=>?_) hx hf hlen hw α vals E T R r
  ·replace hk:ag sub P n (k+1000) vs H Q (fun _ _=>False):=hk
   cases n with
   |zero=>exact (show False from hk).elim
   |succ n =>
    obtain ⟨d',hd',_⟩:=hk
    have:=(Hs.mp hd').1
    exact absurd this (Nat.not_lt.mpr (Hj hP (Jw _ _)))
end
theorem kE:∀ (ns:List Str) (vals:List Value),ns.Nodup->vals.length=ns.length->∀x∈ns,(((ns.zip vals).lookup x).isNone)=false
 | [],_,_,_,x,h=>by simp at h
 |n::ns,[],_,h,_,_=>by simp at h
 |n::ns,v::vals,hn,hl,x,hx=>by
  rw[List.zip_cons_cons]
  by_cases e:x=n
  ·subst e;rw[JN];rfl
  ·have:(x == n)=false:=by simpa using e
   rw[HY,this]
   rw[List.nodup_cons] at hn
   exact kE ns vals hn.2 (by simpa using hl) x (by simpa [e] using hx)
theorem lV:∀ (ns:List Str) (vals:List Value),ns.Nodup->vals.length=ns.length->(ns.filterMap fun n=>((ns.zip vals).lookup n).map (n,·))=ns.zip vals:=by
 have key:∀ (ms:List Str) (us:List Value) (f:Str->Option Value),us.length=ms.length->(∀n v,(n,v)∈ms.zip us->f n=some v)->(ms.filterMap fun n=>(f n).map (n,·))=ms.zip us:=fun ms=>by
  induction ms with
  |nil=>intro us f _ _;simp
  |cons n ms ih =>
   intro us f hl h
   cases us with
   |nil=>simp at hl
   |cons u us =>
    rw[List.filterMap_cons,h n u (by simp),List.zip_cons_cons]
    show (n,u)::_=_
    rw[ih us f (by simpa using hl) fun a b hab=>h a b (by simp[hab])]
 intro ns vals hn hl
 refine key ns vals _ hl fun n v h=>?_
 refine dY _ _ _ ?_ h
 have:(ns.zip vals).map (·.1)=ns:=List.map_fst_zip (by exact oqz [ns.length,vals.length] [] [(.eq Y1 Y0)] (.le Y0 Y1) [101] rfl hl)
 rw[this];exact hn
theorem sf{name:Str}{params:Arguments}{body:List Stmt}{scope:Scope}{pm cd doc:Value}{vals:List Value}{ns:List Str}
  (h1:params.posonlyargs=[]) (h2:params.vararg=none) (h3:params.kwonlyargs=[]) (h4:params.kwarg=none) (hns:params.args.map (·.arg)=ns) (hn:ns.Nodup) (hl:vals.length=ns.length) :
  bindArgs (docDef name params body scope pm cd doc) ⟨vals,[]⟩=pure (ns.zip vals):=by
 obtain ⟨po,ar,va,ko,kd,kw,df⟩:=params
 simp only at h1 h2 h3 h4 hns
 subst h1 h2 h3 h4
 subst hns
 dsimp only[bindArgs,docDef,List.map_nil,List.nil_append,List.append_nil]
 generalize List.map (fun x:Arg=>x.arg) ar=ns at hn hl ⊢
 have hf:(List.filter (fun n=>(List.lookup n (ns.zip vals)).isNone) ns)=[]:=by
  rw[List.filter_eq_nil_iff]
  intro x hx
  rw[kE _ _ hn hl x hx];simp
 have hg:=lV _ _ hn hl
 have hns:notAStandIn Value.none=pure ():=rfl
 dsimp [seqItems?]
 simp[hl,hns]
 have hc:¬ ((!(List.filter (fun n=>(List.lookup n (ns.zip vals)).isNone) (List.take (ns.length-(List.drop ((#[]:Array Value).size-ns.length) ([]:List Value)).length) ns)).isEmpty)=true):=by
  simp only[List.drop_nil,List.length_nil,Nat.sub_zero,List.take_length,hf];decide
 exact (if_neg hc).trans (congrArg pure hg)
end Mine
namespace Mine
open PySem PyProof.Rows PySem.Calls PySem.W
noncomputable def gg(r:DefRec):cW:=⟨r.name,r.params,r.body,r.scope⟩
noncomputable def si(gc:GC)(d:cW)(f:Fn)(vs:List Str):Bool:=
 decide vs.Nodup && decide (d.scope.kind=.function) && (d.scope.isCoroutine == false) && (d.scope.isGenerator == false) && d.scope.names.all (fun x=>decide (x.2≠NameKind.free)) &&
 decide ((d.scope.names.filter fun x=>x.2 == NameKind.cell).map (·.1)).Nodup &&
 (vs.take f.np).all (fun x=>decide (d.scope.names.lookup x=some NameKind.local) ||decide (d.scope.names.lookup x=some NameKind.cell)) &&
 d.params.posonlyargs.isEmpty && d.params.vararg.isNone && d.params.kwonlyargs.isEmpty && d.params.kwarg.isNone && decide (d.params.args.map (·.arg)=vs.take f.np) && decide (f.np<=vs.length)
theorem xO{gc:GC}{d:cW}{f:Fn}{vs:List Str}(h:si gc d f vs=true)(hb:gB ⟨gc,d.scope,vs⟩ f.body d.body=(d.body,true)):jC gc d f vs:=by
 unfold si at h
 simp only[Iu,IR,beq_iff_eq,List.isEmpty_iff,Option.isNone_iff_eq_none] at h
 obtain ⟨⟨⟨⟨⟨⟨⟨⟨⟨⟨⟨⟨h1,h2⟩,h3⟩,h4⟩,h5⟩,h6⟩,h7⟩,h8⟩,h9⟩,h10⟩,h11⟩,h12⟩,h13⟩:=h
 refine ⟨h1,h2,h3,h4,fun x e=>?_,h6,fun x hx=>?_,fun pm cd doc vals hv=>?_,hb⟩
 ·have:=Ki.mp h5 (x,NameKind.free) (Ks e)
  simp at this
 ·have:=Ki.mp h7 x hx
  simpa using this
 ·exact sf h8 h9 h10 h11 h12 (List.Nodup.sublist (List.take_sublist _ _) h1) (by rw[hv,Kk];exact oqz [f.np,min f.np vs.length,vs.length] [] [(.le Y0 Y2),(.or (.an (.le Y0 Y2) (.eq Y1 Y0)) (.an (.le Y2 Y0) (.eq Y1 Y2)))] (.eq Y0 Y1) [1001,1101,10001,10011] rfl h13 (Mine.oh (f.np) (vs.length)))
noncomputable def vZ(gc:GC):List cW->List Fn->List (List Str)->Bool
 | [],[],[]=>true
 |d::ds,f::fs,v::vs=>si gc d f v && vZ gc ds fs vs
 |_,_,_=>false
noncomputable def rM(gc:GC):List cW->List Fn->List (List Str)->List (List Stmt × Bool)
 |d::ds,f::fs,v::vs=>gB ⟨gc,d.scope,v⟩ f.body d.body::rM gc ds fs vs
 |_,_,_=>[]
structure Chk (gc:GC)(DT:List cW)(P:List Fn)(VT:List (List Str)):Prop where
 a:vZ gc DT P VT=true
 b:rM gc DT P VT=DT.map fun d=>(d.body,true)
theorem nZ{gc:GC}:∀ {DT:List cW}{P:List Fn}{VT:List (List Str)},Chk gc DT P VT->P.length=DT.length/\∀ (k:Nat) (d:cW) (f:Fn),DT[k]?=some d->P[k]?=some f->∃vs,jC gc d f vs
 | [],[],[],_=>⟨rfl,fun k d f h=>by simp at h⟩
 |d::ds,f::fs,v::vs,h=>by
  have h1:=HU.mp h.a
  have h2:=Kn h.b
  obtain ⟨hl,hr⟩:=nZ ⟨h1.2,h2.2⟩
  refine ⟨by simp[hl],fun k d' f' e1 e2=>?_⟩
  cases k with
  |zero=>simp at e1 e2;subst e1 e2;exact ⟨v,xO h1.1 h2.1⟩
  |succ k=>simp at e1 e2;exact hr k d' f' e1 e2
 | [],[],_::_,h=>(Hq h.a).elim
 | [],_::_,_,h=>(Hq h.a).elim
 |_::_,[],_,h=>(Hq h.a).elim
 |_::_,_::_,[],h=>(Hq h.a).elim
theorem uU{G:GV}{α:List Addr}{h:Heap}{vs:List Value}{ns:List Int}(r:IntsAre vs ns):Reps G α h vs (ns.map .int):=by
 induction r with
 |nil=>exact .nil
 |cons n t r ih=>exact .cons (.int n t) ih
noncomputable def cj(mg:Str->Option Value)(fns:List Str)(k:Nat):Addr:=match fns[k]? with|some x=>(match mg x with|some (.ref a)=>a|_=>0) |none=>0
section
variable {prog:Program}{view:Program}{loose:List Str}{mean:ExcName->Option Value}{mg mb:Str->Option Value}
theorem wX{h:Heap}{gc:GC}(T:Top view loose mean mg mb h)(hfns:gc.fns=(recsOf view).map (·.name))  (hglobs:gc.globs=[])(hseer:importsNone view=true)
  (hblt:(bltNames.all fun x=>!startupNames.contains x && !loose.contains x && !((recsOf view).map (·.name)).contains x && !((litsOf view).map (·.1)).contains x && !((clssOf view loose).map (·.name)).contains x && decide (x ≠ "__name__"))=true) :
  GF ⟨mg,mb,cj mg gc.fns,fun _=>.none⟩ gc ((recsOf view).map gg) h where
 g:=T.g
 b:=T.b
 nolimit:=T.nolimit
 seer:=T.seer hseer
 fn:=fun k x e=>by
  have e0:=e
  rw[hfns,HL] at e
  cases hr:(recsOf view)[k]? with
  |none=>rw[hr] at e;simp at e
  |some r =>
   rw[hr] at e;simp at e;subst e
   refine oU (T.fn r (IG hr)) fun a o pm cd doc h1 h2 h3 h4=>?_
   have hfa:cj mg gc.fns k=a:=by unfold cj;rw[e0];simp[h1]
   refine ⟨by show mg r.name=some (.ref (cj mg gc.fns k));rw[hfa];exact h1,gg r,o,pm,cd,doc,by rw[HL,hr];rfl,rfl,?_,h3,h4⟩
   show h.get? (cj mg gc.fns k)=some o
   rw[hfa];exact h2
 blt:=fun x hx=>by
  have:=Ki.mp hblt x hx
  simp only[Iu,Bool.not_eq_true',IR] at this
  obtain ⟨⟨⟨⟨⟨h1,h2⟩,h3⟩,h4⟩,h5⟩,h6⟩:=this
  have nm:∀ {l:List Str},l.contains x=false->x ∉ l:=fun {l} h hm=>by
   rw[List.contains_iff_mem.mpr hm] at h;cases h
  exact ⟨T.free x (nm h1) (nm h2) (nm h3) (nm h4) (nm h5),T.builtins x h6⟩
 glob:=fun x a b e=>by rw[hglobs] at e;simp at e
theorem kZ{prog:Program}{n:Nat}(ht:prog.given.tree=none)(hn:n<=500):Room prog callerA n:=⟨rfl,by show 1+300+n+100<1000;exact oqz [n] [] [(.le Y0 500)] (.le (301+Y0+100+1) 1000) [11] rfl hn,by show 4+3*n+100<9900;exact oqz [n] [] [(.le Y0 500)] (.le (.a (.a (.a 4 (.m 3 Y0)) 100) 1) 9900) [31] rfl hn,ht,[],rfl⟩
end
end Mine
namespace Mine
open PySem
noncomputable def Sm(k:Nat)(x:Int):Prop:=x.natAbs<2^k
theorem Sm.mono{k l:Nat}{x:Int}(h:Sm k x)(hl:k<=l):Sm l x:=J3 h (Ib (by decide) hl)
theorem Sm.mul{k l:Nat}{x y:Int}(h1:Sm k x)(h2:Sm l y):Sm (k+l) (x*y):=by
 unfold Sm at *
 rw[HV,Jn]
 exact Nat.mul_lt_mul'' h1 h2
theorem Sm.add{k:Nat}{x y:Int}(h1:Sm k x)(h2:Sm k y):Sm (k+1) (x+y):=by
 unfold Sm at *
 rw[Jx];exact oqz [(x+y).natAbs,2^k,x.natAbs,y.natAbs] [x,y] [(.le (Y2+1) Y1),(.le (Y3+1) Y1),(.an (.il Y0 (.c Y2)) (.il (.g Y0) (.c Y2))),(.an (.il Y1 (.c Y3)) (.il (.g Y1) (.c Y3))),(ona (Y0+Y1) Y0)] (.le (Y0+1) (.r Y1 2)) [100101111,101010111] rfl h1 h2 (bo (x)) (bo (y)) (bm (x+y))
theorem Sm.sub{k:Nat}{x y:Int}(h1:Sm k x)(h2:Sm k y):Sm (k+1) (x-y):=by
 unfold Sm at *
 rw[Jx];exact oqz [(x-y).natAbs,2^k,x.natAbs,y.natAbs] [x,y] [(.le (Y2+1) Y1),(.le (Y3+1) Y1),(.an (.il Y0 (.c Y2)) (.il (.g Y0) (.c Y2))),(.an (.il Y1 (.c Y3)) (.il (.g Y1) (.c Y3))),(ona (.s Y0 Y1) Y0)] (.le (Y0+1) (.r Y1 2)) [101001111,100110111] rfl h1 h2 (bo (x)) (bo (y)) (bm (x-y))
theorem Sm.neg{k:Nat}{x:Int}(h1:Sm k x):Sm k (-x):=by
 unfold Sm at *;exact oqz [(-x).natAbs,2^k,x.natAbs] [x] [(.le (Y2+1) Y1),(.an (.il Y0 (.c Y2)) (.il (.g Y0) (.c Y2))),(ona (.g Y0) Y0)] (.le (Y0+1) Y1) [101011,100111] rfl h1 (bo (x)) (bm (-x))
theorem Sm.bits{k:Nat}{x:Int}(h:Sm k x):Builtin.Int.intBits x<=k:=by
 unfold Builtin.Int.intBits
 split
 ·exact HQ _
 ·rename_i hx
  have:x.natAbs≠0:=by simpa using hx
  exact (Nat.log2_lt this).mpr h
theorem IntMulOk.left{a b:Int}(h:Sm 64 a):IntMulOk a b:=IntMulOk.of_left h.bits
theorem IntMulOk.right{a b:Int}(h:Sm 64 b):IntMulOk a b:=IntMulOk.of_right h.bits
theorem IntMulOk.sum{k l:Nat}{a b:Int}(h1:Sm k a)(h2:Sm l b)(h:k+l<=134217728):IntMulOk a b:=by
 have e:(2:Nat)^27=134217728:=by decide
 have b1:=h1.bits
 have b2:=h2.bits
 have h3:Builtin.Int.intTooBig (Builtin.Int.intBits a+Builtin.Int.intBits b)=false:=by
  unfold Builtin.Int.intTooBig bitsLine
  exact decide_eq_false (by exact oqz [Builtin.Int.intBits a,Builtin.Int.intBits b,k,l] [] [(.le (Y2+Y3) 134217728),(.le Y0 Y2),(.le Y1 Y3)] (.no (.il (.a (.c 134217728) 1) (.a (.c Y0) (.c Y1)))) [1111] rfl h b1 b2)
 unfold IntMulOk
 rw[h3];simp
theorem IntMulOk.sm{k l:Nat}{a b:Int}(h1:Sm k a)(h2:Sm l b)(hk:k<=67108864)(hl:l<=67108864):IntMulOk a b:=IntMulOk.sum h1 h2 (Nat.add_le_add hk hl)
theorem gu{a b:Int}(hb:b≠0):(a.fmod b).natAbs<b.natAbs:=by
 rcases Int.lt_or_gt_of_ne hb with h|h
 ·have h1:a.fmod b=-((-a).fmod (-b)):=by rw[Int.neg_fmod_neg];exact oqz [] [a.fmod b] [] (.ie Y0 (.g (.g Y0))) [1] rfl
  have h2:=J7 (-a) (b:=-b) (by exact oqz [] [b] [(.il (Y0+1) 0)] (.il (0+1) (.g Y0)) [11] rfl h)
  have h3:=Int.fmod_lt_of_pos (-a) (b:=-b) (by exact oqz [] [b] [(.il (Y0+1) 0)] (.il (0+1) (.g Y0)) [11] rfl h)
  exact oqz [(a.fmod b).natAbs,b.natAbs] [a.fmod b,b,(-a).fmod (-b)] [(.ie Y0 (.g Y2)),(.il 0 Y2),(.il (Y2+1) (.g Y1)),(.an (.il Y1 (.c Y1)) (.il (.g Y1) (.c Y1))),(ona Y0 Y0)] (.le (Y0+1) Y1) [101012011,101010101] rfl h1 h2 h3 (bo (b)) (bm (a.fmod b))
 ·have h2:=J7 a h
  have h3:=Int.fmod_lt_of_pos a h
  exact oqz [(a.fmod b).natAbs,b.natAbs] [a.fmod b,b] [(.il 0 Y0),(.il (Y0+1) Y1),(.an (.il Y1 (.c Y1)) (.il (.g Y1) (.c Y1))),(ona Y0 Y0)] (.le (Y0+1) Y1) [1001101,1001121] rfl h2 h3 (bo (b)) (bm (a.fmod b))
theorem xo{a b:Int}:b.gcd (a.fmod b)=a.gcd b:=by
 rw[Int.fmod_def,Int.gcd_comm,Ir,Int.gcd_sub_mul_right_left]
theorem ai{β:Type}(H:List β)(x:β)(K:List β):(H++x::K)[H.length]?=some x:=by simp
theorem dK{β:Type}(H:List β)(x y:β)(K:List β):(H++x::y::K)[H.length+1]?=some y:=by
 rw[HN (by exact oqz [H.length] [] [] (.le Y0 (Y0+1)) [1] rfl)];simp
theorem cT{β:Type}(H:List β)(x y:β)(K:List β):(H++x::K).set H.length y=H++y::K:=by simp
theorem ao{β:Type}{H H':List β}{n:Nat}{x:β}(h:H<+:H')(e:H[n]?=some x):H'[n]?=some x:=by
 obtain ⟨K,rfl⟩:=h
 rw[HI (Hs.mp e).1];exact e
theorem af{β:Type}(H K:List β):H<+:H++K:=⟨K,rfl⟩
theorem ad{β:Type}{A B C:List β}(h1:A<+:B)(h2:B<+:C):A<+:C:=List.IsPrefix.trans h1 h2
theorem ye(b:Int):dM 0 b 1=(List.range b.toNat).map fun (i:Nat)=>(i:Int):=by
 unfold dM
 have:(Builtin.Range.rangeSize 0 b 1).toNat=b.toNat:=by
  unfold Builtin.Range.rangeSize
  simp
  first|done|exact oqz [(if 0<b then b else 0).toNat,b.toNat] [if 0<b then b else 0,b] [(.or (.an (.il (0+1) Y1) (.ie Y0 Y1)) (.an (.no (.il (0+1) Y1)) (.ie Y0 0))),(otn Y0 Y0),(otn Y1 Y1)] (.eq Y0 Y1) [101001001,100000001,11010,100000011,1000100101,10000010,100101,100001] rfl (Mine.sk (0<b) (b) (0)) (aR (if 0<b then b else 0)) (aR (b)) | (split <;> omega)
 rw[this]
 apply Jj
 intro i _;exact oqz [i] [] [] (.ie (.a 0 (.m 1 (.c Y0))) (.c Y0)) [1] rfl
end Mine
namespace Mine
theorem bx{body:Loc->Hp->(Loc->Hp->Prop)->Prop}{i:Nat}{N:Loc->Hp->Prop}(I:List V->Loc->Hp->Prop)
  (step:∀ (x:V) (xs:List V) (ρ:Loc) (H:Hp) (k:Loc->Hp->Prop),I (x::xs) ρ H->(∀ρ' H',I xs ρ' H'->k ρ' H')->body (aE ρ i x) H k) (fin:∀ρ H,I [] ρ H->N ρ H) :
  ∀ (xs:List V) (ρ:Loc) (H:Hp),I xs ρ H->cY body i xs ρ H N
 | [],ρ,H,h=>fin ρ H h
 |x::xs,ρ,H,h=>step x xs ρ H _ h fun ρ' H' h'=>bx I step fin xs ρ' H' h'
end Mine
namespace Mine
open PySem
theorem ji{b:Int}{H:Hp}{Q:List V->Option Nat->Hp->Prop}(hb:cG b)(h:Q ((List.range' 0 b.toNat).map fun (i:Nat)=>V.int (i:Int)) none H):oN [.int b] H Q:=by
 refine ⟨0,b,1,rfl,by unfold cG;decide,hb,.inl rfl,?_⟩
 rw[ye,Ia,List.range_eq_range'];exact h
theorem yk{a b:Int}{H:Hp}{Q:List V->Option Nat->Hp->Prop}(ha:cG a)(hb:cG b)(h:Q ((List.range' 0 (b-a).toNat).map fun (i:Nat)=>V.int (a+(i:Int))) none H):oN [.int a,.int b] H Q:=by
 refine ⟨a,b,1,rfl,ha,hb,.inl rfl,?_⟩
 have:dM a b 1=(List.range (b-a).toNat).map fun (i:Nat)=>a+(i:Int):=by
  unfold dM
  have:(Builtin.Range.rangeSize a b 1).toNat=(b-a).toNat:=by
   unfold Builtin.Range.rangeSize
   simp
   first|done | (exact oqz [(if a<b then b-a else 0).toNat,(b-a).toNat] [if a<b then b-a else 0,a,b] [(.or (.an (.il (Y1+1) Y2) (.ie Y0 (.s Y2 Y1))) (.an (.no (.il (Y1+1) Y2)) (.ie Y0 0))),(otn Y0 Y0),(otn (.s Y2 Y1) Y1)] (.eq Y0 Y1) [101001001,100000001,11010,100000011,1000100101,10000010,100101,100001] rfl (Mine.sk (a<b) (b-a) (0)) (aR (if a<b then b-a else 0)) (aR (b-a))) | (split <;> omega)
  rw[this]
  apply Jj
  intro i _;exact oqz [i] [a] [] (.ie (.a Y0 (.m 1 (.c Y0))) (.a Y0 (.c Y0))) [1] rfl
 rw[this,Ia,List.range_eq_range'];exact h
theorem Sm.pow{k:Nat}{x:Int}(h:Sm k x):∀n:Nat,Sm (k*n+1) (x^n)
 |0=>by rw[ID];unfold Sm;simp
 |n+1=>by
  rw[Ig]
  exact Sm.mono (Sm.mul (Sm.pow h n) h) (by rw[Nat.mul_succ];exact oqz [k*n,k] [] [] (.le (Y0+1+Y1) (Y0+Y1+1)) [1] rfl)
end Mine
namespace Mine
theorem aH{i:Int}(h1:-1000000<=i)(h2:i<=1000000):cG i:=by
 have e:(2:Int)^40=1099511627776:=by decide
 unfold cG
 rw[e];exact oqz [] [i] [(.il (.g 1000000) Y0),(.il Y0 1000000)] (.an (.il (.a (.g 1099511627776) 1) Y0) (.il (Y0+1) 1099511627776)) [11,101] rfl h1 h2
end Mine
namespace Mine
open PySem
theorem gn:∀xs ys:List Int,PyData.eqvAll (xs.map .int) (ys.map .int)=decide (xs=ys)
 | [],[]=>rfl
 | [],_::_=>rfl
 |_::_,[]=>rfl
 |x::xs,y::ys=>by
  simp only[Hw,PyData.eqvAll,PyData.eqv,gn xs ys,List.cons.injEq]
  by_cases h:x=y <;> simp[h]
theorem u9{H:Hp}{k l:Nat}{cs ds:List Int}{Q:Bool->Prop}(h1:H[k]?=some (cs.map .int))(h2:H[l]?=some (ds.map .int))(h:Q (decide (cs=ds))):sv (.lst k) (.lst l) H Q:=
 ⟨_,_,.inr ⟨_,_,rfl,h1,rfl⟩,.inr ⟨_,_,rfl,h2,rfl⟩,by rw[PyData.eqv,gn];exact h⟩
theorem ix3{o:Option (List V)}{xs:List V}{k:Int}{i:Nat}{v:V}{Q:V->Prop}(e:o=some xs)(p:cf xs.length k=some i)(g:xs[i]?=some v)(q:Q v):ifSome o fun xs=>ifSome (cf xs.length k) fun i=>ifSome xs[i]? fun v=>Q v:=
 ifSome.mk e (ifSome.mk p (ifSome.mk g q))
theorem ix2{o:Option (List V)}{xs:List V}{k:Int}{i:Nat}{Q:List V->Nat->Prop}(e:o=some xs)(p:cf xs.length k=some i)(q:Q xs i):ifSome o fun xs=>ifSome (cf xs.length k) fun i=>Q xs i:=
 ifSome.mk e (ifSome.mk p q)
section
variable {a b:Int}{m n:Nat}{H:Hp}{Q:V->Hp->Prop}{x y:V}{xs ys:List V}
theorem b9:gj .add (.int a) (.int b) H Q=Q (.int (a+b)) H:=rfl
theorem DK:gj .add (.lst m) (.lst n) H Q=ifSome H[m]? fun xs=>ifSome H[n]? fun ys=>xs.length+ys.length<=lim/\Q (.lst H.length) (H++[xs++ys]):=rfl
theorem cQ:gj .sub (.int a) (.int b) H Q=Q (.int (a-b)) H:=rfl
theorem cD:gj .mul (.int a) (.int b) H Q=(IntMulOk a b/\Q (.int (a*b)) H):=rfl
theorem nW:gj .fdiv (.int a) (.int b) H Q=(iK b/\Q (.int (a.fdiv b)) H):=rfl
theorem yG:gj .mod (.int a) (.int b) H Q=(b≠0/\Q (.int (a.fmod b)) H):=rfl
theorem Gi:gj .pow (.int a) (.int b) H Q=(0<=b/\b<=1000/\a.natAbs<2^64/\Q (.int (a^b.toNat)) H):=rfl
theorem fJ:fH .lt (.int a) (.int b) H Q=Q (.bool (decide (a<b))) H:=rfl
theorem vE:fH .le (.int a) (.int b) H Q=Q (.bool (decide (a<=b))) H:=rfl
theorem kJ:fH .gt (.int a) (.int b) H Q=Q (.bool (decide (b<a))) H:=rfl
theorem l9:fH .ge (.int a) (.int b) H Q=Q (.bool (decide (b<=a))) H:=rfl
theorem fA:fH .eq (.int a) (.int b) H Q=Q (.bool (decide (a=b))) H:=rfl
theorem l4:fH .ne (.int a) (.int b) H Q=Q (.bool (!decide (a=b))) H:=rfl
theorem FE:fH .eq (.tup xs) y H Q=sv (.tup xs) y H fun b=>Q (.bool b) H:=rfl
theorem Ft:fH .ne (.lst m) y H Q=sv (.lst m) y H fun b=>Q (.bool (!b)) H:=rfl
theorem Ce:kO .abs [.int a] H Q=Q (.int (if a<0 then -a else a)) H:=rfl
theorem fM:kO .len [.tup xs] H Q=Q (.int xs.length) H:=rfl
theorem cS:kO .len [.lst m] H Q=ifSome H[m]? fun xs=>Q (.int xs.length) H:=rfl
theorem kP{t:Bool}:kO .int [.bool t] H Q=Q (.int (if t then 1 else 0)) H:=rfl
theorem i8:kO .list [x] H Q=ifSome (items H x) fun xs=>Q (.lst H.length) (H++[xs]):=rfl
theorem kj:kO .tuple [x] H Q=ifSome (items H x) fun xs=>Q (.tup xs) H:=rfl
theorem Gn:kO .min [.int a,.int b] H Q=Q (.int (if b<a then b else a)) H:=rfl
theorem bu:d8 (.tup [x,y]) (.int 0) H Q=Q x H:=rfl
theorem bT:d8 (.tup [x,y]) (.int 1) H Q=Q y H:=rfl
theorem d9{z:V}:d8 (.tup [x,y,z]) (.int 0) H Q=Q x H:=rfl
theorem dQ{z:V}:d8 (.tup [x,y,z]) (.int 1) H Q=Q y H:=rfl
theorem dP{z:V}:d8 (.tup [x,y,z]) (.int 2) H Q=Q z H:=rfl
theorem bZ{k:Int}:d8 (.lst m) (.int k) H Q=ifSome H[m]? fun xs=>ifSome (cf xs.length k) fun i=>ifSome xs[i]? fun v=>Q v H:=rfl
theorem EZ{lo hi:Option V}:mL (.lst m) lo hi H Q=ifSome H[m]? fun xs=>ifSome (sJ xs.length lo hi) fun p=>Q (.lst H.length) (H++[cut xs p.1 p.2]):=rfl
theorem aU{t:Bool}:ba H (.bool t)=some t:=rfl
theorem G8:ba H (.lst m)=(H[m]?).map fun xs=>!xs.isEmpty:=rfl
theorem my:items H (.tup xs)=some xs:=rfl
theorem d6:items H (.lst m)=H[m]?:=rfl
theorem cq:mH 1 x=some [some x]:=rfl
theorem nT:jL (.lst m)=some m:=rfl
theorem Dw:jL (.tup xs)=none:=rfl
theorem EU{a:Int}:sJ n (some (.int a)) none=some (cx n a,n):=rfl
theorem Bo{a:Int}:sJ n none (some (.int a))=some (0,cx n a):=rfl
end
end Mine
namespace Mine
theorem aB{v:V}{l:List V}:List.map some (v::l)=some v::List.map some l:=rfl
theorem az:List.map some ([]:List V)=[]:=rfl
theorem aw{v:Option V}{l m:Loc}:v::l++m=v::(l++m):=rfl
theorem av{m:Loc}:([]:Loc)++m=m:=rfl
theorem aM{n:Nat}:List.replicate (n+1) (none:Option V)=none::List.replicate n none:=rfl
theorem aA:List.replicate 0 (none:Option V)=[]:=rfl
theorem au{a b:Nat}{vs:List V}:cI a b vs=List.map some vs++List.replicate (b-a) none:=rfl
theorem eJ{v:V}{l:List V}:(v::l).length=l.length+1:=rfl
theorem bw{A B:Prop}:(if true=true then A else B)=A:=rfl
theorem bK{A B:Prop}:(if false=true then A else B)=B:=rfl
theorem ix{A B:Prop}:(if false=false then A else B)=A:=rfl
theorem lX:(!true)=false:=rfl
theorem Dz:[true].any id=true:=rfl
theorem Gr:decide (((2:Nat):Int)=2)=true:=rfl
theorem Dk:(!false)=true:=rfl
end Mine
namespace Mine
open PySem PyProof.Rows PySem.Calls PySem.W
section
variable {prog:Program}{w:World}
theorem vR(htree:prog.given.tree=none){s:Shared}{gc:GC}{G:GV}{DT:List cW}{P:List Fn}{VT:List (List Str)}{sub:Nat->Nat->Bool}{Ψ:Nat->List V->Hp->(V->Hp->Prop)->Prop}(F:GF G gc DT s.heap)(hlen:gc.fns.length=DT.length)(hchk:Chk gc DT P VT)
  {l:Addr}{vs:List Value}{ns:List Int} (hP1:P.length<=1000) (hl:s.heap.IsList l vs.toArray) (hI:IntsAre vs ns) (h63:ns.length<=63) {k n:Nat}{x:Str}{fa:Addr} (hk:gc.fns[k]?=some x) (hfa:G.mg x=some (.ref fa)) (hn:n+1<=500) {fd:Fn} (hf:P[k]?=some fd) (hnp:fd.np=1)
  (hT:∀ (d:cW) (vn:List Str) (cd:Value),DT[k]?=some d->jR ⟨prog,w,G,DT,callerA.deeper (envOfC d.name d.scope s.heap.objs.size (G.fa k) cd),sub,qi Ψ (ag sub P n)⟩ ⟨⟨gc,d.scope,vn⟩,envOfC d.name d.scope s.heap.objs.size (G.fa k) cd,s.heap⟩)
  (hw:wpS sub (qi Ψ (ag sub P n)) (fun m=>1<=m) fd.body (cI 1 fd.nv [.lst 0]) [ns.map .int] (fun _ _=>V.none=.bool true) (fun v _=>v=.bool true) (fun _ _=>False)) {R:Result->Shared->Prop}
  (hR:∀h' tk,KeepsH s.heap h'->R (.ok (.ret (.bool true))) { s with heap:=h',toks:=tk }) :
  codeAny (model prog w) callerA (.call (.ref fa) ⟨[.ref l],[]⟩) R s:=by
 obtain ⟨hP,hdefs⟩:=nZ hchk
 have hroom:Room prog callerA (n+1):=kZ htree hn
 have hf':G.fa k=fa:=by
  have:=(F.fn k x hk).1
  rw[hfa] at this;injection this with this;injection this with this;exact this.symm
 have HR0:HR G [l] s.heap [ns.map .int]:=by
  refine ⟨rfl,by simp,by simp,fun m a xs e1 e2=>?_⟩
  cases m with
  |zero =>
   simp at e1 e2;subst e1 e2
   refine ⟨vs,hl,uU hI,?_,fun h=>absurd rfl h⟩
   rw[Hi];exact Hj h63 (by decide)
  |succ m=>simp at e1
 have hS:∀env,f4 prog w G gc DT (callerA.deeper env) (qi Ψ (ag sub P n)):=fun env f x vs H Q hx hq s α vals E T R r=>by
  rcases hq with ⟨_,hq⟩ | ⟨h1,_⟩
  ·exact (gv (prog:=prog) (w:=w) (G:=G) (sub:=sub) (by rw[hP,hlen]) hP1 hdefs n _ hroom.down).wp f x vs H Q hx hq s α vals E T R r
  ·have:=(Hs.mp hx).1
   (clear htree F hchk hl hI h63 hk hfa hn hf hnp hT hw hR hdefs hroom hf' HR0 hx T R r;omega)
 have:=mQ (f:=k) (s:=s) (H:=[ns.map .int]) (Q:=fun v _=>v=V.bool true) (vs:=[.lst 0]) hroom hdefs hS hT hk hf (by rw[hnp];rfl) (by rw[hnp];exact hw) [l] [.ref l] (fun _ _=>False) F HR0 (.cons (Rep.lst rfl) .nil)
 rw[hf'] at this
 refine codeAny_mono this fun r s' p=>?_
 cases r with
 |error e=>exact p.elim
 |ok fl =>
  cases fl with
  |ret v =>
   obtain ⟨h',tk,β,K,d,rfl,kp,_,_,rp,rfl⟩:=p
   cases rp
   exact hR h' tk kp
  |_=>exact p.elim
end
end Mine
namespace Mine
open PySem PyProof.Rows PySem.Calls
noncomputable def nG(h₀:Heap)(L:Addr)(h:Heap):List (Addr × Obj):=(List.range h.objs.size).filterMap fun b=>match h₀.get? b,h.get? b with
 |none,some o=>if b=L then none else some (b,o)
 |_,_=>none
theorem rJ{h₀ h:Heap}{L:Addr}:News h₀ L h (nG h₀ L h):=fun p hp=>by
 refine ac (List.mem_filterMap.mp hp) fun b _ e=>?_
 cases e0:h₀.get? b with
 |some o=>rw[e0] at e;cases e
 |none =>
  cases e1:h.get? b with
  |none=>rw[e0,e1] at e;cases e
  |some o =>
   rw[e0,e1] at e
   by_cases hb:b=L
   ·simp only[if_pos hb] at e;cases e
   ·simp only[if_neg hb] at e;cases e;exact ⟨e1,hb,e0⟩
theorem jI{h₀ h:Heap}{L b:Addr}{o:Obj}(e0:h₀.get? b=none)(e1:h.get? b=some o)(hb:b≠L):(b,o)∈nG h₀ L h:=
 List.mem_filterMap.mpr ⟨b,JE.mpr (I8 e1),by rw[e0,e1];simp only[if_neg hb]⟩
theorem Ai{h:Heap}{a:Addr}{m m':Str->Option Value}(x:h.Ns a m)(y:h.Ns a m'):m=m':=by
 refine bH (x) fun o es ep ho hd _ hf=>?_
 refine bH (y) fun o' es' ep' ho' hd' _ hf'=>?_
 rw[ho] at ho';cases ho'
 rw[hd] at hd';cases hd'
 funext n;rw[<- hf n,<- hf' n]
section
end
structure KeepsB (D:Addr->Prop)(h h':Heap):Prop where
 keep:∀b o,h.get? b=some o->¬ D b->h'.get? b=some o
 dict:∀b o,D b->h.get? b=some o->∃es n,o.data=.dict es n
theorem KeepsB.tup{D:Addr->Prop}{h h':Heap}(k:KeepsB D h h'):KeepsT h h':=fun a items x=>by
 refine bS (x) fun o ho hc n hd=>?_
 refine ⟨o,k.keep a o ho fun hD=>?_,hc,n,hd⟩
 refine jH (k.dict a o hD ho) fun es n' e=>?_
 rw[hd] at e;cases e
theorem KeepsB.hr{D:Addr->Prop}{h h':Heap}{G:GV}{α:List Addr}{H:Hp}(k:KeepsB D h h')(R:HR G α h H):HR G α h' H:=by
 refine ⟨R.len,R.nodup,R.pos,fun n a xs e1 e2=>?_⟩
 refine cy (R.lst n a xs e1 e2) fun vs l q z p=>?_
 have ha:¬ D a:=fun hD=>by
  refine bS (l) fun o ho hc n' hd=>?_
  refine jH (k.dict a o hD ho) fun es n'' e=>?_
  rw[hd] at e;cases e
 refine ⟨vs,?_,q.mono (fun _ _ e=>e) k.tup,z,fun hn=>?_⟩
 ·refine ac (l) fun o ho r=>?_;exact ⟨o,k.keep _ _ ho ha,r⟩
 ·obtain ⟨n',e'⟩:=p hn;exact ⟨n',k.keep _ _ e' ha⟩
theorem AO{h:Heap}{a:Addr}{m:Str->Option Value}{o:Obj}(x:h.Ns a m)(e:h.get? a=some o):∃es n,o.data=.dict es n:=by
 refine cV (x) fun o' es ep ho hd _=>?_
 rw[e] at ho;cases ho
 exact ⟨es,ep,hd⟩
section
variable {X:SX}{f:FC}
theorem xV(hk:∀ (k:Nat) (vs:List V) (H:Hp) (Q:V->Hp->Prop),X.Φ (k+1000) vs H Q (fun _ _=>False)->∀ (s:Shared) (α:List Addr) (vals:List Value) (E:Value->Shared->Prop) (m:Str->Option Value) (news:List (Addr × Obj)) (Z:Value->Shared->Prop),
   Fr f.hb f.env.locals s.heap m->News f.hb f.env.locals s.heap news->(∀b o,s.heap.get? b=some o->f.hb.get? b=none->b≠f.env.locals->(b,o)∈news)->HR X.G α s.heap H->Reps X.G α s.heap vals vs ->
   (∀ (v:Value) (d:V) (h':Heap) (tk:Nat) (news':List (Addr × Obj)) (β:List Addr) (K:Hp),Fr f.hb f.env.locals h' m->News f.hb f.env.locals h' news'->(∀q∈news,q∈news')->(∀b∈β,s.heap.get? b=none)->HR X.G (α++β) h' (H++K)->Rep X.G (α++β) h' v d->Q d (H++K)->Z v { s with heap:=h',toks:=tk }) ->
   wpAny (model X.prog X.w) X.A (call (.ref (X.G.fa k)) vals) Z E s) (hL:f.hb.objs.size<=f.env.locals):jR X f:=fun k x vs H Q _ hq W s α ρ vals E T F R r=>by
 have hd:f.hb.get? f.env.locals=none:=gA hL
 refine cU (F.fr) fun m cm hn hrest=>?_
 refine hk k vs H Q hq s α vals E m (nG f.hb f.env.locals s.heap) _ ⟨hn,F.kb,hL⟩ rJ (fun b o e1 e0 hb=>jI e0 e1 hb) R r fun v d h' tk news' β K F' N' sub fr hR rv hq'=>?_
 have keep:∀b o,s.heap.get? b=some o->b≠f.env.locals->h'.get? b=some o:=fun b o e hb=>by
  cases e0:f.hb.get? b with
  |some o' =>
   have h1:=F.kb b o' e0
   rw[e] at h1;cases h1
   exact F'.keep b o e0
  |none=>exact (N' _ (sub _ (jI e0 e hb))).1
 refine ⟨h',tk,β,K,d,rfl,keep,fun m' hm'=>?_,fr,hR,rv,hq'⟩
 rw[<- Ai hn hm'];exact F'.ns
end
end Mine
namespace Mine
open PySem PyProof.Rows PySem.Calls PySem.W
theorem gm:∀ {names:List (Str × NameKind)}{n:Nat}{acc:List (Str × Addr)},(names.all fun x=>!(x.2 == NameKind.cell))=true->cellsFrom n names acc=acc
 | [],_,_,_=>rfl
 | (y,k)::r,n,acc,h=>by
  have h:=HU.mp h
  unfold cellsFrom
  have hk:(k == NameKind.cell)=false:=by simpa using h.1
  rw[if_neg (by rw[hk];exact Hq)]
  exact gm h.2
theorem uZ{name:Str}{sc:Scope}{L a:Addr}{cd:Value}(h:(sc.names.all fun x=>!(x.2 == NameKind.cell))=true):envOfC name sc L a cd=envOf name sc L a cd:=by
 unfold envOfC envOf
 rw[gm h]
section
variable {prog:Program}{w:World}{G:GV}{gc:GC}{DT:List cW}{P:List Fn}{sub:Nat->Nat->Bool}{view:Program}{loose:List Str}{mean:ExcName->Option Value}{mb:Str->Option Value}
theorem rQ{n:Nat}{A:Around}{Φ:Call}{f:Nat}{s:Shared}(hA:Room prog A (n+1))(hdefs:∀ (k:Nat) (d:cW) (f:Fn),DT[k]?=some d->P[k]?=some f->∃vs,jC gc d f vs)(hΦ:∀env,f4 prog w G gc DT (A.deeper env) Φ)
  (hT:∀k vs H Q,¬ Φ (k+1000) vs H Q (fun _ _=>False)) {x:Str}{vs:List V}{H:Hp}{Q:V->Hp->Prop}{Y:Nat->Hp->Prop}{fd:Fn} (hx:gc.fns[f]?=some x) (hf:P[f]?=some fd) (hlen:vs.length=fd.np)
  (hw:wpS sub Φ (fun m=>H.length<=m) fd.body (cI fd.np fd.nv vs) H (fun _ H'=>Q .none H') Q Y) (α:List Addr) (vals:List Value) (E:Value->Shared->Prop) (T:GF G gc DT s.heap) (R:HR G α s.heap H) (r:Reps G α s.heap vals vs)
  {base:Heap}{outer:List Env} (KB:Below A base outer s.heap) (TT:Top view loose mean G.mg mb s.heap) (hcell:∀d,DT[f]?=some d->(d.scope.names.all fun x=>!(x.2 == NameKind.cell))=true)
  (hspec:∀k x H',gc.cls[k]?=some x->Y k H'->specOf view x=some ("ValueError.__new__",[.type "ValueError",.type "Exception",.type "BaseException",.type "object"]))
  (hX:∀ (k:Nat) (x:Str) (C e t:Addr) (us:List Value) (h':Heap) (tk:Nat) (H':Hp),gc.cls[k]?=some x->G.mg x=some (.ref C)->Y k H'->RaisedS base s.heap outer e (.ref C) t us [] h'->s.heap.UpToSlots h'->E (.ref e) { s with heap:=h',toks:=tk }) :
  codeAny (model prog w) A (.call (.ref (G.fa f)) ⟨vals,[]⟩) (fun r s'=>match r with | .ok (.ret v)=>Post G (Rep G) s α H Q v s' | .ok _=>False | .error e=>E e s') s:=by
 refine mx hA hdefs hΦ (fun d vn cd _ k x vs H Q _ hk=>(hT k vs H Q hk).elim) hx hf hlen hw α vals E (fun d vn cd h₁ tk hd D hk=>?_) T R r
 intro k st h' tk' β H' ρ' hm st' lv R' F' y
 obtain ⟨x,np,u,kk,pp,cpos,pos,rfl,hcls,hgl⟩:=hm
 have O:bP ⟨gc,d.scope,vn⟩ (envOfC d.name d.scope s.heap.objs.size (G.fa f) cd):=qa D _ _ _
 have FI':=F'.fi
 refine ay (F'.fr) fun m cm hn hc hv=>?_
 have Fr0:Fr s.heap s.heap.objs.size h' m:=⟨hn,F'.kb,Ht _⟩
 have henv:=uZ (name:=d.name) (L:=s.heap.objs.size) (a:=G.fa f) (cd:=cd) (hcell d hd)
 obtain ⟨hgk,hgd⟩:=MC.isGlob_spec hgl
 have T':GF G gc DT h':=T.keeps F'.kb
 have ev:=pO (X:=⟨prog,w,G,DT,A.deeper (envOfC d.name d.scope s.heap.objs.size (G.fa f) cd),sub,Φ⟩) (c:=⟨gc,d.scope,vn⟩) rfl (sV (i:=u) (k:=kk) (pos:=pp)) sO _ { s with heap:=h',toks:=tk' } (α++β) ρ' H' (fun _ _=>True)
  (fun e s'=>wpAny (model prog w) (A.deeper (envOfC d.name d.scope s.heap.objs.size (G.fa f) cd)) (leaving (envOfC d.name d.scope s.heap.objs.size (G.fa f) cd) e) (fun _ s''=>E e s'') (fun e' s''=>E e' s'') s') cpos O T' R' FI' trivial
 have hgk':=O.glob x hgk
 dsimp only at ev ⊢
 rw[henv] at ev hgk' ⊢
 refine Raise_top (s:={ s with heap:=h',toks:=tk' }) Fr0 TT PySem.F.excBase_ValueError (hspec k x H' hcls y) hA.handled (fun C hmean hmg=>?_) rfl rfl D.kind hgk' hgd
 refine wpAny_mono ev (fun us s2 p=>?_) fun _ _ e=>e
 obtain ⟨h2,tk2,β2,K2,ds,rfl,k2,f2,R2,r2,_⟩:=p
 refine ⟨?_,fun b o e=>k2 b o (F'.kb b o e),fun h3 e hx=>?_⟩
 ·rw[r2.2,sizeLine_eq];show 1<=16777216;decide
 ·exact leave_raiseS (s':={ s with heap:=h3,toks:=tk2 }) KB hx (Fr0.keeps k2) News.nil (fun h4 t RS _ us'=>hX k x C e t us h4 tk2 H' hcls hmg y RS us') D.kind
end
theorem kr{h₀ h h':Heap}{L:Addr}{m:Str->Option Value}{news:List (Addr × Obj)}(F:Fr h₀ L h m)(full:∀b o,h.get? b=some o->h₀.get? b=none->b≠L->(b,o)∈news)
  (kp:∀b o,h₀.get? b=some o->h'.get? b=some o) (N:∀q∈news,h'.get? q.1=some q.2):KeepsB (fun b=>b=L) h h' where
 keep:=fun b o e hb=>by
  cases e0:h₀.get? b with
  |some o' =>
   have h1:=F.keep b o' e0
   rw[e] at h1;cases h1
   exact kp b o e0
  |none=>exact N _ (full b o e e0 hb)
 dict:=fun b o hb e=>by subst hb;exact AO F.ns e
theorem pL{base G g h:Heap}{l:List Env}{e t:Addr}{cls:Value}{vs:List Value}{L:Addr}{m:Str->Option Value}{news:List (Addr × Obj)}(R:RaisedS base G l e cls t vs [] h)(N:News g L G news)(F:Fr g L G m)
  (hb:∀b,g.get? b=none->base.get? b=none) (hfr:∀q∈news,q.1 ∉ l.filterMap (·.frame)) (U:G.UpToSlots h):∃G2,RaisedS base G2 l e cls t vs news h/\Fr g L G2 m/\G2.UpToSlots h:=by
 obtain ⟨⟨B,hB,hG,_,hfl,ht⟩,htup⟩:=R
 refine ⟨hideAll G (news.map (·.1)),⟨⟨B,hB,fun b o e hb=>hG b o (of_hideAll _ e) hb,fun q hq=>⟨hG _ _ (N q hq).1 (hfr q hq),hideAll_none _ (List.mem_map_of_mem hq),hb _ (N q hq).2.2⟩,hfl,ht⟩,htup⟩,⟨?_,fun b o e=>?_,F.above⟩,fun b o e=>U b o (of_hideAll _ e)⟩
 ·refine iQ (F.ns) fun o es ep ho r=>?_
  refine ⟨o,es,ep,hideAll_get _ ho fun hm=>?_,r⟩
  refine ac (HP.mp hm) fun q hq e=>?_
  exact (N q hq).2.1 e
 ·refine hideAll_get _ (F.keep b o e) fun hm=>?_
  refine ac (HP.mp hm) fun q hq e'=>?_
  have:=(N q hq).2.2
  rw[e',e] at this;cases this
theorem xM{sub:Nat->Nat->Bool}{P:List Fn}(hP:P.length<=1000):∀ (n k:Nat) (vs:List V) (H:Hp) (Q:V->Hp->Prop),¬ ag sub P n (k+1000) vs H Q (fun _ _=>False)
 |0,_,_,_,_,h=>h
 |n+1,k,vs,H,Q,h=>by
  refine ac (h) fun d hd _=>?_
  have:=(Hs.mp hd).1
  exact oqz [P.length,k] [] [(.le Y0 1000),(.le (Y1+1000+1) Y0)] .ff [11] rfl hP this
section
end
end Mine
namespace Mine
open PySem PyProof.Rows PySem.Calls
theorem Fq{G:GV}{α:List Addr}{h:Heap}{vals:List Value}{vs:List V}(r:Reps G α h vals vs)(e:vs.length=2):∃a b,vals=[a,b]:=by
 cases r with
 |nil=>cases e
 |cons _ r =>
  cases r with
  |nil=>cases e
  |cons _ r =>
   cases r with
   |nil=>exact ⟨_,_,rfl⟩
   |cons _ r=>simp at e
theorem yu{G:GV}{s:Shared}{h₀ h':Heap}{L:Addr}{m:Str->Option Value}{α:List Addr}{H:Hp}{Q:V->Hp->Prop}{Z:Value->Shared->Prop}{news news':List (Addr × Obj)}{t:Bool}{tk:Nat}
  (hZ:∀ (v:Value) (d:V) (h':Heap) (tk:Nat) (news':List (Addr × Obj)) (β:List Addr) (K:Hp),Fr h₀ L h' m->News h₀ L h' news'->(∀q∈news,q∈news')->(∀b∈β,s.heap.get? b=none) ->
    HR G (α++β) h' (H++K)->Rep G (α++β) h' v d->Q d (H++K)->Z v { s with heap:=h',toks:=tk })
  (F0:Fr h₀ L s.heap m) (full:∀b o,s.heap.get? b=some o->h₀.get? b=none->b≠L->(b,o)∈news) (hR:HR G α s.heap H) (hy:Q (.bool t) H) (F:Fr h₀ L h' m) (N:News h₀ L h' news') (sb:∀q∈news,q∈news'):Z (.bool t) { s with heap:=h',toks:=tk }:=by
 have kB:=kr F0 full F.keep (fun q hq=>(N q (sb q hq)).1)
 refine hZ _ _ h' tk news' [] [] F N sb (fun b hb=>(nomatch hb)) ?_ (.bool t) ?_
 ·rw[List.append_nil,List.append_nil];exact kB.hr hR
 ·rw[List.append_nil];exact hy
theorem xd{G:GV}{gc:GC}{DT:List cW}{h:Heap}(F:GF G ⟨gc.fns,gc.cls,[]⟩ DT h)(hg:∀x a b,(x,a,b)∈gc.globs->∃t ta tb,G.mg x=some (.ref t)/\IsTup h t #[.int a ta,.int b tb]):GF G gc DT h where
 g:=F.g
 b:=F.b
 nolimit:=F.nolimit
 seer:=F.seer
 fn:=F.fn
 blt:=F.blt
 glob:=hg
end Mine
namespace Mine
theorem two_pow_pos(n:Nat):(0:Rat)<2^n:=Rat.pow_pos (by decide)
structure Sq where
 f:Nat->Rat
 c:∃K:Rat,∀n m,n<=m->(f n-f m)*2^n<=K/\(f m-f n)*2^n<=K
theorem Sq.bd(x:Sq):∃B:Rat,0<=B/\∀n,x.f n<=B/\- B<=x.f n:=by
 obtain ⟨K,h⟩:=x.c
 have h0:=h 0 0 (Ht _)
 refine ⟨K+(x.f 0).abs,?_,fun n=>?_⟩
 ·have:=@Rat.abs_nonneg (x.f 0);grind
 ·have:=h 0 n (HQ _)
  rw[Rat.pow_zero,Rat.mul_one,Rat.mul_one] at this
  have a1:x.f 0<=(x.f 0).abs:=by unfold Rat.abs;grind
  have a2:- (x.f 0).abs<=x.f 0:=by unfold Rat.abs;grind
  grind
noncomputable def Sq.ofRat(q:Rat):Sq:=⟨fun _=>q,0,fun n m _=>by grind⟩
noncomputable def Sq.add(x y:Sq):Sq:=⟨fun n=>x.f n+y.f n,by
 obtain ⟨K,h⟩:=x.c;obtain ⟨L,g⟩:=y.c
 refine ⟨K+L,fun n m hm=>?_⟩
 have:=h n m hm;have:=g n m hm;grind⟩
noncomputable def Sq.neg(x:Sq):Sq:=⟨fun n=>- x.f n,by
 obtain ⟨K,h⟩:=x.c
 refine ⟨K,fun n m hm=>?_⟩
 have:=h n m hm;grind⟩
theorem b8{a b:Rat}(ha:0<=a)(hb:0<=b):0<=a*b:=Jd ha hb
theorem Ao{u v B L:Rat}(h1:u<=B)(h2:-B<=u)(g1:v<=L)(g2:-L<=v):u*v<=B*L/\-(B*L)<=u*v:=by
 have e1:=b8 (a:=B-u) (b:=L+v) (by grind) (by grind)
 have e2:=b8 (a:=B+u) (b:=L-v) (by grind) (by grind)
 have e3:=b8 (a:=B-u) (b:=L-v) (by grind) (by grind)
 have e4:=b8 (a:=B+u) (b:=L+v) (by grind) (by grind)
 constructor <;> grind
noncomputable def Sq.mul(x y:Sq):Sq:=⟨fun n=>x.f n*y.f n,by
 obtain ⟨K,h⟩:=x.c;obtain ⟨L,g⟩:=y.c
 obtain ⟨B,hB,b⟩:=x.bd;obtain ⟨C,hC,c⟩:=y.bd
 refine ⟨B*L+C*K,fun n m hm=>?_⟩
 have h1:=h n m hm;have g1:=g n m hm
 have e1:=Ao (u:=x.f n) (v:=(y.f n-y.f m)*2^n) (B:=B) (L:=L) (b n).1 (b n).2 g1.1 (by grind)
 have e2:=Ao (u:=y.f m) (v:=(x.f n-x.f m)*2^n) (B:=C) (L:=K) (c m).1 (c m).2 h1.1 (by grind)
 constructor <;> grind⟩
noncomputable def Sq.le(x y:Sq):Prop:=∃K:Rat,∀n,(x.f n-y.f n)*2^n<=K
theorem Sq.le_refl(x:Sq):x.le x:=⟨0,fun n=>by grind⟩
theorem Sq.le_trans{x y z:Sq}:x.le y->y.le z->x.le z:=fun ⟨K,h⟩ ⟨L,g⟩=>⟨K+L,fun n=>by have:=h n;have:=g n;grind⟩
theorem Sq.le_total(x y:Sq):x.le y\/y.le x:=by
 rcases Classical.em (x.le y) with h|h
 ·exact .inl h
 ·right
  obtain ⟨K,hx⟩:=x.c;obtain ⟨L,hy⟩:=y.c
  have:∃n,K+L<(x.f n-y.f n)*2^n:=by
   refine HW fun hn=>h ⟨K+L,fun n=>?_⟩
   exact Rat.not_lt.mp fun hlt=>hn ⟨n,hlt⟩
  obtain ⟨n,hn⟩:=this
  refine ⟨K+L,fun m=>?_⟩
  have p0:=two_pow_pos n
  have k0:0<=K:=by have:=hx 0 0 (Ht _);grind
  have l0:0<=L:=by have:=hy 0 0 (Ht _);grind
  rcases Nat.le_total n m with hm|hm
  ·have a:=hx n m hm;have b:=hy n m hm
   have:0<(x.f m-y.f m)*2^n:=by grind
   have h3:0<x.f m-y.f m:=by
    refine Rat.not_le.mp fun hle=>?_
    have:=b8 (a:=- (x.f m-y.f m)) (b:=2^n) (by grind) (IX p0)
    grind
   have:=b8 (IX h3) (IX (two_pow_pos m))
   grind
  ·have a:=hx m n hm;have b:=hy m n hm
   have h3:0<x.f n-y.f n:=by
    refine Rat.not_le.mp fun hle=>?_
    have:=b8 (a:=- (x.f n-y.f n)) (b:=2^n) (by grind) (IX p0)
    grind
   have:=b8 (IX h3) (IX (two_pow_pos m))
   grind
noncomputable instance Sq.st:Setoid Sq:=⟨fun x y=>x.le y/\y.le x,fun _=>⟨Sq.le_refl _,Sq.le_refl _⟩,fun h=>⟨h.2,h.1⟩,fun h g=>⟨Sq.le_trans h.1 g.1,Sq.le_trans g.2 h.2⟩⟩
noncomputable def Re:Type:=Quotient Sq.st
theorem Sq.add_le{x y z w:Sq}:x.le y->z.le w->(x.add z).le (y.add w):=fun ⟨K,h⟩ ⟨L,g⟩=>⟨K+L,fun n=>by
 have:=h n;have:=g n;show (x.f n+z.f n-(y.f n+w.f n))*2^n<=K+L;grind⟩
theorem Sq.neg_le{x y:Sq}:x.le y->(y.neg).le x.neg:=fun ⟨K,h⟩=>⟨K,fun n=>by
 have:=h n;show (- y.f n - - x.f n)*2^n<=K;grind⟩
theorem Sq.mul_eqv{x y z w:Sq}(h:x ≈ y)(g:z ≈ w):(x.mul z).le (y.mul w):=by
 obtain ⟨⟨K,h1⟩,K',h2⟩:=h;obtain ⟨⟨L,g1⟩,L',g2⟩:=g
 obtain ⟨B,hB,b⟩:=x.bd;obtain ⟨C,hC,c⟩:=w.bd
 have k0:∃M:Rat,K<=M/\K'<=M:=⟨if K<=K' then K' else K,by grind⟩
 have l0:∃M:Rat,L<=M/\L'<=M:=⟨if L<=L' then L' else L,by grind⟩
 obtain ⟨M,m1,m2⟩:=k0;obtain ⟨N,n1,n2⟩:=l0
 refine ⟨B*N+C*M,fun n=>?_⟩
 have p1:=h1 n;have p2:=h2 n;have q1:=g1 n;have q2:=g2 n
 have e1:=Ao (u:=x.f n) (v:=(z.f n-w.f n)*2^n) (B:=B) (L:=N) (b n).1 (b n).2 (by grind) (by grind)
 have e2:=Ao (u:=w.f n) (v:=(x.f n-y.f n)*2^n) (B:=C) (L:=M) (c n).1 (c n).2 (by grind) (by grind)
 show (x.f n*z.f n-y.f n*w.f n)*2^n<=_
 grind
theorem Sq.eqv_of{x y:Sq}(h:∀n,x.f n=y.f n):x ≈ y:=⟨⟨0,fun n=>by rw[h];grind⟩,⟨0,fun n=>by rw[h];grind⟩⟩
namespace Re
noncomputable def mk(x:Sq):Re:=Quotient.mk _ x
noncomputable instance:Add Re:=⟨Quotient.lift₂ (fun x y=>mk (Sq.add x y)) fun _ _ _ _ h g=>Ke ⟨Sq.add_le h.1 g.1,Sq.add_le h.2 g.2⟩⟩
noncomputable instance:Mul Re:=⟨Quotient.lift₂ (fun x y=>mk (Sq.mul x y)) fun _ _ _ _ h g=>Ke ⟨Sq.mul_eqv h g,Sq.mul_eqv (Setoid.symm h) (Setoid.symm g)⟩⟩
noncomputable instance:Neg Re:=⟨Quotient.lift (fun x=>mk (Sq.neg x)) fun _ _ h=>Ke ⟨Sq.neg_le h.2,Sq.neg_le h.1⟩⟩
noncomputable instance:Sub Re:=⟨fun x y=>x+-y⟩
noncomputable instance:NatCast Re:=⟨fun n=>mk (Sq.ofRat (n:Rat))⟩
noncomputable instance:IntCast Re:=⟨fun n=>mk (Sq.ofRat (n:Rat))⟩
noncomputable instance (n:Nat):OfNat Re n:=⟨((n:Nat):Re)⟩
noncomputable def Gm(x:Re):Nat->Re
 |0=>1
 |n+1=>Gm x n*x
noncomputable instance:HPow Re Nat Re:=⟨Gm⟩
noncomputable instance:SMul Nat Re:=⟨fun n x=>(n:Re)*x⟩
noncomputable instance:SMul Int Re:=⟨fun n x=>(n:Re)*x⟩
noncomputable def leR:Re->Re->Prop:=Quotient.lift₂ Sq.le fun _ _ _ _ h g=>propext ⟨fun k=>Sq.le_trans (Sq.le_trans h.2 k) g.1,fun k=>Sq.le_trans (Sq.le_trans h.1 k) g.2⟩
noncomputable instance:LE Re:=⟨leR⟩
noncomputable instance:LT Re:=⟨fun x y=>¬ y<=x⟩
theorem fT{x y:Sq}(h:∀n,x.f n=y.f n):mk x=mk y:=Ke (Sq.eqv_of h)
theorem cg{P:Re->Prop}(h:∀x,P (mk x)):∀x,P x:=Quotient.ind h
theorem Gh(x y:Re):x+y=y+x:=cg (P:=fun x=>x+y=y+x) (fun a=>cg (P:=fun y=>mk a+y=y+mk a) (fun b=>fT (x:=a.add b) (y:=b.add a) fun _=>Rat.add_comm _ _) y) x
noncomputable instance:Lean.Grind.CommRing Re where
 add_zero x:=cg (P:=fun x=>x+0=x) (fun a=>fT (x:=a.add (.ofRat ((0:Nat):Rat))) (y:=a) fun n=>Rat.add_zero _) x
 add_comm:=Gh
 add_assoc x y z:=cg (P:=fun x=>x+y+z=x+(y+z)) (fun a=>cg (P:=fun y=>mk a+y+z=mk a+(y+z)) (fun b=>cg (P:=fun z=>mk a+mk b+z=mk a+(mk b+z)) (fun c=>fT (x:=(a.add b).add c) (y:=a.add (b.add c)) fun n=>Rat.add_assoc _ _ _) z) y) x
 mul_assoc x y z:=cg (P:=fun x=>x*y*z=x*(y*z)) (fun a=>cg (P:=fun y=>mk a*y*z=mk a*(y*z)) (fun b=>cg (P:=fun z=>mk a*mk b*z=mk a*(mk b*z)) (fun c=>fT (x:=(a.mul b).mul c) (y:=a.mul (b.mul c)) fun n=>Rat.mul_assoc _ _ _) z) y) x
 mul_one x:=cg (P:=fun x=>x*1=x) (fun a=>fT (x:=a.mul (.ofRat ((1:Nat):Rat))) (y:=a) fun n=>Rat.mul_one _) x
 one_mul x:=cg (P:=fun x=>1*x=x) (fun a=>fT (x:=(Sq.ofRat ((1:Nat):Rat)).mul a) (y:=a) fun n=>Rat.one_mul _) x
 left_distrib x y z:=cg (P:=fun x=>x*(y+z)=x*y+x*z) (fun a=>cg (P:=fun y=>mk a*(y+z)=mk a*y+mk a*z) (fun b=>cg (P:=fun z=>mk a*(mk b+z)=mk a*mk b+mk a*z) (fun c=>fT (x:=a.mul (b.add c)) (y:=(a.mul b).add (a.mul c)) fun n=>Rat.mul_add _ _ _) z) y) x
 right_distrib x y z:=cg (P:=fun x=>(x+y)*z=x*z+y*z) (fun a=>cg (P:=fun y=>(mk a+y)*z=mk a*z+y*z) (fun b=>cg (P:=fun z=>(mk a+mk b)*z=mk a*z+mk b*z) (fun c=>fT (x:=(a.add b).mul c) (y:=(a.mul c).add (b.mul c)) fun n=>Rat.add_mul _ _ _) z) y) x
 zero_mul x:=cg (P:=fun x=>0*x=0) (fun a=>fT (x:=(Sq.ofRat ((0:Nat):Rat)).mul a) (y:=.ofRat ((0:Nat):Rat)) fun n=>Rat.zero_mul _) x
 mul_zero x:=cg (P:=fun x=>x*0=0) (fun a=>fT (x:=a.mul (.ofRat ((0:Nat):Rat))) (y:=.ofRat ((0:Nat):Rat)) fun n=>Rat.mul_zero _) x
 mul_comm x y:=cg (P:=fun x=>x*y=y*x) (fun a=>cg (P:=fun y=>mk a*y=y*mk a) (fun b=>fT (x:=a.mul b) (y:=b.mul a) fun n=>Rat.mul_comm _ _) y) x
 pow_zero x:=rfl
 pow_succ x n:=rfl
 ofNat_succ n:=fT (x:=.ofRat ((n+1:Nat):Rat)) (y:=(Sq.ofRat ((n:Nat):Rat)).add (.ofRat ((1:Nat):Rat))) fun k=>by show ((n+1:Nat):Rat)=(n:Rat)+((1:Nat):Rat);grind
 neg_add_cancel x:=cg (P:=fun x=>-x+x=0) (fun a=>fT (x:=a.neg.add a) (y:=.ofRat ((0:Nat):Rat)) fun n=>Rat.neg_add_cancel _) x
 sub_eq_add_neg x y:=rfl
 neg_zsmul i x:=cg (P:=fun x=>((-i:Int):Re)*x=-((i:Re)*x)) (fun a=>fT (x:=(Sq.ofRat ((-i:Int):Rat)).mul a) (y:=((Sq.ofRat (i:Rat)).mul a).neg) fun n=>by show ((-i:Int):Rat)*a.f n=- ((i:Rat)*a.f n);rw[Rat.intCast_neg,Rat.neg_mul]) x
 zsmul_natCast_eq_nsmul n x:=rfl
 intCast_neg i:=fT (x:=.ofRat ((-i:Int):Rat)) (y:=(Sq.ofRat (i:Rat)).neg) fun n=>Rat.intCast_neg _
instance:Std.IsLinearOrder Re where
 le_refl x:=cg (P:=fun x=>x<=x) (fun a=>Sq.le_refl a) x
 le_trans x y z:=cg (P:=fun x=>x<=y->y<=z->x<=z) (fun a=>cg (P:=fun y=>mk a<=y->y<=z->mk a<=z) (fun b=>cg (P:=fun z=>mk a<=mk b->mk b<=z->mk a<=z) (fun _=>Sq.le_trans) z) y) x
 le_antisymm x y:=cg (P:=fun x=>x<=y->y<=x->x=y) (fun a=>cg (P:=fun y=>mk a<=y->y<=mk a->mk a=y) (fun _ h g=>Ke ⟨h,g⟩) y) x
 le_total x y:=cg (P:=fun x=>x<=y\/y<=x) (fun a=>cg (P:=fun y=>mk a<=y\/y<=mk a) (fun b=>Sq.le_total a b) y) x
instance:Std.LawfulOrderLT Re where
 lt_iff x y:=⟨fun h=>⟨(Std.le_total (a:=x) (b:=y)).resolve_right h,h⟩,fun h=>h.2⟩
instance:Lean.Grind.OrderedAdd Re where
 add_le_left_iff {x y} z:=by
  refine ⟨fun h=>?_,fun h=>?_⟩
  ·revert h
   exact cg (P:=fun x=>x<=y->x+z<=y+z) (fun a=>cg (P:=fun y=>mk a<=y->mk a+z<=y+z) (fun b=>cg (P:=fun z=>mk a<=mk b->mk a+z<=mk b+z) (fun c h=>show Sq.le (a.add c) (b.add c) from Sq.add_le h (Sq.le_refl c)) z) y) x
  ·have key:∀x y z:Re,x<=y->x+z<=y+z:=fun x y z=>cg (P:=fun x=>x<=y->x+z<=y+z) (fun a=>cg (P:=fun y=>mk a<=y->mk a+z<=y+z) (fun b=>cg (P:=fun z=>mk a<=mk b->mk a+z<=mk b+z) (fun c h=>show Sq.le (a.add c) (b.add c) from Sq.add_le h (Sq.le_refl c)) z) y) x
   have:=key _ _ (-z) h
   rwa [show x+z+-z=x by grind,show y+z+-z=y by grind] at this
theorem GG(K:Rat):∃m:Nat,K<2^m:=by
 refine ⟨K.num.natAbs,?_⟩
 have h1:K<=(K.num.natAbs:Rat):=by
  rw[Rat.le_iff]
  show K.num*((1:Nat):Int)<=((K.num.natAbs:Nat):Int)*(K.den:Int)
  have d:=K.den_pos
  have:((K.num.natAbs:Nat):Int)*1<=((K.num.natAbs:Nat):Int)*(K.den:Int):=Kb (by exact oqz [K.den] [] [(.le (0+1) Y0)] (.il 1 (.c Y0)) [11] rfl d) (by exact oqz [K.num.natAbs] [] [] (.il 0 (.c Y0)) [1] rfl)
  (clear d;omega)
 have h2:∀n:Nat,(n:Rat)<2^n:=fun n=>by
  have:=Rat.natCast_lt_natCast.mpr (Nat.lt_two_pow_self (n:=n))
  rwa [Rat.natCast_pow] at this
 have:=h2 K.num.natAbs
 grind
theorem Sq.pos{x:Sq}(h:¬ x.le (.ofRat ((0:Nat):Rat))):∃n,∀m,n<=m->1<x.f m*2^n:=by
 obtain ⟨K,hK⟩:=x.c
 refine HW fun hn=>h ⟨K+1,fun n=>?_⟩
 refine Rat.not_lt.mp fun hlt=>hn ⟨n,fun m hm=>?_⟩
 have:=hK n m hm
 have e:(Sq.ofRat ((0:Nat):Rat)).f n=0:=rfl
 rw[e] at hlt
 grind
theorem mul_pos{x y:Re}:0<x->0<y->0<x*y:=by
 refine cg (P:=fun x=>0<x->0<y->0<x*y) (fun a=>cg (P:=fun y=>0<mk a->0<y->0<mk a*y) (fun b h g=>?_) y) x
 obtain ⟨n,hn⟩:=Sq.pos (x:=a) h
 obtain ⟨k,hk⟩:=Sq.pos (x:=b) g
 rintro ⟨K,hK⟩
 obtain ⟨m,hm⟩:=GG K
 have a1:=hn (n+k+m) (by exact oqz [n,k,m] [] [] (.le Y0 (Y0+Y1+Y2)) [1] rfl)
 have a2:=hk (n+k+m) (by exact oqz [k,n,m] [] [] (.le Y0 (Y1+Y0+Y2)) [1] rfl)
 have a3:(a.f (n+k+m)*b.f (n+k+m)-((0:Nat):Rat))*2^(n+k+m)<=K:=hK (n+k+m)
 revert a1 a2 a3
 generalize a.f (n+k+m)=u
 generalize b.f (n+k+m)=v
 intro a1 a2 a3
 have e:(u*v-((0:Nat):Rat))*2^(n+k+m)=(u*2^n)*(v*2^k)*2^m:=by rw[show ((0:Nat):Rat)=0 from rfl];grind
 have p1:0<(u*2^n-1)*(v*2^k-1):=Rat.mul_pos (by grind) (by grind)
 have p2:0<((u*2^n)*(v*2^k)-1)*2^m:=Rat.mul_pos (by grind) (two_pow_pos m)
 grind
instance:Lean.Grind.OrderedRing Re where
 zero_lt_one:=by
  rintro ⟨K,hK⟩
  obtain ⟨m,hm⟩:=GG K
  have:(((1:Nat):Rat)-((0:Nat):Rat))*2^m<=K:=hK m
  rw[show ((0:Nat):Rat)=0 from rfl,show ((1:Nat):Rat)=1 from rfl] at this
  grind
 mul_lt_mul_of_pos_left {a b c} h g:=by
  have:=mul_pos (x:=c) (y:=b-a) g (by grind)
  rw[show c*(b-a)=c*b-c*a by grind] at this
  generalize c*b=u at *;generalize c*a=v at *
  grind
 mul_lt_mul_of_pos_right {a b c} h g:=by
  have:=mul_pos (x:=c) (y:=b-a) g (by grind)
  rw[show c*(b-a)=b*c-a*c by grind] at this
  generalize b*c=u at *;generalize a*c=v at *
  grind
example (x y:Re) (h:0<x) (g:x<y):x*x<y*y:=by
 have:=mul_pos h h;have:=mul_pos h (show 0<y-x by grind);have:=mul_pos (show 0<y by grind) (show 0<y-x by grind);grind
end Re
end Mine
namespace Mine
open Re
theorem g8{a b:Re}(h:a<b):0<b-a:=by grind
theorem zY{a b:Re}(h:a<b):a-b<0:=by grind
theorem dH{a b:Re}(h:a<=b):0<=b-a:=by grind
theorem GK{a b:Re}(h:0<b-a):a<b:=by grind
theorem GQ{a b:Re}(h:a-b<0):a<b:=by grind
theorem Ha{a b:Re}(h:a-b=0):a=b:=by grind
theorem G0{a b:Re}(h:a-b=0):b=a:=by grind
theorem GL{a b:Re}(h:a=b):a-b=0:=by grind
theorem l8{a b c:Re}(h:a<b)(g:b<c):a<c:=by grind
theorem rT{a b c:Re}(h:a<b)(g:b<=c):a<c:=by grind
theorem qf{a b c:Re}(h:a<=b)(g:b<c):a<c:=by grind
theorem dp{a b c:Re}(h:a<=b)(g:b<=c):a<=c:=by grind
theorem fq{a b:Re}(h:a<b):a<=b:=by grind
theorem FF{a b:Re}(h:¬ a<b):b<=a:=by grind
theorem GT{a b:Re}(h:a<b):a≠b:=by grind
theorem Ds{a b:Re}(h:a<b):b≠a:=by grind
theorem rA:(0:Re)<1:=Im
end Mine
namespace Mine
theorem B9:∀N:Nat,∃A:Nat,A*A<=N/\N<(A+1)*(A+1)
 |0=>⟨0,by decide,by decide⟩
 |N+1=>by
  obtain ⟨A,h1,h2⟩:=B9 N
  rcases Nat.lt_or_ge (N+1) ((A+1)*(A+1)) with h|h
  ·exact ⟨A,Nat.le_succ_of_le h1,h⟩
  ·have:(A+1+1)*(A+1+1)=(A+1)*(A+1)+2*A+3:=by grind
   exact ⟨A+1,h,Mine.oqz [N,(A+1+1)*(A+1+1),(A+1)*(A+1),A] [] [(.le (Y0+1) Y2),(.eq Y1 (.a (.a Y2 (.m 2 Y3)) 3))] (.le (Y0+1+1) Y1) [1011] rfl h2 this⟩
theorem BR(d n:Nat):∃s:Rat,0<=s/\s*s<=(d:Rat)/\(d:Rat)*(2^n*2^n)<(s*2^n+1)*(s*2^n+1):=by
 obtain ⟨A,h1,h2⟩:=B9 (d*(2^n*2^n))
 have p:=two_pow_pos n
 have hp:(2:Rat)^n≠0:=by grind
 have e:(A:Rat) / 2^n*2^n=A:=by rw[Rat.div_def,Rat.mul_assoc,Rat.inv_mul_cancel _ hp,Rat.mul_one]
 have c1:=Rat.natCast_le_natCast.mpr h1
 have c2:=Rat.natCast_lt_natCast.mpr h2
 simp only[Rat.natCast_mul,Rat.natCast_pow,Rat.natCast_add] at c1 c2
 have hs:0<=(A:Rat) / 2^n:=by rw[Rat.div_def];exact Jd Rat.natCast_nonneg (IX (Rat.inv_pos.mpr p))
 refine ⟨(A:Rat) / 2^n,hs,?_,?_⟩
 ·generalize (A:Rat) / 2^n=s at *
  generalize (2:Rat)^n=q at *
  rw[<- e] at c1
  refine Rat.not_lt.mp fun hl=>?_
  have:=Rat.mul_pos (show 0<s*s-d by grind) (Rat.mul_pos p p)
  have c3:s*q*(s*q)<=(d:Rat)*(q*q):=c1
  grind
 ·rw[e];exact c2
noncomputable def rt(d:Nat)(n:Nat):Rat:=Classical.choose (BR d n)
theorem ow(d n:Nat):0<=rt d n/\rt d n*rt d n<=(d:Rat)/\(d:Rat)*(2^n*2^n)<(rt d n*2^n+1)*(rt d n*2^n+1):=Classical.choose_spec (BR d n)
theorem FM{a b:Rat}(hb:0<=b)(h:a*a<b*b):a<b:=by
 refine Rat.not_le.mp fun hl=>?_
 have:=Jd (show 0<=a-b by grind) (show 0<=a+b by grind)
 grind
theorem xi(d n m:Nat):(rt d m-rt d n)*2^n<=1:=by
 obtain ⟨a1,a2,a3⟩:=ow d n
 obtain ⟨b1,b2,b3⟩:=ow d m
 have p:=two_pow_pos n
 generalize (2:Rat)^n=q at *
 have c:=Jd (show 0<=(d:Rat)-rt d m*rt d m by grind) (IX (Rat.mul_pos p p))
 have:=FM (a:=rt d m*q) (b:=rt d n*q+1) (by have:=Jd a1 (IX p);grind) (by grind)
 grind
theorem qb{n m:Nat}(h:n<=m):(2:Rat)^n<=2^m:=by
 have:=Rat.natCast_le_natCast.mpr (Ib (show 0<2 by decide) h)
 rwa [Rat.natCast_pow,Rat.natCast_pow] at this
noncomputable def sqS(d:Nat):Sq:=⟨rt d,1,fun n m h=>⟨by
 have h1:=xi d m n
 have:=qb h
 have p:=two_pow_pos n
 refine Rat.not_lt.mp fun hl=>?_
 have h2:0<rt d n-rt d m:=by
  refine Rat.not_le.mp fun hle=>?_
  have:=Jd (show 0<=- (rt d n-rt d m) by grind) (IX p)
  grind
 have:=Jd (IX h2) (show 0<=2^m-2^n by grind)
 grind,xi d n m⟩⟩
noncomputable def aW(d:Nat):Re:=Re.mk (sqS d)
theorem jD(d:Nat):0<=aW d:=⟨0,fun n=>by
 have:=Jd (ow d n).1 (IX (two_pow_pos n))
 show (((0:Nat):Rat)-rt d n)*2^n<=0
 rw[show ((0:Nat):Rat)=0 from rfl];grind⟩
theorem fQ(d:Nat):aW d*aW d=(d:Re):=by
 have h1:aW d*aW d<=(d:Re):=⟨0,fun n=>by
  have:=Jd (show 0<=(d:Rat)-rt d n*rt d n by have:=(ow d n).2.1;grind) (IX (two_pow_pos n))
  show (rt d n*rt d n-(d:Rat))*2^n<=0
  grind⟩
 have h2:(d:Re)<=aW d*aW d:=by
  obtain ⟨B,hB,hb⟩:=(sqS d).bd
  refine ⟨2*B+1,fun n=>?_⟩
  obtain ⟨a1,a2,a3⟩:=ow d n
  have b1:rt d n<=B:=(hb n).1
  have p:=qb (HQ n)
  rw[Rat.pow_zero] at p
  show ((d:Rat)-rt d n*rt d n)*2^n<=2*B+1
  generalize (2:Rat)^n=q at *
  generalize rt d n=s at *
  refine Rat.not_lt.mp fun hl=>?_
  have:=Rat.mul_pos (show 0<((d:Rat)-s*s)*q-(2*B+1) by grind) (show 0<q by grind)
  have:=Jd (show 0<=B-s by grind) (show 0<=q by grind)
  grind
 exact Std.le_antisymm h1 h2
end Mine
namespace Mine
open Re
theorem bq(x y:Int):((x+y:Int):Re)=x+y:=fT (x:=.ofRat ((x+y:Int):Rat)) (y:=(Sq.ofRat (x:Rat)).add (.ofRat (y:Rat))) fun _=>Rat.intCast_add _ _
theorem aq(x y:Int):((x*y:Int):Re)=x*y:=fT (x:=.ofRat ((x*y:Int):Rat)) (y:=(Sq.ofRat (x:Rat)).mul (.ofRat (y:Rat))) fun _=>Rat.intCast_mul _ _
theorem ch(x:Int):((-x:Int):Re)=-x:=fT (x:=.ofRat ((-x:Int):Rat)) (y:=(Sq.ofRat (x:Rat)).neg) fun _=>Rat.intCast_neg _
theorem eO(x y:Int):((x-y:Int):Re)=x-y:=by rw[Int.sub_eq_add_neg,bq,ch];grind
theorem ax:((0:Int):Re)=0:=rfl
theorem aP{x:Int}(h:0<x):(0:Re)<(x:Re):=by
 obtain ⟨n,rfl⟩:∃n:Nat,x=((n+1:Nat):Int):=⟨(x-1).toNat,by exact oqz [(x-1).toNat] [x] [(.il (0+1) Y0),(otn (.s Y0 1) Y0)] (.ie Y0 (.c (Y0+1))) [1001,1011,10001,101] rfl h (aR (x-1))⟩
 induction n with
 |zero=>exact Im
 |succ n ih =>
  have h1:=ih (by exact oqz [n] [] [] (.il (0+1) (.c (Y0+1))) [1] rfl)
  have:(((n+1+1:Nat):Int):Re)=((n+1:Nat):Int)+1:=by
   rw[show ((n+1+1:Nat):Int)=((n+1:Nat):Int)+1 by exact oqz [n] [] [] (.ie (.c (Y0+1+1)) (.a (.c (Y0+1)) 1)) [1] rfl,bq];rfl
  rw[this];have:=Im (R:=Re);grind
theorem jy{x y:Int}(h:x<y):(x:Re)<(y:Re):=by
 have:=aP (x:=y-x) (by exact oqz [] [y,x] [(.il (Y1+1) Y0)] (.il (0+1) (.s Y0 Y1)) [11] rfl h)
 rw[eO] at this;grind
theorem aZ{x y:Int}(h:x<=y):(x:Re)<=(y:Re):=by
 rcases Int.lt_or_eq_of_le h with h|h
 ·have:=jy h;exact fq (this)
 ·rw[h];exact IH _
open Classical in
noncomputable def rsg(x:Re):Int:=if 0<x then 1 else if x<0 then -1 else 0
theorem aG{x:Re}(h:0<x):rsg x=1:=if_pos h
theorem aK{x:Re}(h:x<0):rsg x=-1:=by unfold rsg;rw[if_neg (by grind),if_pos h]
theorem aQ:rsg 0=0:=by unfold rsg;rw[if_neg (by grind),if_neg (by grind)]
theorem aN(x:Re):0<x\/x<0\/x=0:=by
 rcases Classical.em (0<x) with h|h
 ·exact .inl h
 ·rcases Classical.em (x<0) with g|g
  ·exact .inr (.inl g)
  ·exact .inr (.inr (by grind))
theorem cz(x y:Re):rsg (x*y)=rsg x*rsg y:=by
 rcases aN x with h|h|h <;> rcases aN y with g|g|g
 ·rw[aG h,aG g,aG (mul_pos h g)];rfl
 ·rw[aG h,aK g,aK (by have:=mul_pos h (show 0 < -y by grind);grind)];rfl
 ·rw[g,show x*0=0 by grind,aQ,HS]
 ·rw[aK h,aG g,aK (by have:=mul_pos (show 0 < -x by grind) g;grind)];rfl
 ·rw[aK h,aK g,aG (by have:=mul_pos (show 0 < -x by grind) (show 0 < -y by grind);grind)];rfl
 ·rw[g,show x*0=0 by grind,aQ,HS]
 ·rw[h,show 0*y=0 by grind,aQ,IL]
 ·rw[h,show 0*y=0 by grind,aQ,IL]
 ·rw[h,show 0*y=0 by grind,aQ,IL]
theorem lE(x:Re):rsg (-x)=- rsg x:=by
 rcases aN x with h|h|h
 ·rw[aG h,aK (by grind)]
 ·rw[aK h,aG (by grind)];rfl
 ·rw[h,show -(0:Re)=0 by grind,aQ];rfl
noncomputable def sg(n:Int):Int:=if n<0 then -1 else if 0<n then 1 else 0
theorem g6(n:Int):rsg (n:Re)=sg n:=by
 unfold sg
 rcases Int.lt_trichotomy n 0 with h|h|h
 ·rw[if_pos h,aK (jy h)]
 ·rw[h];exact aQ
 ·rw[if_neg (by exact oqz [] [n] [(.il (0+1) Y0)] (.no (.il (Y0+1) 0)) [11] rfl h),if_pos h,aG (aP h)]
noncomputable def dJ(x y a:Int):Int:=if 0<=x/\0<=y then (if 0<x\/0<y*a then 1 else 0) else if x<=0/\y<=0 then 0-(if x<0\/y*a<0 then 1 else 0) else if 0<x then sg (x*x-y*y*a) else sg (y*y*a-x*x)
theorem gy{d:Nat}(h:0<d):0<aW d:=by
 have h0:=jD d
 have h1:=fQ d
 have h2:(0:Re)<((d:Nat):Int):=aP (by exact oqz [d] [] [(.le (0+1) Y0)] (.il (0+1) (.c Y0)) [11] rfl h)
 have h3:(((d:Nat):Int):Re)=(d:Re):=rfl
 rw[h3,<- h1] at h2
 rcases aN (aW d) with g|g|g
 ·exact g
 ·exact rT (qf (h0) (g)) (h0)
 ·rw[g] at h2;grind
theorem ae{x y:Re}(h:0<=x)(g:0<=y):0<=x*y:=by
 rcases aN x with a|a|a
 ·rcases aN y with b|b|b
  ·have:=mul_pos a b;exact fq (this)
  ·grind
  ·rw[b];grind
 ·grind
 ·rw[a];grind
theorem iW{X Y:Re}(h:0<X-Y):rsg (X+Y)=rsg (X*X-Y*Y):=by
 rw[show X*X-Y*Y=(X+Y)*(X-Y) by grind,cz,aG h,Id]
theorem j5(x y:Int){a:Nat}(ha:0<a):dJ x y a=rsg (x+y*aW a):=by
 have hs:=gy ha
 have hq:aW a*aW a=(((a:Nat):Int):Re):=fQ a
 have ha':(0:Int)<a:=oqz [a] [] [(.le (0+1) Y0)] (.il (0+1) (.c Y0)) [11] rfl ha
 unfold dJ
 by_cases c1:0<=x/\0<=y
 ·rw[if_pos c1]
  have x0:=aZ c1.1;have y0:=aZ c1.2
  have m0:=ae y0 (Hu hs)
  by_cases c2:0<x\/0<y*a
  ·rw[if_pos c2,aG]
   rcases c2 with c|c
   ·have:=aP c;rw[ax] at *;grind
   ·have:=mul_pos (aP (JZ c ha')) hs;rw[ax] at *;grind
  ·have e1:x=0:=oqz [] [x,y,y*(↑a:Int)] [(.an (.il 0 Y0) (.il 0 Y1)),(.no (.or (.il (0+1) Y0) (.il (0+1) Y2)))] (.ie Y0 0) [11,1001] rfl c1 c2
   have e2:y=0:=by
    rcases Int.lt_or_eq_of_le c1.2 with h|h
    ·exact absurd (.inr (HG h ha')) c2
    ·exact h.symm
   rw[if_neg c2,e1,e2,ax,show (0:Re)+0*aW a=0 by grind,aQ]
 rw[if_neg c1]
 by_cases d1:x<=0/\y<=0
 ·rw[if_pos d1]
  have x0:=aZ d1.1;have y0:=aZ (show 0<=-y by exact oqz [] [y,x] [(.an (.il Y1 0) (.il Y0 0))] (.il 0 (.g Y0)) [101] rfl d1)
  have m0:=ae y0 (Hu hs)
  rw[ch] at *
  by_cases c2:x<0\/y*a<0
  ·rw[if_pos c2,aK];rfl
   rcases c2 with c|c
   ·have:=jy c;rw[ax] at *;grind
   ·have hy:0 < -y:=by
     refine JZ (b:=(a:Int)) ?_ ha'
     rw[Iy];exact oqz [] [y*(↑a:Int)] [(.il (Y0+1) 0)] (.il (0+1) (.g Y0)) [11] rfl c
    have:=mul_pos (aP hy) hs;rw[ch] at this;rw[ax] at *;grind
  ·have e1:x=0:=oqz [] [x,y,y*(↑a:Int)] [(.an (.il Y0 0) (.il Y1 0)),(.no (.or (.il (Y0+1) 0) (.il (Y2+1) 0)))] (.ie Y0 0) [1001,11] rfl d1 c2
   have e2:y=0:=by
    rcases Int.lt_or_eq_of_le d1.2 with h|h
    ·exact absurd (.inr (by have:=HG (show 0 < -y by exact oqz [] [y] [(.il (Y0+1) 0)] (.il (0+1) (.g Y0)) [11] rfl h) ha';rw[Iy] at this;exact oqz [] [y*(↑a:Int)] [(.il (0+1) (.g Y0))] (.il (Y0+1) 0) [11] rfl this)) c2
    ·exact h
   rw[if_neg c2,e1,e2,ax,show (0:Re)+0*aW a=0 by grind,aQ];rfl
 rw[if_neg d1]
 by_cases c3:0<x
 ·have hy:y<0:=oqz [] [y,x] [(.il (0+1) Y1),(.no (.an (.il 0 Y1) (.il 0 Y0)))] (.il (Y0+1) 0) [110,101] rfl c3 c1
  have x0:=aP c3
  have y0:=mul_pos (aP (show 0 < -y by exact oqz [] [y] [(.il (Y0+1) 0)] (.il (0+1) (.g Y0)) [11] rfl hy)) hs
  rw[ch] at y0
  rw[if_pos c3,<- g6,iW (by grind),eO,aq,aq,aq,<- hq]
  congr 1;grind
 ·have hx:x<0:=oqz [] [x,y] [(.no (.il (0+1) Y0)),(.no (.an (.il 0 Y0) (.il 0 Y1))),(.no (.an (.il Y0 0) (.il Y1 0)))] (.il (Y0+1) 0) [1100,101,1010] rfl c3 c1 d1
  have hy:0<y:=oqz [] [y,x] [(.il (Y1+1) 0),(.no (.an (.il Y1 0) (.il Y0 0)))] (.il (0+1) Y0) [110,101] rfl hx d1
  have x0:=aP (show 0 < -x by exact oqz [] [x] [(.il (Y0+1) 0)] (.il (0+1) (.g Y0)) [11] rfl hx)
  have y0:=mul_pos (aP hy) hs
  rw[ch] at x0
  rw[if_neg c3,<- g6,show (x:Re)+y*aW a=y*aW a+x by grind,iW (by grind),eO,aq,aq,aq,<- hq]
  congr 1;grind
end Mine
namespace Mine
open Re
noncomputable def AK(x0 x1 x2 x3 a b:Int):Int:=
 if 0<=dJ x0 x1 a*dJ x2 x3 a then sg (dJ x0 x1 a+dJ x2 x3 a)
 else dJ x0 x1 a*dJ ((x0*x0+a*x1*x1)-b*(x2*x2+a*x3*x3)) ((x0*x1+x1*x0)-b*(x2*x3+x3*x2)) a
theorem AQ{X Z s:Re}(hs:0<s)(h:0<=rsg X*rsg Z):rsg (X+Z*s)=sg (rsg X+rsg Z):=by
 rcases aN X with x|x|x <;> rcases aN Z with z|z|z
 ·have:=mul_pos z hs;rw[aG x,aG z,aG (by grind)];rfl
 ·rw[aG x,aK z] at h;exact absurd h (by decide)
 ·rw[z,aQ,aG x,show X+0*s=X by grind,aG x];rfl
 ·rw[aK x,aG z] at h;exact absurd h (by decide)
 ·have:=mul_pos (show 0 < -Z by grind) hs;rw[aK x,aK z,aK (by grind)];rfl
 ·rw[z,aQ,aK x,show X+0*s=X by grind,aK x];rfl
 ·have:=mul_pos z hs;rw[x,aQ,aG z,aG (by grind)];rfl
 ·have:=mul_pos (show 0 < -Z by grind) hs;rw[x,aQ,aK z,aK (by grind)];rfl
 ·rw[z,x,aQ,show (0:Re)+0*s=0 by grind,aQ];rfl
theorem yz{X Z s:Re}(hs:0<s)(h:¬ 0<=rsg X*rsg Z):rsg (X+Z*s)=rsg X*rsg (X*X-Z*Z*(s*s)):=by
 rcases aN X with x|x|x
 ·rcases aN Z with z|z|z
  ·rw[aG x,aG z] at h;exact absurd (by decide) h
  ·have:=mul_pos (show 0 < -Z by grind) hs
   rw[aG x,Ip,iW (by grind)];congr 1;grind
  ·rw[z,aQ,HS] at h;exact absurd (by decide) h
 ·rcases aN Z with z|z|z
  ·have:=mul_pos z hs
   have e:=iW (X:=-X) (Y:=-(Z*s)) (by grind)
   rw[show -X+-(Z*s)=-(X+Z*s) by grind,lE] at e
   rw[aK x,show X*X-Z*Z*(s*s)=-X*-X - -(Z*s)*-(Z*s) by grind,<- e];exact oqz [] [rsg (X+Z*s),-1*-rsg (X+Z*s)] [(.ie Y1 (.g (.m 1 (.g Y0))))] (.ie Y0 Y1) [11,101] rfl (Iy 1 (-rsg (X+Z*s)))
  ·rw[aK x,aK z] at h;exact absurd (by decide) h
  ·rw[z,aQ,HS] at h;exact absurd (by decide) h
 ·rw[x,aQ,IL] at h;exact absurd (by decide) h
theorem wL(x0 x1 x2 x3:Int){a b:Nat}(ha:0<a)(hb:0<b):AK x0 x1 x2 x3 a b=rsg ((x0+x1*aW a)+(x2+x3*aW a)*aW b):=by
 unfold AK
 rw[j5 _ _ ha,j5 _ _ ha,j5 _ _ ha]
 have hq:aW a*aW a=(((a:Nat):Int):Re):=fQ a
 have hr:aW b*aW b=(((b:Nat):Int):Re):=fQ b
 split
 next h=>rw[AQ (gy hb) h]
 next h =>
  rw[yz (gy hb) h,hr]
  congr 2
  simp only[eO,bq,aq]
  rw[<- hq];grind
end Mine
namespace Mine
open Re
open Classical in
noncomputable def ab(x:Re):Re:=if 0<=x then x else -x
theorem aI(x:Re):0<=ab x:=by unfold ab;split <;> grind
theorem lI(x:Re):ab x=x\/ab x=-x:=by unfold ab;split <;> simp
theorem d7(x:Re):x<=ab x/\-x<=ab x:=by unfold ab;split <;> grind
theorem dk(x y:Re):ab (x*y)=ab x*ab y:=by
 have h:=aI x;have g:=aI y
 have k:=ae h g
 have e:ab (x*y)*ab (x*y)=(ab x*ab y)*(ab x*ab y):=by
  rcases lI x with a|a <;> rcases lI y with b|b <;> rcases lI (x*y) with c|c <;> rw[a,b,c] <;> grind
 have l:=aI (x*y)
 generalize ab (x*y)=p at *
 generalize ab x*ab y=q at *
 rcases aN (p-q) with d|d|d
 ·have:=mul_pos d (show 0<p+q by grind);grind
 ·have:=mul_pos (show 0<q-p by grind) (show 0<p+q by grind);grind
 ·grind
theorem kz{n:Int}(h:n≠0):1<=ab (n:Re):=by
 have one:((1:Int):Re)=1:=rfl
 rcases Int.lt_or_lt_of_ne h with h|h
 ·have:=aZ (show 1<=-n by exact oqz [] [n] [(.il (Y0+1) 0)] (.il 1 (.g Y0)) [11] rfl h);have:=(d7 (n:Re)).2;rw[ch] at *;grind
 ·have:=aZ (show 1<=n by exact oqz [] [n] [(.il (0+1) Y0)] (.il 1 Y0) [11] rfl h);have:=(d7 (n:Re)).1;grind
theorem bE{x y:Re}(h:x*y=0)(g:x≠0):y=0:=by
 rcases aN x with a|a|a
 ·rcases aN y with b|b|b
  ·have:=mul_pos a b;grind
  ·have:=mul_pos a (show 0 < -y by grind);grind
  ·exact b
 ·rcases aN y with b|b|b
  ·have:=mul_pos (show 0 < -x by grind) b;grind
  ·have:=mul_pos (show 0 < -x by grind) (show 0 < -y by grind);grind
  ·exact b
 ·exact absurd a g
theorem GU(u v:Int)(a:Nat)(h:(u:Re)+v*aW a≠0):1<=ab ((u:Re)+v*aW a)*(ab ((u:Re)-v*aW a)+1):=by
 have hq:aW a*aW a=(((a:Nat):Int):Re):=fQ a
 have e:((u:Re)+v*aW a)*((u:Re)-v*aW a)=((u*u-v*v*a:Int):Re):=by
  simp only[eO,aq];rw[<- hq];grind
 have k1:=aI ((u:Re)+v*aW a)
 have k2:=aI ((u:Re)-v*aW a)
 by_cases n0:u*u-v*v*a=0
 ·rw[n0,ax] at e
  have w:=bE e h
  have hu:u≠0:=by
   intro hu;rw[hu,ax] at w h;grind
  have h1:=kz hu
  have:(u:Re)+v*aW a=u+u:=by grind
  rw[w,this]
  have h2:ab ((u:Re)+u)=ab u+ab u:=by
   unfold ab;split <;> split <;> grind
  have:ab (0:Re)=0:=by unfold ab;split <;> grind
  rw[h2,this];grind
 ·have h1:=kz n0
  rw[<- e,dk] at h1
  grind
end Mine
namespace Mine
theorem D5{α:Type}{l:List α}{n:Nat}(h:l.length=n+1):∃a t,l=a::t/\t.length=n:=by
 cases l with
 |nil=>cases h
 |cons a t=>exact ⟨a,t,rfl,IW h⟩
theorem GM{α:Type}{l:List α}(h:l.length=3):∃a b c,l=[a,b,c]:=by
 obtain ⟨a,t,rfl,h1⟩:=D5 h
 obtain ⟨b,t,rfl,h2⟩:=D5 h1
 obtain ⟨c,t,rfl,h3⟩:=D5 h2
 cases Io h3
 exact ⟨a,b,c,rfl⟩
noncomputable def mulG(a b:Int):Int->List Int->List Int
 |c,[]=>[c]
 |c,x::r=>(c+x*a)::mulG a b (x*b) r
noncomputable def addL(xs ys:List Int):List Int:=List.zipWith (fun x y=>x+y) xs ys
noncomputable def smul(c:Int)(xs:List Int):List Int:=xs.map fun x=>c*x
noncomputable def mulN(a b:Int):Nat->List Int->List Int
 |0,xs=>xs
 |n+1,xs=>mulG a b 0 (mulN a b n xs)
noncomputable def bO(n:Nat):List Int:=List.replicate n 0
theorem cJ{a b:Int}:∀ {c:Int}{xs:List Int},(mulG a b c xs).length=xs.length+1
 |_,[]=>rfl
 |c,x::r=>by
  show (mulG a b (x*b) r).length+1=r.length+1+1
  rw[cJ]
theorem b5{a b:Int}{xs:List Int}:∀ {n:Nat},(mulN a b n xs).length=xs.length+n
 |0=>rfl
 |n+1=>by
  show (mulG a b 0 (mulN a b n xs)).length=_
  rw[cJ,b5];rfl
theorem mC{a b c d:Int}:∀ {xs:List Int}{e f e' f':Int},e+f*a=e'+f'*c->f*b=f'*d->mulG a b e (mulG c d f xs)=mulG c d e' (mulG a b f' xs)
 | [],e,f,e',f',h1,h2=>by
  show [e+f*a,f*b]=[e'+f'*c,f'*d]
  rw[h1,h2]
 |x::r,e,f,e',f',h1,h2=>by
  show (e+(f+x*c)*a)::mulG a b ((f+x*c)*b) (mulG c d (x*d) r)=(e'+(f'+x*a)*c)::mulG c d ((f'+x*a)*d) (mulG a b (x*b) r)
  have i1:e+(f+x*c)*a=e'+(f'+x*a)*c:=by grind
  have i2:(f+x*c)*b+x*d*a=(f'+x*a)*d+x*b*c:=by grind
  have i3:x*d*b=x*b*d:=by grind
  rw[i1,mC i2 i3]
theorem mc{a b c d:Int}{xs:List Int}:∀ {n:Nat},mulG a b 0 (mulN c d n xs)=mulN c d n (mulG a b 0 xs)
 |0=>rfl
 |n+1=>by
  show mulG a b 0 (mulG c d 0 (mulN c d n xs))=mulG c d 0 (mulN c d n (mulG a b 0 xs))
  rw[<- mc (n:=n)]
  exact mC (by exact oqz [] [a,c] [] (.ie (.a 0 (.m 0 Y0)) (.a 0 (.m 0 Y1))) [1] rfl) (by exact oqz [] [b,d] [] (.ie (.m 0 Y0) (.m 0 Y1)) [1] rfl)
theorem mP{a b c d:Int}{xs:List Int}{m:Nat}:∀ {n:Nat},mulN a b n (mulN c d m xs)=mulN c d m (mulN a b n xs)
 |0=>rfl
 |n+1=>by
  show mulG a b 0 (mulN a b n (mulN c d m xs))=mulN c d m (mulG a b 0 (mulN a b n xs))
  rw[mP (n:=n),mc]
theorem uo{a b:Int}{xs:List Int}:∀ {n:Nat},mulN a b (n+1) xs=mulN a b n (mulG a b 0 xs)
 |0=>rfl
 |n+1=>by
  show mulG a b 0 (mulN a b (n+1) xs)=mulG a b 0 (mulN a b n (mulG a b 0 xs))
  rw[uo (n:=n)]
theorem iD{xs ys:List Int}(h:xs.length=ys.length):(addL xs ys).length=xs.length:=by
 unfold addL;rw[List.length_zipWith,h,Nat.min_self]
theorem pJ{a b:Int}:∀ {xs ys:List Int}{c d:Int},xs.length=ys.length->mulG a b (c+d) (addL xs ys)=addL (mulG a b c xs) (mulG a b d ys)
 | [],[],_,_,_=>rfl
 |x::r,y::t,c,d,h=>by
  show ((c+d)+(x+y)*a)::mulG a b ((x+y)*b) (addL r t)=((c+x*a)+(d+y*a))::addL (mulG a b (x*b) r) (mulG a b (y*b) t)
  have i1:(c+d)+(x+y)*a=(c+x*a)+(d+y*a):=by grind
  have i2:(x+y)*b=x*b+y*b:=by grind
  rw[i1,i2,pJ (IW h)]
theorem mr{a b t:Int}:∀ {xs:List Int}{c:Int},mulG a b (t*c) (smul t xs)=smul t (mulG a b c xs)
 | [],_=>rfl
 |x::r,c=>by
  show (t*c+t*x*a)::mulG a b (t*x*b) (smul t r)=(t*(c+x*a))::smul t (mulG a b (x*b) r)
  have i1:t*c+t*x*a=t*(c+x*a):=by grind
  have i2:t*x*b=t*(x*b):=by grind
  rw[i1,i2,mr]
theorem qm{a b:Int}{xs ys:List Int}(h:xs.length=ys.length):∀ {n:Nat},mulN a b n (addL xs ys)=addL (mulN a b n xs) (mulN a b n ys)
 |0=>rfl
 |n+1=>by
  show mulG a b 0 (mulN a b n (addL xs ys))=_
  rw[qm h (n:=n),show (0:Int)=0+0 from rfl,pJ (by rw[b5,b5,h])]
  rfl
theorem gJ{a b t:Int}{xs:List Int}:∀ {n:Nat},mulN a b n (smul t xs)=smul t (mulN a b n xs)
 |0=>rfl
 |n+1=>by
  show mulG a b 0 (mulN a b n (smul t xs))=_
  rw[gJ (n:=n),show (0:Int)=t*0 from (HS t).symm,mr]
  rfl
theorem lA{a b:Int}:∀ {n:Nat},mulG a b 0 (bO n)=bO (n+1)
 |0=>rfl
 |n+1=>by
  show (0+0*a)::mulG a b (0*b) (bO n)=0::bO (n+1)
  rw[IL,IL,lA];rfl
theorem mulN_nil{a b:Int}:∀ {n:Nat},mulN a b n []=bO n
 |0=>rfl
 |n+1=>by
  show mulG a b 0 (mulN a b n [])=_
  rw[mulN_nil,lA]
theorem mG{xs ys:List Int}:addL xs ys=addL ys xs:=by
 unfold addL;rw[List.zipWith_comm];congr 1;funext x y;exact Int.add_comm _ _
theorem lJ:∀ {xs ys zs:List Int},addL (addL xs ys) zs=addL xs (addL ys zs)
 | [],_,_=>by simp[addL]
 |_::_,[],_=>by simp[addL]
 |_::_,_::_,[]=>by simp[addL]
 |x::r,y::t,z::u=>by
  show ((x+y)+z)::addL (addL r t) u=(x+(y+z))::addL r (addL t u)
  rw[lJ,JQ]
theorem jc:∀ {xs:List Int},addL (bO xs.length) xs=xs
 | []=>rfl
 |x::r=>by
  show (0+x)::addL (bO r.length) r=x::r
  rw[jc,IK]
noncomputable def hs(b e s:Int):List Int->List Int
 | []=>[]
 |c::r=>addL (mulG b e 0 (hs b e s r)) (smul c (mulN s s r.length [1]))
theorem gx{b e s:Int}:∀ {r:List Int},(hs b e s r).length=r.length
 | []=>rfl
 |c::r=>by
  show (addL _ _).length=r.length+1
  rw[iD,cJ,gx]
  rw[cJ,gx];unfold smul;rw[Hi,b5];exact IM _ _
noncomputable def ls(b e s:Int):Nat->List Int->List Int
 |k,[]=>bO k
 |k,c::r=>addL (mulN s s r.length (mulN b e k [c])) (ls b e s (k+1) r)
theorem BU{b e s:Int}:∀ {r:List Int}{k:Nat},ls b e s k r=mulN b e k (hs b e s r)
 | [],_=>mulN_nil.symm
 |c::r,k=>by
  show addL (mulN s s r.length (mulN b e k [c])) (ls b e s (k+1) r)=mulN b e k (addL (mulG b e 0 (hs b e s r)) (smul c (mulN s s r.length [1])))
  rw[qm (by rw[cJ,gx];unfold smul;rw[Hi,b5];exact IM _ _),BU,<- uo,gJ,mP,mG,<- gJ,<- gJ]
  show _=addL _ (mulN b e k (mulN s s r.length [c*1]))
  rw[Id]
theorem yR{b e s:Int}{r:List Int}:ls b e s 0 r=hs b e s r:=BU
noncomputable def tv:Int->List Int->Int
 |_,[]=>0
 |l,x::r=>(if l*x<0 then 1 else 0)+tv (if x=0 then l else x) r
theorem lG(l x:Int)(r:List Int):tv l (x::r)=(if l*x<0 then 1 else 0)+tv (if x=0 then l else x) r:=rfl
theorem Ci(l:Int):tv l []=0:=rfl
noncomputable def sgn(x:Int):Int:=if x<0 then -1 else if 0<x then 1 else 0
noncomputable def bh(p q:Int):List Int->Int
 | []=>0
 |c::cs=>bh p q cs*p+c*q^cs.length
theorem ub(p q c:Int)(cs:List Int):bh p q (c::cs)=bh p q cs*p+c*q^cs.length:=rfl
noncomputable def hc(a0 a1 b0 b1:Int):List Int->List Int
 | []=>[]
 |c::r=>addL (mulG a0 a1 0 (hc a0 a1 b0 b1 r)) (smul c (mulN b0 b1 r.length [1]))
theorem BH{b e s:Int}:∀ {r:List Int},hs b e s r=hc b e s s r
 | []=>rfl
 |c::r=>by
  show addL (mulG b e 0 (hs b e s r)) _=addL (mulG b e 0 (hc b e s s r)) _
  rw[BH]
theorem bJ{c:Int}{xs:List Int}:(smul c xs).length=xs.length:=Hi ..
theorem qz{a0 a1 b0 b1:Int}:∀ {r:List Int},(hc a0 a1 b0 b1 r).length=r.length
 | []=>rfl
 |c::r=>by
  have e:(mulG a0 a1 0 (hc a0 a1 b0 b1 r)).length=(smul c (mulN b0 b1 r.length [1])).length:=by
   rw[cJ,qz,bJ,b5];exact IM _ _
  show (addL _ _).length=r.length+1
  rw[iD e,cJ,qz]
theorem jh(p q:Int):∀ {xs ys:List Int},xs.length=ys.length->bh p q (addL xs ys)=bh p q xs+bh p q ys
 | [],[],_=>rfl
 |x::r,y::t,h=>by
  have h':r.length=t.length:=IW h
  show bh p q (addL r t)*p+(x+y)*q^(addL r t).length=(bh p q r*p+x*q^r.length)+(bh p q t*p+y*q^t.length)
  rw[jh p q h',iD h',h'];grind
theorem gK(p q c:Int):∀ {xs:List Int},bh p q (smul c xs)=c*bh p q xs
 | []=>(HS _).symm
 |x::r=>by
  show bh p q (smul c r)*p+(c*x)*q^(smul c r).length=c*(bh p q r*p+x*q^r.length)
  rw[gK p q c,bJ];grind
theorem jv(p q a b:Int):∀ {xs:List Int}{c:Int},bh p q (mulG a b c xs)=(a*q+b*p)*bh p q xs+c*q^xs.length
 | [],c=>by
  show 0*p+c*q^0=(a*q+b*p)*0+c*q^0
  exact oqz [] [p,c*q^0,a*q,b*p] [] (.ie (.a (.m 0 Y0) Y1) (.a (.r (Y2+Y3) 0) Y1)) [1] rfl
 |x::r,c=>by
  show bh p q (mulG a b (x*b) r)*p+(c+x*a)*q^(mulG a b (x*b) r).length=(a*q+b*p)*(bh p q r*p+x*q^r.length)+c*q^(r.length+1)
  rw[jv p q a b,cJ,Ig];grind
theorem me(p q a b:Int){xs:List Int}:∀ {n:Nat},bh p q (mulN a b n xs)=(a*q+b*p)^n*bh p q xs
 |0=>by rw[ID,Ip];rfl
 |n+1=>by
  show bh p q (mulG a b 0 (mulN a b n xs))=_
  rw[jv,me,Ig];grind
theorem xr(p q:Int):bh p q [1]=1:=by
 show 0*p+1*q^0=1
 grind
theorem ue(p q a0 a1 b0 b1:Int):∀ {xs:List Int},bh p q (hc a0 a1 b0 b1 xs)=bh (a0*q+a1*p) (b0*q+b1*p) xs
 | []=>rfl
 |c::r=>by
  have e:(mulG a0 a1 0 (hc a0 a1 b0 b1 r)).length=(smul c (mulN b0 b1 r.length [1])).length:=by
   rw[cJ,qz,bJ,b5];exact IM _ _
  show bh p q (addL _ _)=bh (a0*q+a1*p) (b0*q+b1*p) r*(a0*q+a1*p)+c*(b0*q+b1*p)^r.length
  rw[jh p q e,jv,gK,me,xr,ue p q];grind
theorem lC(t c:Int)(r:List Int):bh t 1 (c::r)=bh t 1 r*t+c:=by
 show bh t 1 r*t+c*1^r.length=_
 rw[Int.one_pow,Id]
theorem eu:∀ {xs:List Int},(∀t:Int,t≠0->bh t 1 xs=0)->∀x∈xs,x=0
 | [],_,x,hx=>nomatch hx
 |c::r,h,x,hx=>by
  have h':∀t:Int,t≠0->bh t 1 r*t+c=0:=fun t ht=>by rw[<- lC];exact h t ht
  have hc:c=0:=by
   have h1:=h' (c.natAbs+1) (by exact oqz [c.natAbs] [] [] (.no (.ie (.a (.c Y0) 1) 0)) [1] rfl)
   have hd:((c.natAbs:Int)+1) ∣ c:=⟨-(bh (c.natAbs+1) 1 r),by grind⟩
   exact HW fun h0=>by
    have h2:=Ko (Je.mpr h0) (IN.mpr hd)
    (clear h hx h' h1 hd h0;omega)
  have hr:∀t:Int,t≠0->bh t 1 r=0:=fun t ht=>by
   have h1:=h' t ht
   rw[hc,HO] at h1
   exact (Int.mul_eq_zero.mp h1).resolve_right ht
  rcases HM.mp hx with rfl|hx
  ·exact hc
  ·exact eu hr x hx
theorem oX:∀ {xs ys:List Int},xs.length=ys.length->(∀t:Int,bh t 1 xs=bh t 1 ys)->xs=ys:=fun {xs ys} hl h=>by
 have hz:∀x∈addL xs (smul (-1) ys),x=0:=eu fun t _=>by
  rw[jh t 1 (by rw[bJ,hl]),gK,h t];exact oqz [] [bh t 1 ys,-1*bh t 1 ys] [(.ie Y1 (.g (.m 1 Y0)))] (.ie (Y0+Y1) 0) [101,11] rfl (Iy 1 (bh t 1 ys))
 clear h
 induction xs generalizing ys with
 |nil=>cases ys with
  |nil=>rfl
  |cons y t=>cases hl
 |cons x r ih=>cases ys with
  |nil=>cases hl
  |cons y t =>
   have h1:x+-1*y=0:=hz _ Hy
   have h2:r=t:=ih (IW hl) fun z hz'=>hz z (Hz _ hz')
   rw[h2];congr 1;exact oqz [] [x,y,-1*y] [(.ie (Y0+Y2) 0),(.ie Y2 (.g (.m 1 Y1)))] (.ie Y0 Y1) [1101,10011] rfl h1 (Iy 1 (y))
noncomputable def Up(xs:List Int):Prop:=xs.Pairwise fun x y=>0<x->0<=y
noncomputable def NN(xs:List Int):Prop:=∀x∈xs,0<=x
theorem Up.hd{x:Int}{xs:List Int}(h:Up (x::xs))(hx:0<x):NN xs:=fun y hy=>(JK.mp h).1 y hy hx
theorem Up.tl{x:Int}{xs:List Int}(h:Up (x::xs)):Up xs:=(JK.mp h).2
theorem NN.hd{x:Int}{xs:List Int}(h:NN (x::xs)):0<=x:=h x Hy
theorem NN.tl{x:Int}{xs:List Int}(h:NN (x::xs)):NN xs:=fun y hy=>h y (Hz _ hy)
end Mine
namespace Mine
open PySem
noncomputable abbrev vv0:PE:=.var 0
noncomputable abbrev vv1:PE:=.var 1
noncomputable abbrev vv2:PE:=.var 2
noncomputable abbrev vv3:PE:=.var 3
noncomputable abbrev vv4:PE:=.var 4
noncomputable abbrev vv5:PE:=.var 5
noncomputable abbrev vv6:PE:=.var 6
noncomputable abbrev vv7:PE:=.var 7
noncomputable abbrev vv8:PE:=.var 8
noncomputable abbrev vv9:PE:=.var 9
noncomputable abbrev Dq:PE:=.var 10
noncomputable abbrev BA:PE:=.var 11
noncomputable abbrev kk0:PE:=.cint 0
noncomputable abbrev kk1:PE:=.cint 1
noncomputable abbrev kk2:PE:=.cint 2
noncomputable abbrev kk3:PE:=.cint 3
noncomputable abbrev kk4:PE:=.cint 4
noncomputable abbrev kk5:PE:=.cint 5
noncomputable abbrev kk6:PE:=.cint 6
noncomputable abbrev kk7:PE:=.cint 7
noncomputable abbrev kk8:PE:=.cint 8
noncomputable abbrev kk9:PE:=.cint 9
noncomputable abbrev Gz:PE:=.cint 10
noncomputable abbrev Hb:PE:=.cint 19
noncomputable abbrev GB:PE:=.cint 30
noncomputable abbrev vB:PE:=.cint 2000001
noncomputable abbrev ss1 (a:PE):PEs:=.cons a .nil
noncomputable abbrev ss2 (a b:PE):PEs:=.cons a (ss1 b)
noncomputable abbrev ss3 (a b c:PE):PEs:=.cons a (ss2 b c)
noncomputable def yF:PS:=.seq (.ite (.cmp .lt vv1 (.bi .len (ss1 vv0))) (.seq (.ret (.idx vv0 vv1)) .skip) .skip) (.seq (.ret kk0) .skip)
noncomputable def Fl:PS:=.seq (.assign 2 (.bin .mod vv0 vv1)) (.seq (.assign 0 vv1) (.seq (.assign 1 vv2) .skip))
noncomputable def Ej:PS:=.seq (.whl (.cmp .ne vv1 kk0) Fl) (.seq (.ret (.bi .abs (ss1 vv0))) .skip)
noncomputable def w7:PS:=.seq (.ret (.and (ss2 (.isi vv0 [.int]) (.nt (.isi vv0 [.bool]))))) .skip
noncomputable def uB(dv:Nat):PS:=.seq (.assign 2 (.call dv (ss2 vv0 vv1))) (.seq (.ite (.cmp .lt vv1 kk0) (.seq (.assign 2 (.bin .sub kk0 vv2)) .skip) .skip)
 (.seq (.ret (.tup (ss2 (.bin .fdiv vv0 vv2) (.bin .fdiv vv1 vv2)))) .skip))
noncomputable def FP:PS:=(.seq (.setidx 3 vv4 (.bin .add (.idx vv3 vv4) (.bin .mul (.idx vv0 vv4) vv1)))
 (.seq (.setidx 3 (.bin .add vv4 kk1) (.bin .add (.idx vv3 (.bin .add vv4 kk1)) (.bin .mul (.idx vv0 vv4) vv2)))
 .skip))
noncomputable def DN:PS:=(.seq (.assign 3 (.bin .mul (.lst (ss1 kk0)) (.bin .add (.bi .len (ss1 vv0)) kk1)))
 (.seq (.forr 4 (.rng (ss1 (.bi .len (ss1 vv0)))) FP)
 (.seq (.ret vv3) .skip)))
noncomputable def Cq:PE:=(.bin .add (.idx vv1 vv0) (.bin .mul vv2 (.idx vv3 vv0)))
noncomputable def vW:PE:=(.comp Cq 1 [6,8,7] (.rng (ss1 (.bi .len (ss1 vv6)))) .no)
noncomputable def Cn(mu:Nat):PS:=(.seq (.assign 7 (.call mu (ss3 vv7 vv5 vv5)))
 (.seq (.assign 6 (.call mu (ss3 vv6 vv3 vv4)))
 (.seq (.assign 6 vW)
 .skip)))
noncomputable def vU(mu:Nat):PS:=(.seq (.assign 3 (.bin .mul (.idx vv1 kk0) (.idx vv2 kk1)))
 (.seq (.assign 4 (.bin .mul (.idx vv2 kk0) (.idx vv1 kk1)))
 (.seq (.assign 5 (.bin .mul (.idx vv1 kk1) (.idx vv2 kk1)))
 (.seq (.assign 6 (.lst (ss1 (.idx vv0 (.neg kk1)))))
 (.seq (.assign 7 (.lst (ss1 kk1)))
 (.seq (.forr 8 (.rev (.slc vv0 .no (.some (.neg kk1)))) (Cn mu))
 (.seq (.ret vv6) .skip)))))))
noncomputable def xj:PS:=(.seq (.ite (.cmp .ne vv5 kk0) (.seq (.ite (.cmp .lt (.bin .mul vv4 vv5) kk0) (.seq (.assign 3 (.bin .add vv3 kk1))
 .skip) .skip)
 (.seq (.assign 4 vv5) .skip)) .skip)
 .skip)
noncomputable def rI(se:Nat):PS:=(.seq (.assign 3 kk0)
 (.seq (.assign 4 kk0)
 (.seq (.forr 5 (.seq (.call se (ss3 vv0 vv1 vv2))) xj)
 (.seq (.ret vv3) .skip))))
noncomputable def FU:PS:=(.seq (.setidx 2 (.bin .add vv3 vv4) (.bin .add (.idx vv2 (.bin .add vv3 vv4)) (.bin .mul (.idx vv0 vv3) (.idx vv1 vv4))))
 .skip)
noncomputable def FH:PS:=(.seq (.forr 4 (.rng (ss1 (.bi .len (ss1 vv1)))) FU)
 .skip)
noncomputable def zBy:PE:=(.comp kk0 1 [] (.rng (ss1 (.bin .sub (.bin .add (.bi .len (ss1 vv0)) (.bi .len (ss1 vv1))) kk1))) .no)
noncomputable def bBy:PS:=(.seq (.assign 2 zBy)
 (.seq (.forr 3 (.rng (ss1 (.bi .len (ss1 vv0)))) FH)
 (.seq (.ret vv2) .skip)))
noncomputable def sY(by_:Nat):PS:=(.seq (.ite (.cmp .lt vv6 vv4) (.seq (.assign 5 (.call by_ (ss2 vv5 (.lst (ss2 (.bin .mul (.idx vv1 kk0) (.idx vv2 kk1)) (.bin .mul (.idx vv2 kk0) (.idx vv1 kk1)))))))
 .skip) (.seq (.assign 5 (.call by_ (ss2 vv5 (.lst (ss2 (.bin .mul (.idx vv1 kk1) (.idx vv2 kk1)) (.bin .mul (.idx vv1 kk1) (.idx vv2 kk1)))))))
 .skip))
 .skip)
noncomputable def rX:PE:=(.comp (.bin .add (.idx vv1 vv0) (.idx vv2 vv0)) 1 [3,5] (.rng (ss1 (.bi .len (ss1 vv0)))) .no)
noncomputable def tn(by_:Nat):PS:=(.seq (.assign 5 (.lst (ss1 (.idx vv0 vv4))))
 (.seq (.forr 6 (.rng (ss1 (.bin .sub (.bi .len (ss1 vv0)) kk1))) (sY by_))
 (.seq (.assign 3 rX) .skip)))
noncomputable def wu:PE:=(.comp kk0 1 [] (.seq vv0) .no)
noncomputable def qF(by_:Nat):PS:=(.seq (.assign 3 wu)
 (.seq (.forr 4 (.rng (ss1 (.bi .len (ss1 vv0)))) (tn by_))
 (.seq (.ret vv3) .skip)))
noncomputable def tV:PS:=(.seq (.ite (.cmp .lt (.bin .mul vv5 vv4) kk0) (.seq (.assign 3 (.bin .add vv3 kk1))
 .skip) .skip)
 (.seq (.ite (.cmp .ne vv5 kk0) (.seq (.assign 4 vv5) .skip) .skip) .skip))
noncomputable def od(se:Nat):PS:=(.seq (.assign 3 kk0)
 (.seq (.assign 4 kk0)
 (.seq (.forr 5 (.seq (.call se (ss3 vv0 vv1 vv2))) tV)
 (.seq (.ret vv3) .skip))))
noncomputable def x6:PS:=(.seq (.assign 0 (.bi .abs (ss1 vv0)))
 (.seq (.assign 1 (.bi .abs (ss1 vv1)))
 (.seq (.whl (.cmp .gt vv1 kk0) (.seq (.assign 2 (.bin .mod vv0 vv1)) (.seq (.assign 0 vv1) (.seq (.assign 1 vv2) .skip))))
 (.seq (.ret vv0) .skip))))
noncomputable def n4(dv:Nat):PS:=(.seq (.ite (.cmp .eq vv1 kk0) (.seq (.raise 1) .skip) .skip)
 (.seq (.assign 2 (.call dv (ss2 vv0 vv1)))
 (.seq (.ite (.cmp .lt vv1 kk0) (.seq (.assign 2 (.neg vv2)) .skip) .skip)
 (.seq (.ret (.tup (ss2 (.bin .fdiv vv0 vv2) (.bin .fdiv vv1 vv2)))) .skip))))
noncomputable def qX:PS:=(.seq (.ret (.cmp .lt (.bin .mul (.idx vv0 kk0) (.idx vv1 kk1)) (.bin .mul (.idx vv1 kk0) (.idx vv0 kk1)))) .skip)
noncomputable def v5(pa:Nat):PS:=(.seq (.ret (.call pa (ss2 (.bin .add (.bin .mul (.idx vv0 kk0) (.idx vv1 kk1)) (.bin .mul (.idx vv1 kk0) (.idx vv0 kk1))) (.bin .mul (.idx vv0 kk1) (.idx vv1 kk1))))) .skip)
noncomputable def BK:PS:=(.seq (.assign 2 (.bin .add (.bin .mul vv2 (.idx vv1 kk0)) (.bin .mul vv4 vv3)))
 (.seq (.assign 3 (.bin .mul vv3 (.idx vv1 kk1))) .skip))
noncomputable def xI:PS:=(.seq (.assign 2 kk0)
 (.seq (.assign 3 kk1)
 (.seq (.forr 4 (.rev vv0) BK)
 (.seq (.ite (.cmp .lt vv2 kk0) (.seq (.ret (.neg kk1)) .skip) .skip)
 (.seq (.ret (.bi .int (ss1 (.cmp .gt vv2 kk0)))) .skip)))))
noncomputable def D7:PE:=(.comp (.bin .fdiv vv0 vv1) 1 [1] (.seq vv0) .no)
noncomputable def FT(dv:Nat):PS:=(.seq (.assign 1 (.call dv (ss2 vv1 vv2))) .skip)
noncomputable def vk(dv:Nat)(ng:PE):PS:=(.seq (.assign 1 kk0)
 (.seq (.forr 2 (.seq vv0) (FT dv))
 (.seq (.ite (.cmp .lt (.idx vv0 (.neg kk1)) kk0) (.seq (.assign 1 ng) .skip) .skip)
 (.seq (.ret D7) .skip))))
noncomputable def Gq:PS:=(.seq (.assign 2 (.bin .add (.bin .mul vv2 (.idx vv1 kk0)) (.bin .mul (.idx vv0 vv4) vv3)))
 (.seq (.assign 3 (.bin .mul vv3 (.idx vv1 kk1))) .skip))
noncomputable def EA:PS:=(.seq (.assign 2 kk0)
 (.seq (.assign 3 kk1)
 (.seq (.forr 4 (.rng (ss3 (.bin .sub (.bi .len (ss1 vv0)) kk1) (.neg kk1) (.neg kk1))) Gq)
 (.seq (.ret vv2) .skip))))
noncomputable def n7(wh pa:Nat):PS:=(.seq (.ite (.or (.cons (.nt (.isi vv0 [.tuple])) (ss3 (.cmp .ne (.bi .len (ss1 vv0)) kk2) (.nt (.call wh (ss1 (.idx vv0 kk0)))) (.nt (.call wh (ss1 (.idx vv0 kk1))))))) (.seq (.ret (.cbool false)) .skip) .skip)
 (.seq (.ret (.and (ss2 (.cmp .gt (.idx vv0 kk1) kk0) (.cmp .eq (.call pa (ss2 (.idx vv0 kk0) (.idx vv0 kk1))) vv0)))) .skip))
noncomputable def zWh(wh:Nat):PE:=(.comp vv0 1 [] (.seq vv1) (.some (.nt (.call wh (ss1 vv0)))))
noncomputable def Fg(va tu:Nat):PS:=(.seq (.assign 2 (.call va (ss2 vv1 (.idx vv0 kk1))))
 (.seq (.assign 3 (.call va (ss2 vv1 (.idx vv0 kk2))))
 (.seq (.ite (.or (ss3 (.cmp .ge (.bin .mul (.idx (.idx vv0 kk1) kk0) (.idx (.idx vv0 kk2) kk1)) (.bin .mul (.idx (.idx vv0 kk2) kk0) (.idx (.idx vv0 kk1) kk1))) (.cmp .eq vv2 kk0) (.cmp .eq vv3 kk0))) (.seq (.ret (.cbool false)) .skip) .skip)
 (.seq (.ret (.cmp .eq (.call tu (ss3 vv1 (.idx vv0 kk1) (.idx vv0 kk2))) kk1)) .skip))))
noncomputable def FS(sm ip va tu:Nat):PS:=(.seq (.ite (.or (ss3 (.cmp .ne (.call sm (ss1 vv1)) vv1) (.nt (.call ip (ss1 (.idx vv0 kk1)))) (.nt (.call ip (ss1 (.idx vv0 kk2)))))) (.seq (.ret (.cbool false)) .skip) .skip)
 (Fg va tu))
noncomputable def rh(wh sm ip va tu:Nat):PS:=(.seq (.ite (.or (ss3 (.nt (.isi vv0 [.tuple])) (.cmp .ne (.bi .len (ss1 vv0)) kk3) (.nt (.isi (.idx vv0 kk0) [.tuple])))) (.seq (.ret (.cbool false)) .skip) .skip)
 (.seq (.assign 1 (.bi .list (ss1 (.idx vv0 kk0))))
 (.seq (.ite (.or (ss3 (.cmp .lt (.bi .len (ss1 vv1)) kk2) (.cmp .gt (.bi .len (ss1 (zWh wh))) kk0) (.cmp .lt (.idx vv1 (.neg kk1)) kk1))) (.seq (.ret (.cbool false)) .skip) .skip)
 (FS sm ip va tu))))
noncomputable def ngL:PE:=.bin .sub kk0 vv1
noncomputable def Ck:PE:=(.and (ss2 vv1 (.cmp .eq (.idx vv1 (.neg kk1)) kk0)))
noncomputable def x7:PS:=(.seq (.assign 1 (.bi .list (ss1 vv0)))
 (.seq (.whl Ck (.seq (.pop 1) .skip))
 (.seq (.ret vv1) .skip)))
noncomputable def lWl:PS:=(.seq (.setidx 4 (.bin .add vv5 vv6) (.bin .sub (.idx vv4 (.bin .add vv5 vv6)) (.bin .mul vv2 (.idx vv1 vv6))))
 .skip)
noncomputable def bWl:PS:=(.seq (.assign 4 (.comp (.bin .mul vv0 vv1) 1 [3] (.seq vv0) .no))
 (.seq (.assign 5 (.bin .sub (.bi .len (ss1 vv0)) (.bi .len (ss1 vv1))))
 (.seq (.forr 6 (.rng (ss1 (.bi .len (ss1 vv1)))) lWl)
 (.seq (.ret vv4) .skip))))
noncomputable def ngQ:PE:=.neg vv1
noncomputable def tR:PE:=(.cmp .ge (.bi .len (ss1 vv2)) (.bi .len (ss1 vv1)))
noncomputable def uK(tr wl re:Nat):PS:=(.seq (.assign 2 (.call tr (ss1 (.call wl (.cons vv2 (ss3 vv1 (.idx vv2 (.neg kk1)) (.idx vv1 (.neg kk1))))))))
 (.seq (.ite vv2 (.seq (.assign 2 (.call re (ss1 vv2)))
 .skip) .skip)
 .skip))
noncomputable def xb(tr wl re:Nat):PS:=(.seq (.assign 2 (.bi .list (ss1 vv0)))
 (.seq (.whl tR (uK tr wl re))
 (.seq (.ret vv2) .skip)))
noncomputable def uj(ro:Nat):PS:=(.seq (.assign 2 (.call ro (ss2 vv0 vv1)))
 (.seq (.assign 0 vv1)
 (.seq (.assign 1 vv2)
 .skip)))
noncomputable def oo(ro re:Nat):PS:=(.seq (.whl vv1 (uj ro))
 (.seq (.ret (.call re (ss1 vv0)))
 .skip))
noncomputable def so:PS:=(.seq (.ret (.comp (.bin .mul vv0 (.idx vv1 vv0)) 1 [0] (.rng (ss2 kk1 (.bi .len (ss1 vv0)))) .no))
 .skip)
noncomputable def B7(wl:Nat):PS:=(.seq (.assign 4 (.bin .fdiv (.idx vv2 (.neg kk1)) (.idx vv1 (.neg kk1))))
 (.seq (.app 3 vv4)
 (.seq (.assign 2 (.call wl (.cons vv2 (ss3 vv1 vv4 kk1))))
 (.seq (.pop 2)
 .skip))))
noncomputable def yg(wl:Nat):PS:=(.seq (.assign 2 (.bi .list (ss1 vv0)))
 (.seq (.assign 3 (.lst .nil))
 (.seq (.whl tR (B7 wl))
 (.seq (.rev 3) (.seq (.ret vv3) .skip)))))
noncomputable def rO(pa:Nat):PS:=(.seq (.ret (.call pa (ss2 (.bin .mul (.idx vv0 kk0) (.idx vv1 kk0)) (.bin .mul (.idx vv0 kk1) (.idx vv1 kk1)))))
 .skip)
noncomputable def BJ:PS:=(.seq (.ret (.tup (ss2 (.neg (.idx vv0 kk0)) (.idx vv0 kk1))))
 .skip)
noncomputable def tJ(be ps ta:Nat):PE:=(.call be (ss2 vv1 (.call ps (ss2 vv4 (.call ta (ss1 vv3))))))
noncomputable def rj(sg:Nat):PS:=(.seq (.ite (.cmp .eq vv6 (.call sg (ss2 vv2 vv3))) (.seq (.assign 3 vv5)
 .skip) (.seq (.assign 4 vv5)
 .skip))
 .skip)
noncomputable def uF(ps pr ta sg:Nat):PS:=(.seq (.assign 5 (.call pr (ss2 (.call ps (ss2 vv3 vv4)) (.glob (Str.ofString "HALF") 1 2))))
 (.seq (.assign 6 (.call sg (ss2 vv2 vv5)))
 (.seq (.ite (.cmp .eq vv6 kk0) (.seq (.assign 7 (.call pr (ss2 vv1 (.glob (Str.ofString "QUARTER") 1 4))))
 (.seq (.ret (.tup (ss3 vv2 (.call ps (ss2 vv5 (.call ta (ss1 vv7)))) (.call ps (ss2 vv5 vv7)))))
 .skip)) .skip)
 (rj sg))))
noncomputable def rR(kc be ps pr ta sg:Nat):PS:=(.seq (.ite (.cmp .le (.idx vv1 kk0) kk0) (.seq (.raise kc)
 .skip) .skip)
 (.seq (.unpack [2,3,4] vv0)
 (.seq (.whl (tJ be ps ta) (uF ps pr ta sg))
 (.seq (.ret (.tup (ss3 vv2 vv3 vv4)))
 .skip))))
noncomputable def C6(ps ta:Nat):PS:=(.seq (.ret (.call ps (ss2 (.idx vv0 kk2) (.call ta (ss1 (.idx vv0 kk1))))))
 .skip)
noncomputable def xP(na pr wo:Nat):PS:=(.seq (.ret (.call na (ss2 vv0 (.call pr (ss2 (.call wo (ss1 vv0)) (.glob (Str.ofString "HALF") 1 2))))))
 .skip)
noncomputable def qQ(re qu co sp:Nat):PS:=(.seq (.assign 1 (.call re (ss1 vv1)))
 (.seq (.ret (.call re (ss1 (.call qu (ss2 vv1 (.call co (ss2 vv1 (.call sp (ss1 vv1)))))))))
 .skip))
noncomputable def rG(tr re qu co sp:Nat):PS:=(.seq (.assign 1 (.call tr (ss1 vv0)))
 (.seq (.ite (.cmp .lt (.bi .len (ss1 vv1)) kk2) (.seq (.raise 2)
 .skip) .skip)
 (qQ re qu co sp)))
noncomputable def qB:PS:=(.seq (.ite (.cmp .lt vv0 kk0) (.seq (.ret (.neg kk1))
 .skip) .skip)
 (.seq (.ret (.bi .int (ss1 (.cmp .gt vv0 kk0))))
 .skip))
noncomputable def EG(ls:Nat):PS:=(.seq (.ite (.cmp .gt vv0 kk0) (.seq (.ret (.call ls (ss1 (.bin .sub (.bin .mul vv0 vv0) (.bin .mul (.bin .mul vv1 vv1) vv2)))))
 .skip) .skip)
 (.seq (.ret (.call ls (ss1 (.bin .sub (.bin .mul (.bin .mul vv1 vv1) vv2) (.bin .mul vv0 vv0)))))
 .skip))
noncomputable def pX(ls:Nat):PS:=(.seq (.ite (.and (ss2 (.cmp .le vv0 kk0) (.cmp .le vv1 kk0))) (.seq (.ret (.bin .sub kk0 (.bi .int (ss1 (.or (ss2 (.cmp .lt vv0 kk0) (.cmp .lt (.bin .mul vv1 vv2) kk0)))))))
 .skip) .skip)
 (EG ls))
noncomputable def DL(ls:Nat):PS:=(.seq (.ite (.and (ss2 (.cmp .ge vv0 kk0) (.cmp .ge vv1 kk0))) (.seq (.ret (.bi .int (ss1 (.or (ss2 (.cmp .gt vv0 kk0) (.cmp .gt (.bin .mul vv1 vv2) kk0))))))
 .skip) .skip)
 (pX ls))
noncomputable def wK:PS:=(.seq (.ret (.lst (ss2 (.bin .add (.bin .mul (.idx vv0 kk0) (.idx vv1 kk0)) (.bin .mul (.bin .mul vv2 (.idx vv0 kk1)) (.idx vv1 kk1))) (.bin .add (.bin .mul (.idx vv0 kk0) (.idx vv1 kk1)) (.bin .mul (.idx vv0 kk1) (.idx vv1 kk0))))))
 .skip)
noncomputable def oB(tw mu:Nat):PS:=(.seq (.assign 5 (.call mu (ss3 (.slc vv0 .no (.some kk2)) (.slc vv0 .no (.some kk2)) vv1)))
 (.seq (.assign 6 (.call mu (ss3 (.slc vv0 (.some kk2) .no) (.slc vv0 (.some kk2) .no) vv1)))
 (.seq (.ret (.bin .mul vv3 (.call tw (ss3 (.bin .sub (.idx vv5 kk0) (.bin .mul vv2 (.idx vv6 kk0))) (.bin .sub (.idx vv5 kk1) (.bin .mul vv2 (.idx vv6 kk1))) vv1))))
 .skip)))
noncomputable def yX(tw ls mu:Nat):PS:=(.seq (.assign 3 (.call tw (ss3 (.idx vv0 kk0) (.idx vv0 kk1) vv1)))
 (.seq (.assign 4 (.bin .mul (.call tw (ss3 (.idx vv0 kk2) (.idx vv0 kk3) vv1)) (.bi .int (ss1 (.cmp .gt vv2 kk0)))))
 (.seq (.ite (.cmp .ge (.bin .mul vv3 vv4) kk0) (.seq (.ret (.call ls (ss1 (.bin .add vv3 vv4))))
 .skip) .skip)
 (oB tw mu))))
noncomputable def kU(ce:Nat):PS:=(.seq (.assign 4 (.bin .add kk1 (.bin .mod (.call ce (ss2 vv0 (.bin .add vv1 kk2))) kk7)))
 (.seq (.ret (.tup (.cons vv2 (ss3 vv3 vv4 (.bin .add kk1 (.bin .mod (.bin .fdiv (.call ce (ss2 vv0 (.bin .add vv1 kk3))) kk8) GB))))))
 .skip))
noncomputable def lj(ce:Nat):PS:=(.seq (.assign 3 (.bin .add kk1 (.bin .mod (.call ce (ss2 vv0 (.bin .add vv1 kk1))) kk6)))
 (.seq (.ite (.cmp .eq (.bin .mod (.bin .fdiv (.call ce (ss2 vv0 (.bin .add vv1 kk1))) kk6) kk2) kk1) (.seq (.assign 3 (.bin .sub kk0 vv3))
 .skip) .skip)
 (kU ce)))
noncomputable def xH(ce:Nat):PS:=(.seq (.assign 2 (.bin .sub (.bin .mod (.call ce (ss2 vv0 vv1)) Hb) kk9))
 (.seq (.ite (.cmp .eq (.bin .mod (.call ce (ss2 vv0 (.bin .add vv1 kk3))) kk8) kk1) (.seq (.assign 2 (.bin .sub (.bin .mod (.call ce (ss2 vv0 vv1)) vB) (.bin .pow Gz kk6)))
 .skip) .skip)
 (lj ce)))
noncomputable def EC:PS:=(.seq (.ret (.tup (ss2 vv1 vv2)))
 .skip)
noncomputable def xm:PS:=(.seq (.ite (.cmp .eq vv3 kk5) (.seq (.assign 2 (.tup (.cons (.idx vv1 kk0) (ss3 (.idx vv1 kk1) (.idx vv1 kk2) (.idx vv1 kk3)))))
 .skip) .skip)
 EC)
noncomputable def yA:PS:=(.seq (.ite (.or (ss2 (.cmp .eq vv3 kk3) (.cmp .eq vv3 kk4))) (.seq (.assign 2 (.tup (.cons (.idx vv2 kk0) (ss3 (.idx vv2 kk1) (.idx vv2 kk2) (.idx vv1 kk3)))))
 .skip) .skip)
 xm)
noncomputable def wk:PS:=(.seq (.ite (.cmp .eq vv3 kk2) (.seq (.assign 2 (.tup (.cons (.idx vv1 kk0) (ss3 (.bin .sub kk0 (.idx vv1 kk1)) (.idx vv1 kk2) (.idx vv1 kk3)))))
 .skip) .skip)
 yA)
noncomputable def CX:PS:=(.seq (.ite (.cmp .eq vv3 kk1) (.seq (.assign 2 (.tup (.cons (.bin .sub kk0 (.idx vv1 kk0)) (ss3 (.bin .sub kk0 (.idx vv1 kk1)) (.idx vv1 kk2) (.idx vv1 kk3)))))
 .skip) .skip)
 wk)
noncomputable def bTq(ce qu:Nat):PS:=(.seq (.assign 1 (.call qu (ss2 vv0 kk0)))
 (.seq (.assign 2 (.call qu (ss2 vv0 kk4)))
 (.seq (.assign 3 (.bin .mod (.call ce (ss2 vv0 kk8)) kk8))
 CX)))
noncomputable def pZ(lp:Nat):PS:=(.seq (.ite (.cmp .gt vv1 kk0) (.seq (.ret (.tup (ss2 (.call lp (ss2 vv0 vv2)) (.call lp (ss2 (.bin .add vv0 (.bin .mul vv1 vv4)) vv2)))))
 .skip) .skip)
 (.seq (.ret (.tup (ss2 (.call lp (ss2 (.bin .add vv0 (.bin .mul vv1 vv4)) vv2)) (.call lp (ss2 vv0 vv2)))))
 .skip))
noncomputable def CD:PE:=(.cmp .le (.bin .mul vv4 vv4) vv3)
noncomputable def Cw:PS:=(.seq (.assign 4 (.bin .add vv4 kk1))
 .skip)
noncomputable def zd(lp:Nat):PS:=(.seq (.assign 4 kk1)
 (.seq (.whl CD Cw)
 (pZ lp)))
noncomputable def yY(en sm:Nat):PS:=(.seq (.assign 4 (.call en (.cons vv0 (ss3 vv1 vv2 vv3))))
 (.seq (.ret (.tup (.cons (.bi .tuple (.cons (.call sm (ss1 (.lst (ss3 (.bin .sub (.bin .mul vv0 vv0) (.bin .mul (.bin .mul vv1 vv1) vv3)) (.bin .mul (.bin .mul (.neg kk2) vv0) vv2) (.bin .mul vv2 vv2))))) .nil)) (ss2 (.idx vv4 kk0) (.idx vv4 kk1)))))
 .skip))
noncomputable def slx(b:Bool)(i:Nat):PE:=match b with|true=>.slc (.var i) .no (.some kk2) |false=>.slc (.var i) (.some kk2) .no
noncomputable def mlx(mu:Nat)(b c:Bool):PE:=.call mu (ss3 (slx b 0) (slx c 1) vv2)
noncomputable def qO(mu:Nat):PS:=(.seq (.assign 4 (mlx mu true true))
 (.seq (.assign 5 (mlx mu false false))
 (.seq (.assign 6 (mlx mu true false))
 (.seq (.assign 7 (mlx mu false true))
 (.seq (.ret (.lst (.cons (.bin .add (.idx vv4 kk0) (.bin .mul vv3 (.idx vv5 kk0))) (ss3 (.bin .add (.idx vv4 kk1) (.bin .mul vv3 (.idx vv5 kk1))) (.bin .add (.idx vv6 kk0) (.idx vv7 kk0)) (.bin .add (.idx vv6 kk1) (.idx vv7 kk1))))))
 .skip)))))
noncomputable def qE:PS:=(.seq (.ret (.comp (.bin .mul vv1 vv0) 1 [1] (.seq vv0) .no))
 .skip)
noncomputable def xN:PS:=(.seq (.ret (.comp (.bin .add (.idx vv1 vv0) (.idx vv2 vv0)) 1 [0,1] (.rng (ss1 kk4)) .no))
 .skip)
noncomputable def we(pa pr:Nat):PS:=(.seq (.app 3 (.call pr (ss2 vv5 (.call pa (ss2 (.neg kk1) (.idx vv0 vv2))))))
 .skip)
noncomputable def oG(ps pr:Nat):PS:=(.seq (.ite (.cmp .eq vv6 vv4) (.seq (.assign 5 (.call ps (ss2 vv5 (.tup (ss2 (.bin .mul vv4 (.idx vv0 (.bin .sub vv2 vv6))) kk1)))))
 .skip) (.seq (.assign 5 (.call ps (ss2 vv5 (.call pr (ss2 (.tup (ss2 (.idx vv0 (.bin .sub vv2 vv6)) kk1)) (.idx vv3 (.bin .sub vv4 vv6)))))))
 .skip))
 .skip)
noncomputable def oH(pa ps pr:Nat):PS:=(.seq (.assign 5 (.glob (Str.ofString "NOUGHT") 0 1))
 (.seq (.forr 6 (.rng (ss2 kk1 (.bin .add (.bi .min (ss2 vv4 vv2)) kk1))) (oG ps pr))
 (we pa pr)))
noncomputable def C3(pa ps pr:Nat):PS:=(.seq (.assign 2 (.bin .sub (.bi .len (ss1 vv0)) kk1))
 (.seq (.assign 3 (.lst (ss1 (.call pa (ss2 vv2 kk1)))))
 (.seq (.forr 4 (.rng (ss2 kk1 (.bin .add vv1 kk1))) (oH pa ps pr))
 (.seq (.ret vv3) .skip))))
noncomputable def Er(ta:Nat):PS:=(.seq (.ite (.cmp .eq (.bin .mod vv1 kk2) kk1) (.seq (.ret (.call ta (ss1 vv0)))
 .skip) .skip)
 (.seq (.ret vv0) .skip))
noncomputable def w9(ps pr sg:Nat):PS:=(.seq (.assign 4 (.call ps (ss2 vv4 (.call sg (ss2 (.call pr (ss2 (.idx vv2 (.bin .sub vv3 vv5)) (.idx vv0 vv5))) (.bin .sub vv5 kk1))))))
 .skip)
noncomputable def ER(pr:Nat):PS:=(.seq (.app 2 (.call pr (ss2 vv4 (.tup (ss2 kk1 vv3)))))
 .skip)
noncomputable def yp(ps pr sg:Nat):PS:=(.seq (.assign 4 (.glob (Str.ofString "NOUGHT") 0 1))
 (.seq (.forr 5 (.rng (ss2 kk1 (.bin .add vv3 kk1))) (w9 ps pr sg))
 (ER pr)))
noncomputable def wT(sg:Nat):PS:=(.seq (.assign 9 (.call sg (ss2 (.idx vv2 vv5) vv5)))
 (.seq (.app 8 (.bin .mul (.idx vv9 kk0) (.bin .fdiv vv6 (.idx vv9 kk1))))
 .skip))
noncomputable def CK(sg pl:Nat):PS:=(.seq (.assign 8 (.lst .nil))
 (.seq (.forr 5 (.rng (ss3 vv1 (.neg kk1) (.neg kk1))) (wT sg))
 (.seq (.ret (.call pl (ss1 vv8))) .skip)))
noncomputable def v7(dv:Nat):PS:=(.seq (.assign 6 (.bin .fdiv (.bin .mul vv6 (.idx vv7 kk1)) (.call dv (ss2 vv6 (.idx vv7 kk1)))))
 .skip)
noncomputable def C1(dv sg pl:Nat):PS:=(.seq (.assign 6 kk1)
 (.seq (.forr 7 (.seq vv2) (v7 dv))
 (CK sg pl)))
noncomputable def bRo(dv ps pr sg pl:Nat):PS:=(.seq (.assign 1 (.bin .sub (.bi .len (ss1 vv0)) kk1))
 (.seq (.assign 2 (.lst (ss1 (.glob (Str.ofString "ONE") 1 1))))
 (.seq (.forr 3 (.rng (ss2 kk1 (.bin .add vv1 kk1))) (yp ps pr sg))
 (C1 dv sg pl))))
noncomputable def Gk:PE:=(.bin .add (.idx vv1 vv0) (.idx vv1 (.bin .add vv0 kk1)))
noncomputable def yE:PS:=(.seq (.app 5 vv8)
 (.seq (.assign 6 (.bin .add (.bin .add (.lst (ss1 kk1)) (.comp Gk 1 [6] (.rng (ss1 vv7)) .no)) (.lst (ss1 kk1))))
 .skip))
noncomputable def oS(ps pr:Nat):PS:=(.seq (.assign 10 (.call pr (ss2 (.idx vv3 vv9) (.idx vv4 (.bin .sub vv7 vv9)))))
 (.seq (.assign 8 (.call ps (ss2 vv8 (.call pr (ss2 (.tup (ss2 (.idx vv6 vv9) kk1)) Dq)))))
 .skip))
noncomputable def pQ(ps pr:Nat):PS:=(.seq (.assign 8 (.glob (Str.ofString "NOUGHT") 0 1))
 (.seq (.forr 9 (.rng (ss1 (.bin .add vv7 kk1))) (oS ps pr))
 yE))
noncomputable def xF(pr:Nat):PE:=(.call pr (ss2 (.idx vv1 vv0) (.idx vv2 vv0)))
noncomputable def rU(sg tu:Nat):PS:=(.seq (.ret (.and (ss3 (.cmp .ne (.call sg (ss2 vv0 vv1)) kk0) (.cmp .ne (.call sg (ss2 vv0 vv2)) kk0) (.cmp .eq (.call tu (ss3 vv0 vv1 vv2)) kk1))))
 .skip)
noncomputable def Du(ia:Nat):PE:=(.nt (.call ia (ss3 vv0 vv4 vv5)))
noncomputable def E9(ha bd:Nat):PS:=(.seq (.assign 2 (.call ha (ss1 vv2)))
 (.seq (.assign 3 (.call ha (ss1 vv3)))
 (.seq (.unpack [4,5] (.callv 1 bd (ss2 vv2 vv3)))
 .skip)))
noncomputable def E3:PS:=(.seq (.ret (.tup (ss3 (.bi .tuple (ss1 vv0)) vv4 vv5)))
 .skip)
noncomputable def Et(ia ha bd:Nat):PS:=(.seq (.unpack [4,5] (.callv 1 bd (ss2 vv2 vv3)))
 (.seq (.whl (Du ia) (E9 ha bd))
 E3))
noncomputable def yV(ps:Nat):PS:=(.seq (.ret (.tup (ss2 (.call ps (ss2 (.idx vv0 kk1) (.idx vv1 kk1))) (.call ps (ss2 (.idx vv0 kk2) (.idx vv1 kk2))))))
 .skip)
noncomputable def Fe:PS:=(.seq (.ret (.tup (ss2 vv5 vv6)))
 .skip)
noncomputable def Bb(be:Nat):PS:=(.seq (.ite (.call be (ss2 vv6 vv7)) (.seq (.assign 6 vv7)
 .skip) .skip)
 .skip)
noncomputable def xC(be:Nat):PS:=(.seq (.ite (.call be (ss2 vv7 vv5)) (.seq (.assign 5 vv7)
 .skip) .skip)
 (Bb be))
noncomputable def CQ(be:Nat):PS:=(.seq (.assign 5 (.idx vv2 kk0))
 (.seq (.assign 6 (.idx vv2 kk0))
 (.seq (.forr 7 (.seq vv2) (xC be))
 Fe)))
noncomputable def GA(pr:Nat):PS:=(.seq (.app 2 (.call pr (ss2 vv3 vv4)))
 .skip)
noncomputable def Fp(pr:Nat):PS:=(.seq (.forr 4 (.seq (.tup (ss2 (.idx vv1 kk1) (.idx vv1 kk2)))) (GA pr))
 .skip)
noncomputable def bPB(be pr:Nat):PS:=(.seq (.assign 2 (.lst .nil))
 (.seq (.forr 3 (.seq (.tup (ss2 (.idx vv0 kk1) (.idx vv0 kk2)))) (Fp pr))
 (CQ be)))
noncomputable def CP(pw ps pr st ro bd:Nat):PS:=(.seq (.assign 2 (.bin .mul (.bin .sub (.bi .len (ss1 (.idx vv0 kk0))) kk1) (.bin .sub (.bi .len (ss1 (.idx vv1 kk0))) kk1)))
 (.seq (.assign 3 (.call pw (ss2 (.idx vv0 kk0) vv2)))
 (.seq (.assign 4 (.call pw (ss2 (.idx vv1 kk0) vv2)))
 (.seq (.assign 5 (.lst .nil))
 (.seq (.assign 6 (.lst (ss1 kk1)))
 (.seq (.forr 7 (.rng (ss1 (.bin .add vv2 kk1))) (pQ ps pr))
 (.seq (.ret (.call st (.cons (.call ro (ss1 vv5)) (ss3 (.fnv bd) vv0 vv1))))
 .skip)))))))
noncomputable def DP(st ro bd:Nat):PS:=(.seq (.ret (.call st (.cons (.call ro (ss1 vv5)) (ss3 (.fnv bd) vv0 vv1))))
 .skip)
noncomputable def E0(pw pr st ro bd:Nat):PS:=(.seq (.assign 2 (.bin .mul (.bin .sub (.bi .len (ss1 (.idx vv0 kk0))) kk1) (.bin .sub (.bi .len (ss1 (.idx vv1 kk0))) kk1)))
 (.seq (.assign 3 (.call pw (ss2 (.idx vv0 kk0) vv2)))
 (.seq (.assign 4 (.call pw (ss2 (.idx vv1 kk0) vv2)))
 (.seq (.assign 5 (.comp (xF pr) 1 [3,4] (.rng (ss1 (.bin .add vv2 kk1))) .no))
 (DP st ro bd)))))
noncomputable def y5:PS:=(.seq (.setidx 1 vv2 (.neg (.idx vv1 vv2)))
 .skip)
noncomputable def DC(re ta:Nat):PS:=(.seq (.ret (.tup (ss3 (.bi .tuple (ss1 (.call re (ss1 vv1)))) (.call ta (ss1 (.idx vv0 kk2))) (.call ta (ss1 (.idx vv0 kk1))))))
 .skip)
noncomputable def EW(re ta:Nat):PS:=(.seq (.assign 1 (.comp vv0 1 [] (.seq (.idx vv0 kk0)) .no))
 (.seq (.forr 2 (.rng (ss3 kk1 (.bi .len (ss1 vv1)) kk2)) y5)
 (DC re ta)))
noncomputable def Fu:PS:=(.seq (.ret (.neg kk1))
 .skip)
noncomputable def wy(sg:Nat):PS:=(.seq (.ite (.cmp .eq (.call sg (ss2 vv1 vv2)) (.call sg (ss2 vv1 (.tup (ss2 kk0 kk1))))) (.seq (.ret kk1)
 .skip) .skip)
 Fu)
noncomputable def xq(sg:Nat):PS:=(.seq (.ite (.cmp .eq (.idx vv1 kk0) kk0) (.seq (.ret kk0)
 .skip) .skip)
 (wy sg))
noncomputable def wI(sg:Nat):PS:=(.seq (.ite (.cmp .le (.idx vv3 kk0) kk0) (.seq (.ret (.neg kk1))
 .skip) .skip)
 (xq sg))
noncomputable def bSp(sg:Nat):PS:=(.seq (.unpack [1,2,3] vv0)
 (.seq (.ite (.cmp .ge (.idx vv2 kk0) kk0) (.seq (.ret kk1)
 .skip) .skip)
 (wI sg)))
noncomputable def tt(re tr pa ti:Nat):PS:=(.seq (.assign 2 (.bi .tuple (.cons (.call re (ss1 (.call tr (ss1 (.bi .listrev (ss1 (.idx vv1 kk0))))))) .nil)))
 (.seq (.assign 3 (.call pa (ss2 (.idx (.idx vv1 kk2) kk1) (.idx (.idx vv1 kk2) kk0))))
 (.seq (.assign 4 (.call pa (ss2 (.idx (.idx vv1 kk1) kk1) (.idx (.idx vv1 kk1) kk0))))
 (.seq (.ret (.call ti (ss2 vv0 (.tup (ss3 vv2 vv3 vv4)))))
 .skip))))
noncomputable def Fo:PE:=(.and (ss2 (.cmp .le (.idx (.idx vv1 kk1) kk0) kk0) (.cmp .ge (.idx (.idx vv1 kk2) kk0) kk0)))
noncomputable def Gv(ha:Nat):PS:=(.seq (.assign 1 (.call ha (ss1 vv1)))
 .skip)
noncomputable def tU(ha re tr pa ti:Nat):PS:=(.seq (.whl Fo (Gv ha))
 (tt re tr pa ti))
noncomputable def pY(kc sp ha re tr pa ti:Nat):PS:=(.seq (.ite (.cmp .eq (.call sp (ss1 vv1)) kk0) (.seq (.raise kc)
 .skip) .skip)
 (tU ha re tr pa ti))
noncomputable def Dp(fo an ma:Nat):PS:=(.seq (.assign 9 (.call fo (ss3 vv2 vv3 vv4)))
 (.seq (.assign 10 (.call an (ss2 (.call ma (ss2 vv1 (.idx (.idx vv0 kk1) kk1))) (.call ma (ss2 vv2 (.bin .sub kk0 (.idx (.idx vv0 kk1) kk0)))))))
 (.seq (.assign 11 (.call an (ss2 (.call ma (ss2 vv1 (.idx (.idx vv0 kk2) kk1))) (.call ma (ss2 vv2 (.bin .sub kk0 (.idx (.idx vv0 kk2) kk0)))))))
 (.seq (.ret (.and (ss2 (.cmp .gt (.bin .mul (.call fo (ss3 Dq vv3 vv4)) vv9) kk0) (.cmp .lt (.bin .mul (.call fo (ss3 BA vv3 vv4)) vv9) kk0))))
 .skip))))
noncomputable def lHo(an pd ma:Nat):PS:=(.seq (.assign 6 (.call an (ss2 (.call pd (.cons vv6 (ss3 vv1 vv3 vv4))) (.call ma (ss2 vv7 (.idx vv5 vv8))))))
 (.seq (.assign 7 (.call pd (.cons vv7 (ss3 vv2 vv3 vv4))))
 .skip))
noncomputable def bHo(fo an pd ma:Nat):PS:=(.seq (.assign 5 (.idx vv0 kk0))
 (.seq (.assign 6 (.lst (.cons kk0 (ss3 kk0 kk0 kk0))))
 (.seq (.assign 7 (.lst (.cons kk1 (ss3 kk0 kk0 kk0))))
 (.seq (.forr 8 (.rng (ss3 (.bin .sub (.bi .len (ss1 vv5)) kk1) (.neg kk1) (.neg kk1))) (lHo an pd ma))
 (.seq (.ite (.cmp .ne (.call fo (ss3 vv6 vv3 vv4)) kk0) (.seq (.ret (.cbool false))
 .skip) .skip)
 (Dp fo an ma))))))
structure TT (P:List Fn):Prop where
 a0:P[0]?=some ⟨2,3,x6⟩
 a1:P[1]?=some ⟨2,3,n4 0⟩
 a2:P[2]?=some ⟨2,2,qX⟩
 a3:P[3]?=some ⟨2,2,v5 1⟩
 a4:P[4]?=some ⟨2,2,rO 1⟩
 a5:P[5]?=some ⟨1,1,BJ⟩
 a6:P[6]?=some ⟨2,5,xI⟩
 a7:P[7]?=some ⟨1,2,x7⟩
 a8:P[8]?=some ⟨1,3,vk 0 ngQ⟩
 a9:P[9]?=some ⟨1,1,so⟩
 a10:P[10]?=some ⟨4,7,bWl⟩
 a11:P[11]?=some ⟨2,3,xb 7 10 8⟩
 a12:P[12]?=some ⟨2,3,oo 11 8⟩
 a13:P[13]?=some ⟨2,5,yg 10⟩
 a14:P[14]?=some ⟨1,2,rG 7 8 13 12 9⟩
 a15:P[15]?=some ⟨3,5,DN⟩
 a16:P[16]?=some ⟨3,9,vU 15⟩
 a17:P[17]?=some ⟨3,6,rI 16⟩
 a18:P[18]?=some ⟨3,3,rU 6 17⟩
 a19:P[19]?=some ⟨1,1,C6 3 5⟩
 a20:P[20]?=some ⟨2,8,rR 3 2 3 4 5 6⟩
 a21:P[21]?=some ⟨1,1,xP 20 4 19⟩
 a22:P[22]?=some ⟨1,4,bSp 6⟩
 a23:P[23]?=some ⟨2,7,C3 1 3 4⟩
 a24:P[24]?=some ⟨2,2,Er 5⟩
 a25:P[25]?=some ⟨1,10,bRo 0 3 4 24 14⟩
 a26:P[26]?=some ⟨4,6,Et 18 21 27⟩
 a27:P[27]?=some ⟨2,2,yV 3⟩
 a28:P[28]?=some ⟨2,8,bPB 2 4⟩
 a29:P[29]?=some ⟨2,11,CP 23 3 4 26 25 27⟩
 a30:P[30]?=some ⟨2,6,E0 23 4 26 25 28⟩
 a31:P[31]?=some ⟨1,3,EW 8 5⟩
 a33:P[33]?=some ⟨2,5,pY 5 22 21 8 7 1 30⟩
 a34:P[34]?=some ⟨1,1,w7⟩
 a35:P[35]?=some ⟨2,2,yF⟩
 a36:P[36]?=some ⟨2,3,Ej⟩
 a37:P[37]?=some ⟨2,3,uB 36⟩
 a38:P[38]?=some ⟨1,3,vk 36 ngL⟩
 a39:P[39]?=some ⟨2,5,EA⟩
 a40:P[40]?=some ⟨2,5,bBy⟩
 a41:P[41]?=some ⟨3,7,qF 40⟩
 a42:P[42]?=some ⟨3,6,od 41⟩
 a43:P[43]?=some ⟨1,1,n7 34 37⟩
 a44:P[44]?=some ⟨1,4,rh 34 38 43 39 42⟩
 a45:P[45]?=some ⟨1,1,qB⟩
 a46:P[46]?=some ⟨3,3,DL 45⟩
 a47:P[47]?=some ⟨3,7,yX 46 45 48⟩
 a48:P[48]?=some ⟨3,3,wK⟩
 a49:P[49]?=some ⟨4,8,qO 48⟩
 a50:P[50]?=some ⟨2,2,qE⟩
 a51:P[51]?=some ⟨2,2,xN⟩
 a52:P[52]?=some ⟨4,5,zd 37⟩
 a53:P[53]?=some ⟨4,5,yY 52 38⟩
 a54:P[54]?=some ⟨2,5,xH 35⟩
 a55:P[55]?=some ⟨1,4,bTq 35 54⟩
 a56:P[56]?=some ⟨5,12,bHo 47 51 49 50⟩
noncomputable def cP(ns:List Int)(k:Nat):Int:=ns.getD k 0
section
variable {sub:Nat->Nat->Bool}{P:List Fn}{f n:Nat}{H:Hp}{Q:V->Hp->Prop}{X:Nat->Hp->Prop}
theorem aj{d:Fn}{vs:List V}(e:P[f]?=some d)(hl:vs.length=d.np)(h:wpS sub (ag sub P n) (fun m=>H.length<=m) d.body (cI d.np d.nv vs) H (fun _ H'=>Q .none H') Q X):ag sub P (n+1) f vs H Q X:=⟨d,e,hl,h⟩
theorem eQ(zT:TT P){m:Nat}{ns:List Int}{k:Int}(hk:0<=k)(hH:H[m]?=some (ns.map .int))(hQ:Q (.int (cP ns k.toNat)) H):ag sub P (n+1) 35 [.lst m,.int k] H Q X:=by
 refine aj zT.a35 rfl ?_
 dsimp only[yF,qS1,qS2,qS9,bC,qE1,qE5,br,bV,aV,aC,aD,fJ,cS,bZ,aU,aB,az,aw,av,aA,au,aa,ah,Nat.reduceSub]
 refine ifSome.mk hH ?_
 rw[Hi]
 by_cases h:k<ns.length
 ·rw[if_pos (decide_eq_true h)]
  have hl:k.toNat<ns.length:=(Int.toNat_lt hk).mpr h
  refine ifSome.mk hH (ifSome.mk (v:=k.toNat) ?_ (ifSome.mk (v:=.int ns[k.toNat]) ?_ ?_))
  ·rw[Hi,cf,if_pos hk,if_pos h]
  ·rw[HL,Hx hl];rfl
  ·rw[cP,HB,Hx hl] at hQ;exact hQ
 ·rw[if_neg (by rw[IR];exact h)]
  rw[cP,HB,List.getElem?_eq_none ((Int.le_toNat hk).mpr (JG.mp h))] at hQ
  exact hQ
noncomputable def B8(ρ:Loc)(i:Nat):Nat:=match ah ρ i with|some (.int y)=>y.natAbs|_=>0
theorem uQ(zT:TT P){a b:Int}(hQ:Q (.int (a.gcd b:Nat)) H):ag sub P (n+1) 36 [.int a,.int b] H Q X:=by
 refine aj zT.a36 rfl ?_
 dsimp only[Ej,qS1,qS2,qS9,lr,qE1,qE5,br,bV,aC,aD,aB,az,aw,av,aM,aA,au,Nat.reduceSub]
 refine ⟨fun ρ H'=>∃x y o,ρ=[some (.int x),some (.int y),o]/\H'=H/\x.gcd y=a.gcd b,fun ρ _=>B8 ρ 1,⟨a,b,_,rfl,rfl,rfl⟩,?_⟩
 intro ρ H' zr5;refine cV (zr5) fun x y o zq7 zq8 hg=>?_;subst zq7;subst zq8
 dsimp only[Fl,qS1,qS2,qS3,qE5,qE8,yG,l4,Ce,aU,aa,ah,aE]
 by_cases hy:y=0
 ·subst hy
  have:(if x<0 then -x else x)=((a.gcd b:Nat):Int):=by
   rw[<- hg,Int.gcd_zero_right]
   split <;> omega
  show Q (.int (if x<0 then -x else x)) _
  rw[this];exact hQ
 ·rw[decide_eq_false hy]
  exact ⟨hy,⟨y,x.fmod y,_,rfl,rfl,by rw[xo];exact hg⟩,gu hy⟩
theorem nE(zT:TT P){x:Int}(hQ:Q (.bool true) H):ag sub P (n+1) 34 [.int x] H Q X:=
 aj zT.a34 rfl hQ
theorem Ee(zT:TT P){a b:Int}(hb:0<b)(hs:Sm 2000000 b)
  (hQ:∀p q:Int,p*(a.gcd b:Nat)=a->q*(a.gcd b:Nat)=b->Q (.tup [.int p,.int q]) H):ag sub P (n+2) 37 [.int a,.int b] H Q X:=by
 refine aj zT.a37 rfl ?_
 dsimp only[uB,qS1,qS2,qS3,qS9,bC,qE1,qE5,qE8,br,aS,dW,aC,aD,fJ,aU,aB,az,aw,av,aM,aA,au,aa,ah,aE,Nat.reduceSub]
 refine uQ zT ?_
 have hnb:¬ b<0:=JG.mpr (HZ hb)
 rw[decide_eq_false hnb]
 have h0:0<a.gcd b:=JF a (Ho hb)
 have hd1:((a.gcd b:Nat):Int) ∣ a:=Int.gcd_dvd_left a b
 have hd2:((a.gcd b:Nat):Int) ∣ b:=Kc a b
 have hle:a.gcd b<=b.natAbs:=Ko (Je.mpr (Ho hb)) (IN.mpr hd2)
 have hok:iK ((a.gcd b:Nat):Int):=Int.natCast_ne_zero.mpr (Nat.ne_of_gt h0)
 exact ⟨hok,hok,hQ _ _ (Iz hd1) (Iz hd2)⟩
end
end Mine
namespace Mine
open PySem
theorem jm{x:V}{k:Int}{H:Hp}{Q:V->Hp->Prop}:d8 x (.int k) H Q=ifSome (items H x) fun xs=>ifSome (cf xs.length k) fun i=>ifSome xs[i]? fun v=>Q v H:=rfl
theorem xR{x:V}{H:Hp}{Q:V->Hp->Prop}:kO .len [x] H Q=ifSome (items H x) fun xs=>Q (.int xs.length) H:=rfl
theorem aL{n k:Nat}(h:k<n):cf n (k:Int)=some k:=by
 rw[cf,if_pos (Ix k),if_pos (Int.ofNat_lt.mpr h)];rfl
theorem dq{n:Nat}(h:1<=n):cf n (-1)=some (n-1):=by
 rw[cf,if_neg (by decide),if_pos (by exact oqz [n] [] [(.le 1 Y0)] (.il 0 (.a (.g 1) (.c Y0))) [11] rfl h)];congr 1;exact oqz [(-1+(↑n:Int)).toNat,n,n-1] [] [(otn (.a (.g 1) (.c Y1)) Y0),(osb Y1 1 Y2)] (.eq Y0 Y2) [1001001,100001,1000011,100101,10101,101] rfl (aR (-1+(↑n:Int))) (am (n) (1))
theorem gG{β:Type}(H:List β)(x y z:β)(K:List β):(H++x::y::K).set (H.length+1) z=H++x::z::K:=by
 rw[List.set_append_right _ _ (by exact lin [H.length] [] Y0 (.a Y0 (.n 1)) rfl )];simp
theorem cr{H H':Hp}{v:V}{xs:List V}(h:H<+:H')(e:items H v=some xs):items H' v=some xs:=by
 cases v <;> first|exact e|exact ao h e
theorem ck{k:Nat}{β:Type}{x:β}{r:List β}:List.range' k (x::r).length=k::List.range' (k+1) r.length:=List.range'_succ ..
theorem fW{g:V->V}{step:V->Hp->(Option V->Hp->Prop)->Prop}{H:Hp}:∀ {xs:List V}{Q:List V->Hp->Prop},(∀x∈xs,∀k:Option V->Hp->Prop,k (some (g x)) H->step x H k)->Q (xs.map g) H->dm step xs H Q
 | [],_,_,h=>h
 |x::xs,Q,hs,h=>hs x Hy _ (fW (g:=g) (fun y hy=>hs y (Hz _ hy)) h)
theorem gi{β:Type}{h g:β->V}{step:V->Hp->(Option V->Hp->Prop)->Prop}{H:Hp}:∀ {xs:List β}{Q:List V->Hp->Prop},(∀x∈xs,∀k:Option V->Hp->Prop,k (some (g x)) H->step (h x) H k)->Q (xs.map g) H->dm step (xs.map h) H Q
 | [],_,_,hq=>hq
 |x::xs,Q,hs,hq=>hs x Hy _ (gi (g:=g) (fun y hy=>hs y (Hz _ hy)) hq)
theorem eP{g:Nat->V}{step:V->Hp->(Option V->Hp->Prop)->Prop}{H:Hp}:∀ {n a:Nat}{Q:List V->Hp->Prop},(∀i,i<a+n->∀k:Option V->Hp->Prop,k (some (g i)) H->step (.int (i:Int)) H k)->Q ((List.range' a n).map g) H->dm step ((List.range' a n).map fun (i:Nat)=>V.int (i:Int)) H Q
 |0,_,_,_,h=>h
 |n+1,a,Q,hs,h=>hs a (by exact lin [a,n] [] (.a Y0 (.n 1)) (.a Y0 (.a Y1 (.n 1))) rfl ) _ (eP (g:=g) (fun i hi=>hs i (by exact lin [i,a,n] [(1,(.a Y0 (.n 1)),(.a (.a Y1 (.n 1)) Y2))] (.a Y0 (.n 1)) (.a Y1 (.a Y2 (.n 1))) rfl hi)) h)
theorem mB{xs ys:List Int}{f:Int->Int->Int}(h:xs.length=ys.length):((List.range' 0 xs.length).map fun i=>V.int (f (xs.getD i 0) (ys.getD i 0)))=(List.zipWith f xs ys).map V.int:=by
 apply List.ext_getElem
 ·simp[h]
 ·intro i h1 h2
  simp at h1 h2
  have h3:i<ys.length:=by exact lin [xs.length,ys.length,i,(List.map (fun i=>V.int (f (xs.getD i 0) (ys.getD i 0))) (List.range' 0 xs.length)).length,(List.map V.int (List.zipWith f xs ys)).length] [(1,Y0,Y1),(1,(.a Y2 (.n 1)),Y0)] (.a Y2 (.n 1)) Y1 rfl (IE h) h1
  simp[h1,h3]
noncomputable def AllSm(k:Nat)(xs:List Int):Prop:=∀x∈xs,Sm k x
theorem AllSm.mono{k l:Nat}{xs:List Int}(h:AllSm k xs)(hl:k<=l):AllSm l xs:=fun x hx=>(h x hx).mono hl
theorem AllSm.cons{k:Nat}{x:Int}{xs:List Int}(h:Sm k x)(h':AllSm k xs):AllSm k (x::xs):=fun y hy=>by
 cases hy with
 |head=>exact h
 |tail _ hy=>exact h' y hy
theorem AllSm.hd{k:Nat}{x:Int}{xs:List Int}(h:AllSm k (x::xs)):Sm k x:=h x Hy
theorem AllSm.tl{k:Nat}{x:Int}{xs:List Int}(h:AllSm k (x::xs)):AllSm k xs:=fun y hy=>h y (Hz _ hy)
theorem AllSm.nil{k:Nat}:AllSm k []:=fun _ h=>nomatch h
theorem AllSm.mulG{k l:Nat}{a b:Int}(ha:Sm l a)(hb:Sm l b):∀ {xs:List Int}{c:Int},AllSm k xs->Sm (k+l) c->AllSm (k+l+1) (Mine.mulG a b c xs)
 | [],c,_,hc=>.cons (hc.mono (IZ _)) .nil
 |x::r,c,h,hc=>.cons (hc.add (h.hd.mul ha)) (AllSm.mulG ha hb h.tl (h.hd.mul hb))
theorem Sm.zero{k:Nat}:Sm k 0:=Jy k
theorem AllSm.mulG0{k l:Nat}{a b:Int}(ha:Sm l a)(hb:Sm l b){xs:List Int}(h:AllSm k xs):AllSm (k+l+1) (Mine.mulG a b 0 xs):=h.mulG ha hb .zero
theorem AllSm.mulN{k l:Nat}{a b:Int}(ha:Sm l a)(hb:Sm l b){xs:List Int}(h:AllSm k xs):∀ {n:Nat},AllSm (k+n*(l+1)) (Mine.mulN a b n xs)
 |0=>h.mono (Ja _ _)
 |n+1=>((AllSm.mulN ha hb h (n:=n)).mulG0 ha hb).mono (by rw[Jo];exact lin [k,n*(l+1),l] [] (.a (.a (.a Y0 Y1) Y2) (.n 1)) (.a Y0 (.a Y1 (.a Y2 (.n 1)))) rfl )
theorem AllSm.addL{k:Nat}:∀ {xs ys:List Int},AllSm k xs->AllSm k ys->AllSm (k+1) (Mine.addL xs ys)
 | [],_,_,_=>fun _ h=>nomatch h
 |_::_,[],_,_=>fun _ h=>nomatch h
 |_::_,_::_,h1,h2=>.cons (h1.hd.add h2.hd) (AllSm.addL h1.tl h2.tl)
theorem AllSm.smul{k l:Nat}{c:Int}{xs:List Int}(hc:Sm l c)(h:AllSm k xs):AllSm (l+k) (Mine.smul c xs):=fun x hx=>by
 refine ac (HP.mp hx) fun y hy zq107=>?_;subst zq107
 exact hc.mul (h y hy)
theorem Sm.one{k:Nat}:Sm (k+1) 1:=J3 (show (1:Int).natAbs<2^1 by decide) (Ib (by decide) (Jw 1 k))
theorem AllSm.pow1{l:Nat}{s:Int}(hs:Sm l s){n:Nat}:AllSm (1+n*(l+1)) (Mine.mulN s s n [1]):=AllSm.mulN hs hs (.cons Sm.one .nil)
theorem AllSm.hs{k l:Nat}{b e s:Int}(hb:Sm l b)(he:Sm l e)(hs:Sm l s):∀ {r:List Int},AllSm k r->AllSm (k+2+r.length*(l+2)) (Mine.hs b e s r)
 | [],_=>.nil
 |c::r,h=>by
  have h1:=(AllSm.hs hb he hs h.tl).mulG0 hb he
  have h2:=AllSm.smul h.hd (AllSm.pow1 hs (n:=r.length))
  have hm:r.length*(l+1)<=r.length*(l+2):=HK _ (IZ _)
  refine AllSm.mono (AllSm.addL h1 (h2.mono ?_)) ?_
  ·exact lin [r.length*(l+1),r.length*(l+2),k,l] [(1,Y0,Y1)] (.a Y2 (.a (.n 1) Y0)) (.a (.a (.a (.a Y2 (.n 2)) Y1) Y3) (.n 1)) rfl hm
  ·rw[List.length_cons,Jo];(exact lin [k,r.length*(l+2),l] [] (.a (.a (.a (.a (.a Y0 (.n 2)) Y1) Y2) (.n 1)) (.n 1)) (.a (.a Y0 (.n 2)) (.a Y1 (.a Y2 (.n 2)))) rfl )
section
variable {sub:Nat->Nat->Bool}{P:List Fn}{n:Nat}{H:Hp}{Q:V->Hp->Prop}{X:Nat->Hp->Prop}
inductive MuI (H:Hp) (v:V) (row:List Int) (a b:Int) (rest:List V) (ρ:Loc) (H':Hp):Prop
 |mk (dn:List Int) (td:List Int) (pre:List Int) (c:Int) (o:Option V) (c0:row=dn++td) (c1:rest=(List.range' dn.length td.length).map (fun (i:Nat)=>V.int (i:Int))) (c2:ρ=[some v,some (.int a),some (.int b),some (.lst (H.length+1)),o]) (c3:H'=H++[V.int 0]::((pre:List Int).map V.int++V.int c::List.replicate td.length (V.int 0))::[]) (c4:pre.length=dn.length) (c5:pre++mulG a b c td=mulG a b 0 row)
theorem Cr(zT:TT P){v:V}{row:List Int}{a b:Int}(hv:items H v=some (row.map .int))(hl:row.length<=1000)(hb:∀x∈row,IntMulOk x a/\IntMulOk x b)
  (hQ:∀H' k,H<+:H'->H'[k]?=some ((mulG a b 0 row).map .int)->Q (.lst k) H'):ag sub P (n+1) 15 [v,.int a,.int b] H Q X:=by
 refine aj zT.a15 rfl ?_
 dsimp only[DN,qS1,qS2,qS3,qS9,dZ,qE1,qE5,qE8,bV,g7,aC,aD,qI3,aB,az,aw,av,aM,aA,au,aa,ah,aE,Nat.reduceSub]
 refine ifSome.mk (cr (af _ _) hv) ?_
 rw[Hi]
 refine ⟨.int 0,ai _ _ _,by exact oqz [row.length] [] [] (.il 0 (.a (.c Y0) 1)) [1] rfl,by unfold lim;exact oqz [row.length] [] [(.le Y0 1000)] (.il (.a (.c Y0) 1) (.c 1000000)) [11] rfl hl,?_⟩
 refine ifSome.mk (cr (ad (af _ _) (af _ _)) hv) ?_
 refine ji (aH (by rw[Hi];exact oqz [row.length] [] [] (.il (.g 1000000) (.c Y0)) [1] rfl) (by rw[Hi];exact oqz [row.length] [] [(.le Y0 1000)] (.il (.c Y0) 1000000) [11] rfl hl)) ?_
 have eH:H++[[V.int 0]]++[List.replicate ((row.length:Int)+1).toNat (V.int 0)]=H++[V.int 0]::(List.replicate (row.length+1) (V.int 0))::[]:=by
  rw[Hv,show ((row.length:Int)+1).toNat=row.length+1 by exact oqz [((↑row.length:Int)+1).toNat,row.length] [] [(otn (.a (.c Y1) 1) Y0)] (.eq Y0 (Y1+1)) [1001,10,101] rfl (aR ((↑row.length:Int)+1))];rfl
 have eL:(H++[[V.int 0]]).length=H.length+1:=by simp
 rw[eH,eL,Hi,Jh]
 refine bx (MuI H v row a b) ?_ ?_ _ _ _ ⟨[],row,[],0,_,rfl,rfl,rfl,rfl,rfl,rfl⟩
 ·rintro x xs ρ H' k zI hk;obtain ⟨dn,td,pre,c,o,hr,hx,rfl,rfl,hp,hm⟩:=zI
  cases td with
  |nil=>cases hx
  |cons y td =>
   rw[ck] at hx
   cases hx
   have hv':∀l:List V,items (H++[V.int 0]::l::[]) v=some (row.map .int):=fun l=>cr (af _ _) hv
   have hy:(row.map V.int)[dn.length]?=some (.int y):=by rw[hr,HF,Hw];have:=ai (dn.map V.int) (V.int y) (td.map V.int);rwa [Hi] at this
   have hdl:dn.length<(row.map V.int).length:=by rw[hr];simp
   have hmy:=hb y (by rw[hr];simp)
   have hpl:(pre.map V.int).length=dn.length:=by rw[Hi,hp]
   dsimp only[FP,qS1,qS2,qS5,qE1,qE5,qE8,aV,b9,d6,aa,cu,gX,ah,aE,jm,List.length_cons,List.replicate_succ]
   refine ix3 (v:=.int c) (dK _ _ _ _) (aL (k:=dn.length) (by simp;exact lin [pre.length,dn.length,td.length] [(1,Y1,Y0)] (.a Y1 (.n 1)) (.a Y0 (.a (.a Y2 (.n 1)) (.n 1))) rfl (IE (hp).symm))) (by rw[<- hpl];exact ai _ _ _) ?_
   refine ix3 (hv' _) (aL (k:=dn.length) hdl) hy ⟨hmy.1,?_⟩
   refine ⟨⟨IZ _,IQ _⟩,?_⟩
   refine ix2 (dK _ _ _ _) (aL (k:=dn.length) (by simp;exact lin [pre.length,dn.length,td.length] [(1,Y1,Y0)] (.a Y1 (.n 1)) (.a Y0 (.a (.a Y2 (.n 1)) (.n 1))) rfl (IE (hp).symm))) ?_
   rw[gG,<- hpl,cT]
   refine ix3 (v:=.int 0) (dK _ _ _ _) (aL (k:=(pre.map V.int).length+1) (by simp)) (dK _ _ _ _) ?_
   refine ix3 (v:=.int y) (hv' _) (aL (k:=(pre.map V.int).length) (by rw[hpl];exact hdl)) (by rw[hpl];exact hy) ⟨hmy.2,?_⟩
   refine ⟨⟨IZ _,IQ _⟩,?_⟩
   refine ix2 (dK _ _ _ _) (aL (k:=(pre.map V.int).length+1) (by simp)) ?_
   rw[gG,gG]
   refine hk _ _ ⟨dn++[y],td,pre++[c+y*a],0+y*b,_,by rw[hr];simp,by rw[Hl];rfl,rfl,by rw[HF,Hv];rfl,by rw[Hl,Hl,hp];rfl,?_⟩
   rw[IK,Hv];exact hm
 ·rintro ρ H' ⟨dn,td,pre,c,o,hr,hx,rfl,rfl,hp,hm⟩
  cases td with
  |cons y td=>rw[ck] at hx;cases hx
  |nil =>
   refine hQ _ _ (af _ _) ?_
   rw[dK,<- hm]
   show some (pre.map V.int++[V.int c])=some ((pre++[c]).map V.int);rw[HF];rfl
end
end Mine
namespace Mine
open PySem
theorem qT{n:Nat}(h:1<=n):cx n (-1)=n-1:=by
 obtain ⟨m,rfl⟩:=Jf h
 unfold cx
 rw[if_pos (by decide),show (-1:Int)+((1+m:Nat):Int)=(m:Int) by exact oqz [m] [] [] (.ie (.a (.g 1) (.c (1+Y0))) (.c Y0)) [1] rfl,Int.min_eq_left (by exact oqz [m] [] [] (.il (.c Y0) (.c (1+Y0))) [1] rfl),Int.max_eq_right (Ix m),Jh,IB]
theorem E5{m:Nat}{H:Hp}{Q:V->Hp->Prop}{b:Int}{xs:List V}(h:H[m]?=some xs)(hq:Q (.lst H.length) (H++[cut xs 0 (cx xs.length b)])):mL (.lst m) none (some (.int b)) H Q:=ifSome.mk h hq
theorem vQ{m:Nat}{xs:List V}{H:Hp}{Q:V->Hp->Prop}(h:items H (.lst m)=some xs)(h1:xs≠[])(hq:∀v' H',H<+:H'->items H' v'=some xs.dropLast->Q v' H'):mL (.lst m) none (some (.int (-1))) H Q:=by
 refine E5 h (hq _ _ (af _ _) ?_)
 rw[show ∀ (H:Hp) (n:Nat),items H (.lst n)=H[n]? from fun _ _=>rfl,ai,cut,List.drop_zero,List.dropLast_eq_take,qT (Ii.mpr h1)]
section
variable {sub:Nat->Nat->Bool}{P:List Fn}{f n:Nat}{H:Hp}{Q:V->Hp->Prop}{X:Nat->Hp->Prop}
theorem FR{ρ:Loc}{c:Int}{i j:Nat}{Φ:Call}{xs ys:List Int}(h6:ah ρ 6=some (.lst i))(h8:ah ρ 8=some (.int c))(h7:ah ρ 7=some (.lst j))(hi:H[i]?=some (xs.map .int))(hj:H[j]?=some (ys.map .int))
  (hl:xs.length=ys.length) (hn:xs.length<=1000) (hm:∀y∈ys,IntMulOk c y) (hQ:Q (.lst H.length) (H++[(addL xs (smul c ys)).map .int])) :
  wpE sub Φ vW ρ H Q:=by
 dsimp only[vW,qE5,bV,ij,qI3,aC,aD]
 refine ifSome.mk h6 ?_
 dsimp only[cS]
 refine ifSome.mk hi ?_
 rw[Hi]
 refine ji (aH (by exact oqz [xs.length] [] [] (.il (.g 1000000) (.c Y0)) [1] rfl) (by exact oqz [xs.length] [] [(.le Y0 1000)] (.il (.c Y0) 1000000) [11] rfl hn)) ⟨by rw[Hi,IS];unfold lim;exact lin [xs.length,ys.length] [(1,Y0,(.n 1000))] Y0 (.n 1000000) rfl hn,?_⟩
 rw[Jh]
 refine eP (g:=fun i=>V.int (xs.getD i 0+c*ys.getD i 0)) ?_ ?_
 ·intro t ht k hk
  rw[IF] at ht
  have ht':t<ys.length:=hl ▸ ht
  dsimp only[Cq,cq,qO1,aa,List.cons_append,List.nil_append]
  have em:List.map (ah ρ) [6,8,7]=[some (.lst i),some (.int c),some (.lst j)]:=by
   show [ah ρ 6,ah ρ 8,ah ρ 7]=_
   rw[h6,h8,h7]
  rw[em,if_pos rfl]
  dsimp only[qE5,qE8,aV,ah,aa,bZ]
  refine ix3 (v:=.int (xs.getD t 0)) hi (aL (k:=t) (by rw[Hi];exact ht)) ?_ ?_
  ·rw[HL,Hx ht,HB,Hx ht];rfl
  refine ix3 (v:=.int (ys.getD t 0)) hj (aL (k:=t) (by rw[Hi];exact ht')) ?_ ⟨?_,hk⟩
  ·rw[HL,Hx ht',HB,Hx ht'];rfl
  ·rw[HB,Hx ht'];exact hm _ (List.getElem_mem _)
 ·rw[mB (f:=fun x y=>x+c*y) hl]
  have:List.zipWith (fun x y=>x+c*y) xs ys=addL xs (smul c ys):=by
   rw[addL,smul,List.zipWith_map_right]
  rw[this];exact hQ
noncomputable def lo(p1 q1:Int):V:=.tup [.int p1,.int q1]
inductive SeI (H:Hp) (m0:Nat) (p1 q1 p2 q2 b e' s:Int) (row:List Int) (rest:List V) (ρ:Loc) (H':Hp):Prop
 |mk (pre:List Int) (suf:List Int) (kf:Nat) (kp:Nat) (o:Option V) (c0:row=pre++suf) (c1:suf≠[]) (c2:rest=((pre:List Int).map V.int).reverse) (c3:ρ=[some (.lst m0),some (.tup [.int p1,.int q1]),some (.tup [.int p2,.int q2]),some (.int b),some (.int e'),some (.int s),some (.lst kf),some (.lst kp),o]) (c4:H<+:H') (c5:H'[kf]?=some ((Mine.hs b e' s suf).map .int)) (c6:H'[kp]?=some ((mulN s s (suf.length-1) [1]).map .int))
theorem DH(zT:TT P){m0:Nat}{row:List Int}{p1 q1 p2 q2:Int}{K L:Nat}(hv:items H (.lst m0)=some (row.map .int))(h0:row≠[])(hl:row.length<=900)
  (hr:AllSm K row) (hb:Sm L (p1*q2)) (he:Sm L (p2*q1)) (hs:Sm L (q1*q2)) (m1:IntMulOk p1 q2) (m2:IntMulOk p2 q1) (m3:IntMulOk q1 q2) (hB:K+L+2+row.length*(L+2)<=60000000)
  (hQ:∀H' k,H<+:H'->H'[k]?=some ((Mine.hs (p1*q2) (p2*q1) (q1*q2) row).map .int)->Q (.lst k) H'):ag sub P (n+2) 16 [.lst m0,.tup [.int p1,.int q1],.tup [.int p2,.int q2]] H Q X:=by
 refine aj zT.a16 rfl ?_
 generalize eb:p1*q2=b at *
 generalize ee:p2*q1=e' at *
 generalize es:q1*q2=s at *
 obtain ⟨r0,c,hrow⟩:∃r0 c,row=r0++[c]:=⟨row.dropLast,row.getLast h0,(List.dropLast_concat_getLast h0).symm⟩
 dsimp only[vU,qS1,qS2,qS3,qS9,dZ,qE1,qE5,qE8,qE9,aV,D1,g7,aC,aD,qO1,qO2,qI2,my,aB,az,aw,av,aM,aA,au,eJ,aa,ah,aE,Nat.reduceSub,Nat.reduceAdd,List.length_nil,jm]
 refine ⟨m1,m2,m3,?_⟩
 rw[eb,ee,es]
 refine ix3 (v:=.int c) hv (dq (by rw[Hi];exact Ii.mpr h0)) ?_ ?_
 ·rw[hrow,HF,Hl,Hi];simp
 refine vQ (cr (ad (af _ _) (af _ _)) hv) (by rw[hrow];simp) fun v' H1 hp hv1=>?_
 refine ifSome.mk hv1 ?_
 have hp0:H<+:H1:=ad (ad (af _ _) (af _ _)) hp
 refine bx (SeI H m0 p1 q1 p2 q2 b e' s row) ?_ ?_ _ _ _ ⟨r0,[c],H.length,H.length+1,none,hrow,IU _ _,?_,?_,hp0,?_,?_⟩
 ·rintro x xs ρ H' k zI hk;obtain ⟨pre,suf,kf,kp,o,hr1,hr2,hx,rfl,hpre,hf,hpw⟩:=zI
  rcases JO pre with rfl | ⟨pre',d,rfl⟩
  ·cases hx
  rw[JP] at hr1 hx
  rw[HF,JX] at hx
  cases hx
  have hsl:suf.length<=row.length:=by rw[hr1,Hl];exact Jw _ _
  have hdm:Sm K d:=hr d (by rw[hr1];simp)
  have hsf:AllSm K suf:=fun y hy=>hr y (by rw[hr1];simp[hy])
  have hs1:1<=suf.length:=Ii.mpr hr2
  have bp:=AllSm.pow1 hs (n:=suf.length-1)
  have bf:=AllSm.hs hb he hs hsf
  have mm:suf.length*(L+2)<=row.length*(L+2):=IV _ hsl
  have mm1:(suf.length-1)*(L+1)+(L+1)<=suf.length*(L+2):=by
   have e1:(suf.length-1)*(L+1)+(L+1)=suf.length*(L+1):=by rw[<- Jo];congr 1;exact oqz [suf.length-1,suf.length] [] [(.le 1 Y1),(osb Y1 1 Y0)] (.eq (Y0+1) Y1) [1001,101,10001,1011] rfl hs1 (am (suf.length) (1))
   rw[e1];exact HK _ (IZ _)
  dsimp only[Cn,qS1,qS2,qS3,qE5,aS,aC,aD,aa,ah,aE]
  refine Cr zT (row:=mulN s s (suf.length-1) [1]) hpw ?_ ?_ fun H2 kp' hp2 hpw2=>?_
  ·rw[b5,HE];exact oqz [suf.length-1,suf.length,row.length] [] [(.le Y2 900),(.le Y1 Y2),(.an (.le Y1 (Y0+1)) (.le Y0 Y1))] (.le (1+Y0) 1000) [10111] rfl hl hsl (aX (suf.length) (1))
  ·intro y hy;have:=IntMulOk.sm (bp y hy) hs (by exact lin [K,L,row.length*(L+2),suf.length*(L+2),(suf.length-1)*(L+1)] [(1,(.a (.a (.a Y0 Y1) (.n 2)) Y2),(.n 60000000)),(1,Y3,Y2),(1,(.a Y4 (.a Y1 (.n 1))),Y3)] (.a (.n 1) Y4) (.n 67108864) rfl hB mm mm1) (by exact lin [K,L,row.length*(L+2)] [(1,(.a (.a (.a Y0 Y1) (.n 2)) Y2),(.n 60000000))] Y1 (.n 67108864) rfl hB);exact ⟨this,this⟩
  refine Cr zT (row:=Mine.hs b e' s suf) (ao hp2 hf) ?_ ?_ fun H3 kf' hp3 hf3=>?_
  ·rw[gx];exact lin [row.length,suf.length] [(1,Y0,(.n 900)),(1,Y1,Y0)] Y1 (.n 1000) rfl hl hsl
  ·intro y hy;exact ⟨IntMulOk.sm (bf y hy) hb (by exact lin [K,L,row.length*(L+2),suf.length*(L+2)] [(1,(.a (.a (.a Y0 Y1) (.n 2)) Y2),(.n 60000000)),(1,Y3,Y2)] (.a (.a Y0 (.n 2)) Y3) (.n 67108864) rfl hB mm) (by exact lin [K,L,row.length*(L+2)] [(1,(.a (.a (.a Y0 Y1) (.n 2)) Y2),(.n 60000000))] Y1 (.n 67108864) rfl hB),IntMulOk.sm (bf y hy) he (by exact lin [K,L,row.length*(L+2),suf.length*(L+2)] [(1,(.a (.a (.a Y0 Y1) (.n 2)) Y2),(.n 60000000)),(1,Y3,Y2)] (.a (.a Y0 (.n 2)) Y3) (.n 67108864) rfl hB mm) (by exact lin [K,L,row.length*(L+2)] [(1,(.a (.a (.a Y0 Y1) (.n 2)) Y2),(.n 60000000))] Y1 (.n 67108864) rfl hB)⟩
  have ep:mulG s s 0 (mulN s s (suf.length-1) [1])=mulN s s suf.length [1]:=by
   show mulN s s (suf.length-1+1) [1]=_
   rw[Nat.sub_add_cancel hs1]
  rw[ep] at hpw2
  refine FR rfl rfl rfl hf3 (ao hp3 hpw2) ?_ ?_ ?_ ?_
  ·rw[cJ,gx,b5,HE];exact oqz [suf.length] [] [] (.eq (Y0+1) (1+Y0)) [1] rfl
  ·rw[cJ,gx];exact lin [row.length,suf.length] [(1,Y0,(.n 900)),(1,Y1,Y0)] (.a Y1 (.n 1)) (.n 1000) rfl hl hsl
  ·intro y hy;refine IntMulOk.sm hdm (AllSm.pow1 hs y hy) (by exact lin [K,L,row.length*(L+2)] [(1,(.a (.a (.a Y0 Y1) (.n 2)) Y2),(.n 60000000))] Y0 (.n 67108864) rfl hB) ?_
   have:suf.length*(L+1)<=suf.length*(L+2):=HK suf.length (IZ (L+1));exact oqz [suf.length*(L+1),K,L,row.length*(L+2),suf.length*(L+2)] [] [(.le (Y1+Y2+2+Y3) 60000000),(.le Y4 Y3),(.le Y0 Y4)] (.le (1+Y0) 67108864) [1111] rfl hB mm this
  refine hk _ _ ⟨pre',d::suf,_,_,_,by rw[hr1,Hv];rfl,IU _ _,rfl,rfl,ad hpre (ad hp2 (ad hp3 (af _ _))),?_,?_⟩
  ·rw[ai];rfl
  ·exact ao (ad hp3 (af _ _)) hpw2
 ·rintro ρ H' ⟨pre,suf,kf,kp,o,hr1,hr2,hx,rfl,hpre,hf,hpw⟩
  have hnil:pre=[]:=by
   have:=congrArg List.length hx
   simp at this;exact Io this.symm
  subst hnil
  rw[List.nil_append] at hr1
  subst hr1
  exact hQ _ _ hpre hf
 ·rw[hrow,HF,Hw,List.map_nil,List.dropLast_concat]
 ·rw[Hl];rfl
 ·refine ao hp ?_
  rw[Hv]
  show (H++[V.int c]::_)[H.length]?=_
  rw[ai];show _=some [V.int (0+c*1)];rw[Id,IK]
 ·refine ao hp ?_
  rw[Hv]
  exact dK _ _ _ _
inductive TuI (H1:Hp) (m0:Nat) (p1 q1 p2 q2:Int) (xs:List Int) (rest:List V) (ρ:Loc) (H':Hp):Prop
 |mk (td:List Int) (many:Int) (ahead:Int) (o:Option V) (c0:rest=(td:List Int).map V.int) (c1:ρ=[some (.lst m0),some (.tup [.int p1,.int q1]),some (.tup [.int p2,.int q2]),some (.int many),some (.int ahead),o]) (c2:H'=H1) (c3:many+tv ahead td=tv 0 xs) (c4:AllSm 60000000 td) (c5:Sm 60000000 ahead)
theorem zo(zT:TT P){m0:Nat}{row:List Int}{p1 q1 p2 q2:Int}{K L:Nat}(hv:items H (.lst m0)=some (row.map .int))(h0:row≠[])(hl:row.length<=900)
  (hr:AllSm K row) (hb:Sm L (p1*q2)) (he:Sm L (p2*q1)) (hs:Sm L (q1*q2)) (m1:IntMulOk p1 q2) (m2:IntMulOk p2 q1) (m3:IntMulOk q1 q2) (hB:K+L+2+row.length*(L+2)<=60000000)
  (hQ:∀H',H<+:H'->Q (.int (tv 0 (Mine.hs (p1*q2) (p2*q1) (q1*q2) row))) H'):ag sub P (n+3) 17 [.lst m0,.tup [.int p1,.int q1],.tup [.int p2,.int q2]] H Q X:=by
 refine aj zT.a17 rfl ?_
 dsimp only[rI,qS1,qS2,qS3,qS9,dZ,qE1,qE5,aS,aC,aD,qI1,aB,az,aw,av,aM,aA,au,aa,ah,aE,Nat.reduceSub]
 refine DH zT hv h0 hl hr hb he hs m1 m2 m3 hB fun H1 k hp hk=>?_
 have hA:=AllSm.hs hb he hs hr
 revert hA hQ hk
 generalize Mine.hs (p1*q2) (p2*q1) (q1*q2) row=xs
 intro hQ hk hA
 refine ifSome.mk hk ?_
 refine bx (TuI H1 m0 p1 q1 p2 q2 xs) ?_ ?_ _ _ _ ⟨xs,0,0,_,rfl,rfl,rfl,IK _,hA.mono (by exact lin [K,L,row.length*(L+2)] [(1,(.a (.a (.a Y0 Y1) (.n 2)) Y2),(.n 60000000))] (.a (.a Y0 (.n 2)) Y2) (.n 60000000) rfl hB),Sm.zero⟩
 ·rintro x rest ρ H' k' zI hk';obtain ⟨td,many,ahead,o,hx,rfl,rfl,hm,ha,hah⟩:=zI
  cases td with
  |nil=>cases hx
  |cons y td =>
   cases hx
   dsimp only[xj,qS1,qS2,qS3,bC,qE1,qE5,qE8,br,b9,cD,fJ,l4,aU,nT,aa,ah,aE]
   by_cases hy:y=0
   ·rw[decide_eq_true hy]
    refine hk' _ _ ⟨td,many,ahead,_,rfl,rfl,rfl,?_,ha.tl,hah⟩
    rw[<- hm,lG,if_pos hy,hy,HS,if_neg (by decide),IK]
   ·rw[decide_eq_false hy]
    refine ⟨IntMulOk.sm hah ha.hd (by decide) (by decide),?_⟩
    by_cases hc:ahead*y<0
    ·rw[decide_eq_true hc]
     refine hk' _ _ ⟨td,many+1,y,_,rfl,rfl,rfl,?_,ha.tl,ha.hd⟩
     rw[<- hm,lG,if_neg hy,if_pos hc,JQ]
    ·rw[decide_eq_false hc]
     refine hk' _ _ ⟨td,many,y,_,rfl,rfl,rfl,?_,ha.tl,ha.hd⟩
     rw[<- hm,lG,if_neg hy,if_neg hc,IK]
 ·rintro ρ H' ⟨td,many,ahead,o,hx,rfl,rfl,hm,ha,hah⟩
  cases td with
  |cons y td=>cases hx
  |nil =>
   rw[Ci,HO] at hm
   subst hm
   exact hQ _ hp
end
end Mine
namespace Mine
open PySem
theorem yK{n:Nat}:((n+1:Nat):Int)-1=(n:Int):=oqz [n] [] [] (.ie (.s (.c (Y0+1)) 1) (.c Y0)) [1] rfl
theorem jq{n:Nat}(h:n<=900):cG (n:Int):=aH (by exact oqz [n] [] [] (.il (.g 1000000) (.c Y0)) [1] rfl) (by exact oqz [n] [] [(.le Y0 900)] (.il (.c Y0) 1000000) [11] rfl h)
theorem Fz{K L j r:Nat}(h:j*(L+1)<=r*(L+2))(hB:K+L+2+r*(L+2)<=60000000):K+j*(L+1)<=67108864:=by exact lin [j*(L+1),r*(L+2),K,L] [(1,Y0,Y1),(1,(.a (.a (.a Y2 Y3) (.n 2)) Y1),(.n 60000000))] (.a Y2 Y0) (.n 67108864) rfl h hB
theorem Fi{K L r:Nat}(hB:K+L+2+r*(L+2)<=60000000):L<=67108864:=by exact lin [K,L,r*(L+2)] [(1,(.a (.a (.a Y0 Y1) (.n 2)) Y2),(.n 60000000))] Y1 (.n 67108864) rfl hB
theorem zu{j r d:Nat}(h:j<=r)(hl:r<=900):1+min j d+(j-d)<=1000:=oqz [min j d,j,d,j-d,r] [] [(.le Y1 Y4),(.le Y4 900),(.an (.le Y0 Y1) (.le Y0 Y2)),(osb Y1 Y2 Y3)] (.le (1+Y0+Y3) 1000) [10010111,1001111] rfl h hl (Mine.rB (j) (d)) (am (j) (d))
theorem zL{j d:Nat}:min j d+(j-d)=j:=oqz [min j d,j,d,j-d] [] [(.or (.an (.le Y1 Y2) (.eq Y0 Y1)) (.an (.le Y2 Y1) (.eq Y0 Y2))),(osb Y1 Y2 Y3)] (.eq (Y0+Y3) Y1) [1001,101001,11001,1000111,100101,1000101,100111] rfl (Mine.oh (j) (d)) (am (j) (d))
section
variable {sub:Nat->Nat->Bool}{P:List Fn}{f n:Nat}{H:Hp}{Q:V->Hp->Prop}{X:Nat->Hp->Prop}
inductive ByI (H:Hp) (m w:Nat) (row:List Int) (a b:Int) (rest:List V) (ρ:Loc) (H':Hp):Prop
 |mk (dn:List Int) (td:List Int) (pre:List Int) (c:Int) (o:Option V) (o':Option V) (c0:row=dn++td) (c1:rest=(List.range' dn.length td.length).map (fun (i:Nat)=>V.int (i:Int))) (c2:ρ=[some (.lst m),some (.lst w),some (.lst H.length),o,o']) (c3:H'=H++((pre:List Int).map V.int++V.int c::List.replicate td.length (V.int 0))::[]) (c4:pre.length=dn.length) (c5:pre++mulG a b c td=mulG a b 0 row)
theorem Gw(zT:TT P){m w:Nat}{row:List Int}{a b:Int}(hm:H[m]?=some (row.map .int))(hw:H[w]?=some [.int a,.int b])(hl:row.length<=1000)(hb:∀x∈row,IntMulOk x a/\IntMulOk x b)
  (hQ:∀H' k,H<+:H'->H.length<=k->H'[k]?=some ((mulG a b 0 row).map .int)->Q (.lst k) H'):ag sub P (n+1) 40 [.lst m,.lst w] H Q X:=by
 refine aj zT.a40 rfl ?_
 dsimp only[bBy,zBy,qS1,qS2,qS3,qS9,dZ,qE1,qE5,qE8,bV,ij,aC,aD,qO1,qI3,b9,cQ,cS,cq,aB,az,aw,av,aM,aA,au,bw,aa,ah,aE,Nat.reduceSub]
 refine ifSome.mk hm (ifSome.mk hw ?_)
 rw[Hi]
 refine ji (aH (by exact oqz [row.length] [] [] (.il (.g 1000000) (.s (.a (.c Y0) (.c (0+1+1))) 1)) [1] rfl) (by simp;exact oqz [row.length] [] [(.le Y0 1000)] (.il (.s (.a (.c Y0) 2) 1) 1000000) [11] rfl hl)) ⟨by rw[Hi,IS];unfold lim;simp;exact oqz [row.length] [] [(.le Y0 1000)] (.il (.a (.c Y0) 2) 1000001) [11] rfl hl,?_⟩
 refine eP (g:=fun _=>V.int 0) (fun i hi k hk=>hk) ?_
 rw[show ((row.length:Int)+(([V.int a,V.int b].length:Nat):Int)-1).toNat=row.length+1 by simp;exact oqz [((↑row.length:Int)+2).toNat,row.length] [] [(otn (.a (.c Y1) 2) Y0)] (.eq Y0 (Y1+2)) [1001,10,101] rfl (aR ((↑row.length:Int)+2))]
 refine ifSome.mk (ao (af _ _) hm) ?_
 refine ji (aH (by rw[Hi];exact oqz [row.length] [] [] (.il (.g 1000000) (.c Y0)) [1] rfl) (by rw[Hi];exact oqz [row.length] [] [(.le Y0 1000)] (.il (.c Y0) 1000000) [11] rfl hl)) ?_
 rw[Hi,Jh,show (List.range' 0 (row.length+1)).map (fun _=>V.int 0)=List.replicate (row.length+1) (V.int 0) from by rw[List.map_const',IS]]
 refine bx (ByI H m w row a b) ?_ ?_ _ _ _ ⟨[],row,[],0,_,_,rfl,rfl,rfl,rfl,rfl,rfl⟩
 ·rintro x xs ρ H' k zI hk;obtain ⟨dn,td,pre,c,o,o',hr,hx,rfl,rfl,hp,hmm⟩:=zI
  cases td with
  |nil=>cases hx
  |cons y td =>
   rw[ck] at hx
   cases hx
   have hm':∀l:List V,(H++l::[])[m]?=some (row.map .int):=fun l=>ao (af _ _) hm
   have hw':∀l:List V,(H++l::[])[w]?=some [.int a,.int b]:=fun l=>ao (af _ _) hw
   have hy:(row.map V.int)[dn.length]?=some (.int y):=by rw[hr,HF,Hw];have:=ai (dn.map V.int) (V.int y) (td.map V.int);rwa [Hi] at this
   have hdl:dn.length<(row.map V.int).length:=by rw[hr];simp
   have hmy:=hb y (by rw[hr];simp)
   have hpl:(pre.map V.int).length=dn.length:=by rw[Hi,hp]
   dsimp only[FH,qS1,qS2,dZ,qE5,bV,aC,aD,qI3,cS,aa,ah,aE]
   refine ifSome.mk (hw' _) (ji (aH (show (-1000000:Int)<=2 by decide) (show (2:Int)<=1000000 by decide)) ?_)
   show cY _ 4 [.int 0,.int 1] _ _ _
   dsimp only[cY,FU,qS1,qS2,qS5,qE5,qE8,aV,b9,bZ,aa,cu,gX,ah,aE,List.replicate_succ,List.length_cons]
   refine ifSome.mk (ai _ _ _) (ifSome.mk (v:=dn.length) ?_ (ifSome.mk (v:=.int c) (by rw[<- hpl];exact ai _ _ _) ?_))
   ·rw[HO];exact aL (by simp;exact lin [pre.length,dn.length,td.length] [(1,Y1,Y0)] (.a Y1 (.n 1)) (.a Y0 (.a (.a Y2 (.n 1)) (.n 1))) rfl (IE (hp).symm))
   refine ix3 (hm' _) (aL (k:=dn.length) hdl) hy ?_
   refine ifSome.mk (hw' _) (ifSome.mk (v:=0) rfl (ifSome.mk (v:=.int a) rfl ⟨hmy.1,?_⟩))
   refine ⟨⟨⟨Ht _,IQ _⟩,IQ _⟩,?_⟩
   refine ifSome.mk (ai _ _ _) (ifSome.mk (v:=dn.length) ?_ ?_)
   ·rw[HO];exact aL (by simp;exact lin [pre.length,dn.length,td.length] [(1,Y1,Y0)] (.a Y1 (.n 1)) (.a Y0 (.a (.a Y2 (.n 1)) (.n 1))) rfl (IE (hp).symm))
   rw[cT,<- hpl,cT]
   refine ix3 (i:=(pre.map V.int).length+1) (v:=.int 0) (ai _ _ _) (aL (by simp)) (dK _ _ _ _) ?_
   refine ix3 (v:=.int y) (hm' _) (aL (k:=(pre.map V.int).length) (by rw[hpl];exact hdl)) (by rw[hpl];exact hy) ?_
   refine ifSome.mk (hw' _) (ifSome.mk (v:=1) rfl (ifSome.mk (v:=.int b) rfl ⟨hmy.2,?_⟩))
   refine ⟨⟨⟨Ht _,IQ _⟩,IQ _⟩,?_⟩
   refine ix2 (i:=(pre.map V.int).length+1) (ai _ _ _) (aL (by simp)) ?_
   rw[cT,gG]
   refine hk _ _ ⟨dn++[y],td,pre++[c+y*a],0+y*b,_,_,by rw[hr];simp,by rw[Hl];rfl,rfl,by rw[HF,Hv];rfl,by rw[Hl,Hl,hp];rfl,?_⟩
   rw[IK,Hv];exact hmm
 ·rintro ρ H' ⟨dn,td,pre,c,o,o',hr,hx,rfl,rfl,hp,hmm⟩
  cases td with
  |cons y td=>rw[ck] at hx;cases hx
  |nil =>
   refine hQ _ _ (af _ _) (Ht _) ?_
   rw[ai,<- hmm]
   show _=some ((pre++[c]).map V.int);rw[HF];simp
theorem C2{ρ:Loc}{i j r:Nat}{Φ:Call}{xs ys:List Int}{zs:List V}(h0:ah ρ 0=some (.lst r))(h3:ah ρ 3=some (.lst i))(h5:ah ρ 5=some (.lst j))(hr:H[r]?=some zs)(hi:H[i]?=some (xs.map .int))(hj:H[j]?=some (ys.map .int))
  (hz:zs.length=xs.length) (hl:xs.length=ys.length) (hn:xs.length<=1000) (hQ:Q (.lst H.length) (H++[(addL xs ys).map .int])) :
  wpE sub Φ rX ρ H Q:=by
 dsimp only[rX,qE5,qE8,bV,aV,ij,qI3,aC,aD]
 refine ifSome.mk h0 ?_
 dsimp only[cS]
 refine ifSome.mk hr ?_
 rw[hz]
 refine ji (aH (by exact oqz [xs.length] [] [] (.il (.g 1000000) (.c Y0)) [1] rfl) (by exact oqz [xs.length] [] [(.le Y0 1000)] (.il (.c Y0) 1000000) [11] rfl hn)) ⟨by rw[Hi,IS];unfold lim;exact lin [zs.length,xs.length,ys.length] [(1,Y1,(.n 1000))] Y1 (.n 1000000) rfl hn,?_⟩
 rw[Jh]
 refine eP (g:=fun i=>V.int (xs.getD i 0+ys.getD i 0)) ?_ ?_
 ·intro t ht k hk
  rw[IF] at ht
  have ht':t<ys.length:=hl ▸ ht
  dsimp only[cq,qO1,aa,List.cons_append,List.nil_append]
  have em:List.map (ah ρ) [3,5]=[some (.lst i),some (.lst j)]:=by
   show [ah ρ 3,ah ρ 5]=_
   rw[h3,h5]
  rw[em,if_pos rfl]
  dsimp only[ah,aa,bZ]
  refine ix3 (v:=.int (xs.getD t 0)) hi (aL (k:=t) (by rw[Hi];exact ht)) ?_ ?_
  ·rw[HL,Hx ht,HB,Hx ht];rfl
  refine ix3 (v:=.int (ys.getD t 0)) hj (aL (k:=t) (by rw[Hi];exact ht')) ?_ hk
  ·rw[HL,Hx ht',HB,Hx ht'];rfl
 ·rw[mB (f:=fun x y=>x+y) hl];exact hQ
inductive LsI (H:Hp) (m:Nat) (p1 q1 p2 q2 b e' s:Int) (row:List Int) (rest:List V) (ρ:Loc) (H':Hp):Prop
 |mk (dn:List Int) (td:List Int) (kf:Nat) (acc:List Int) (o:Option V) (o1:Option V) (o2:Option V) (c0:row=dn++td) (c1:rest=(List.range' dn.length td.length).map (fun (i:Nat)=>V.int (i:Int))) (c2:ρ=[some (.lst m),some (.tup [.int p1,.int q1]),some (.tup [.int p2,.int q2]),some (.lst kf),o,o1,o2]) (c3:H<+:H') (c4:H'[kf]?=some ((acc:List Int).map .int)) (c5:acc.length=row.length) (c6:addL acc (ls b e' s dn.length td)=ls b e' s 0 row)
inductive LdI (H':Hp) (m kf:Nat) (p1 q1 p2 q2 b e' s c:Int) (dn td:List Int) (rest:List V) (ρ:Loc) (H2:Hp):Prop
 |mk (j:Nat) (t:Nat) (kd:Nat) (o3:Option V) (c0:j+t=dn.length+td.length) (c1:rest=(List.range' j t).map (fun (i:Nat)=>V.int (i:Int))) (c2:ρ=[some (.lst m),some (.tup [.int p1,.int q1]),some (.tup [.int p2,.int q2]),some (.lst kf),some (.int (dn.length:Int)),some (.lst kd),o3]) (c3:H'<+:H2) (c4:H2[kd]?=some ((mulN s s (j-dn.length) (mulN b e' (min j dn.length) [c])).map .int))
theorem zF(zT:TT P){m:Nat}{row:List Int}{p1 q1 p2 q2:Int}{K L:Nat}(hm:H[m]?=some (row.map .int))(hl:row.length<=900)
  (hr:AllSm K row) (hb:Sm L (p1*q2)) (he:Sm L (p2*q1)) (hs:Sm L (q1*q2)) (m1:IntMulOk p1 q2) (m2:IntMulOk p2 q1) (m3:IntMulOk q1 q2) (hB:K+L+2+row.length*(L+2)<=60000000)
  (hQ:∀H' k,H<+:H'->H'[k]?=some ((Mine.hs (p1*q2) (p2*q1) (q1*q2) row).map .int)->Q (.lst k) H'):ag sub P (n+2) 41 [.lst m,.tup [.int p1,.int q1],.tup [.int p2,.int q2]] H Q X:=by
 refine aj zT.a41 rfl ?_
 generalize eb':p1*q2=b at *
 generalize ee:p2*q1=e' at *
 generalize es:q1*q2=s at *
 dsimp only[qF,wu,qS1,qS2,qS3,qS9,dZ,qE1,qE5,bV,ij,aC,aD,qO1,qI1,qI3,cS,d6,cq,aB,az,aw,av,aM,aA,au,bw,aa,ah,aE,Nat.reduceSub]
 refine ifSome.mk hm ⟨by rw[Hi];unfold lim;exact lin [row.length] [(1,Y0,(.n 900))] Y0 (.n 1000000) rfl hl,?_⟩
 refine fW (g:=fun _=>V.int 0) (fun x hx k hk=>hk) ?_
 refine ifSome.mk (ao (af _ _) hm) ?_
 rw[Hi]
 refine ji (jq hl) ?_
 rw[Jh]
 refine bx (LsI H m p1 q1 p2 q2 b e' s row) ?_ ?_ _ _ _ ⟨[],row,H.length,bO row.length,_,_,_,rfl,rfl,rfl,af _ _,?_,?_,?_⟩
 ·rintro x xs ρ H' k zI hk;obtain ⟨dn,td,kf,acc,o,o1,o2,hr1,hx,rfl,hpre,hf,hacc,hsum⟩:=zI
  cases td with
  |nil=>cases hx
  |cons c td =>
   rw[ck] at hx
   cases hx
   have hy:(row.map V.int)[dn.length]?=some (.int c):=by rw[hr1,HF,Hw];have:=ai (dn.map V.int) (V.int c) (td.map V.int);rwa [Hi] at this
   have hdl:dn.length<(row.map V.int).length:=by rw[hr1];simp
   have hrl:row.length=dn.length+td.length+1:=by rw[hr1,Hl,List.length_cons];rfl
   have hc:Sm K c:=hr c (by rw[hr1];simp)
   have hL:L<=67108864:=Fi hB
   dsimp only[tn,qS1,qS2,qS3,dZ,qE1,qE5,qE8,bV,aV,g7,aC,aD,qI3,cQ,cS,bZ,aa,ah,aE]
   refine ix3 (ao hpre hm) (aL (k:=dn.length) hdl) hy ?_
   have hp1:H<+:H'++[[V.int c]]:=ad hpre (af _ _)
   refine ifSome.mk (ao hp1 hm) ?_
   rw[Hi,hrl,show (((dn.length+td.length+1:Nat):Int)-1)=((dn.length+td.length:Nat):Int) from yK]
   refine ji (jq (Hj (IZ _) (Hj (IE hrl.symm) hl))) ?_
   rw[Jh]
   refine bx (LdI H' m kf p1 q1 p2 q2 b e' s c dn td) ?_ ?_ _ _ _ ⟨0,dn.length+td.length,H'.length,_,IF _,rfl,rfl,af _ _,?_⟩
   ·rintro x2 xs2 ρ2 H2 k2 zI hk2;obtain ⟨j,t,kd,o3,hjt,hx2,rfl,hpre2,hd⟩:=zI
    cases t with
    |zero=>cases hx2
    |succ t =>
     rw[List.range'_succ] at hx2
     cases hx2
     have hAll:AllSm (K+j*(L+1)) (mulN s s (j-dn.length) (mulN b e' (min j dn.length) [c])):=by
      refine (AllSm.mulN hs hs (AllSm.mulN hb he (.cons hc .nil))).mono ?_
      rw[IJ,<- HH,zL]
      exact Ht _
     have hjr:j<=row.length:=by clear hB hAll;exact lin [acc.length,row.length,dn.length,td.length,j,t] [(1,(.a (.a Y2 Y3) (.n 1)),Y1),(1,(.a Y4 (.a Y5 (.n 1))),(.a Y2 Y3))] Y4 Y1 rfl (IE (hrl).symm) (IE hjt)
     have hjb:j*(L+1)<=row.length*(L+2):=Iv hjr (IZ _)
     have hK:K+j*(L+1)<=67108864:=Fz hjb hB
     have hlen:(mulN s s (j-dn.length) (mulN b e' (min j dn.length) [c])).length<=1000:=by
      rw[b5,b5,HE];exact zu hjr hl
     dsimp only[sY,qS1,qS2,qS3,bC,qE1,qE5,qE8,br,aS,aV,g7,aC,aD,cD,fJ,bu,bT,aU,aa,ah,aE]
     by_cases hj:j<dn.length
     ·rw[decide_eq_true (Int.ofNat_lt.mpr hj)]
      refine ⟨m1,m2,?_⟩
      rw[eb',ee]
      refine Gw zT (ao (af _ _) hd) (ai _ _ _) hlen ?_ fun H3 kd' hp3 _ hd3=>?_
      ·intro y hy'
       exact ⟨IntMulOk.sm (hAll y hy') hb hK hL,IntMulOk.sm (hAll y hy') he hK hL⟩
      refine hk2 _ _ ⟨j+1,t,kd',_,(Nat.succ_add_eq_add_succ j t).trans hjt,rfl,rfl,ad hpre2 (ad (af _ _) hp3),?_⟩
      rw[hd3,Nat.sub_eq_zero_of_le (JJ hj),Nat.sub_eq_zero_of_le hj,J2 (JJ hj),J2 hj]
      rfl
     ·rw[decide_eq_false (fun h=>hj (Int.ofNat_lt.mp h))]
      refine ⟨m3,m3,?_⟩
      rw[es]
      refine Gw zT (ao (af _ _) hd) (ai _ _ _) hlen ?_ fun H3 kd' hp3 _ hd3=>?_
      ·intro y hy'
       have:=IntMulOk.sm (hAll y hy') hs hK hL;exact ⟨this,this⟩
      refine hk2 _ _ ⟨j+1,t,kd',_,(Nat.succ_add_eq_add_succ j t).trans hjt,rfl,rfl,ad hpre2 (ad (af _ _) hp3),?_⟩
      have hj':=Nat.not_lt.mp hj
      rw[hd3,Nat.succ_sub hj',JU hj',JU (Nat.le_succ_of_le hj')]
      rfl
   ·rintro ρ2 H2 ⟨j,t,kd,o3,hjt,hx2,rfl,hpre2,hd⟩
    cases t with
    |succ t=>rw[List.range'_succ] at hx2;cases hx2
    |zero =>
     have hj:j=dn.length+td.length:=hjt
     subst hj
     rw[IB,JU (Ja _ _)] at hd
     have hlx:acc.length=(mulN s s td.length (mulN b e' dn.length [c])).length:=by rw[b5,b5,HE,hacc,hrl,IJ,IM,IJ,IM td.length,IM]
     refine C2 rfl rfl rfl (ao (ad hpre hpre2) hm) (ao hpre2 hf) hd ?_ ?_ ?_ ?_
     ·rw[Hi,hacc]
     ·exact hlx
     ·exact Hj (IE hacc) (Hj hl (by decide))
     refine hk _ _ ⟨dn++[c],td,_,_,_,_,_,by rw[hr1,Hv];rfl,by rw[Hl];rfl,rfl,ad hpre (ad hpre2 (af _ _)),ai _ _ _,?_,?_⟩
     ·rw[iD hlx,hacc]
     ·rw[<- hsum,lJ,Hl];rfl
   ·rw[ai,Nat.zero_sub,Nat.zero_min];rfl
 ·rintro ρ H' ⟨dn,td,kf,acc,o,o1,o2,hr1,hx,rfl,hpre,hf,hacc,hsum⟩
  cases td with
  |cons y td=>rw[ck] at hx;cases hx
  |nil =>
   rw[List.append_nil] at hr1
   subst hr1
   refine hQ _ _ hpre ?_
   rw[<- yR,<- hsum,hf]
   show _=some ((addL acc (bO row.length)).map V.int)
   rw[<- hacc,mG,jc]
 ·rw[ai,bO,List.map_replicate,Ia];congr 1;exact List.map_const' ..
 ·rw[bO,List.length_replicate]
 ·have:=@jc (ls b e' s 0 row)
  rw[yR,gx] at this
  show addL (bO row.length) (ls b e' s 0 row)=_
  rw[yR];exact this
theorem wt(zT:TT P){m:Nat}{row:List Int}{p1 q1 p2 q2:Int}{K L:Nat}(hm:H[m]?=some (row.map .int))(hl:row.length<=900)
  (hr:AllSm K row) (hb:Sm L (p1*q2)) (he:Sm L (p2*q1)) (hs:Sm L (q1*q2)) (m1:IntMulOk p1 q2) (m2:IntMulOk p2 q1) (m3:IntMulOk q1 q2) (hB:K+L+2+row.length*(L+2)<=60000000)
  (hQ:∀H',H<+:H'->Q (.int (tv 0 (Mine.hs (p1*q2) (p2*q1) (q1*q2) row))) H'):ag sub P (n+3) 42 [.lst m,.tup [.int p1,.int q1],.tup [.int p2,.int q2]] H Q X:=by
 refine aj zT.a42 rfl ?_
 dsimp only[od,qS1,qS2,qS3,qS9,dZ,qE1,qE5,aS,aC,aD,qI1,aB,az,aw,av,aM,aA,au,aa,ah,aE,Nat.reduceSub]
 refine zF zT hm hl hr hb he hs m1 m2 m3 hB fun H1 k hp hk=>?_
 have hA:=AllSm.hs hb he hs hr
 revert hA hQ hk
 generalize Mine.hs (p1*q2) (p2*q1) (q1*q2) row=xs
 intro hQ hk hA
 refine ifSome.mk hk ?_
 refine bx (TuI H1 m p1 q1 p2 q2 xs) ?_ ?_ _ _ _ ⟨xs,0,0,_,rfl,rfl,rfl,IK _,hA.mono (by exact lin [K,L,row.length*(L+2)] [(1,(.a (.a (.a Y0 Y1) (.n 2)) Y2),(.n 60000000))] (.a (.a Y0 (.n 2)) Y2) (.n 60000000) rfl hB),Sm.zero⟩
 ·rintro x rest ρ H' k' zI hk';obtain ⟨td,many,ahead,o,hx,rfl,rfl,hmm,ha,hah⟩:=zI
  cases td with
  |nil=>cases hx
  |cons y td =>
   cases hx
   dsimp only[tV,qS1,qS2,qS3,bC,qE1,qE5,qE8,br,b9,cD,fJ,l4,aU,nT,aa,ah,aE]
   refine ⟨IntMulOk.sm ha.hd hah (by decide) (by decide),?_⟩
   rw[Ir]
   have key:∀many':Int,many'=many+(if ahead*y<0 then 1 else 0)->k' [some (.lst m),some (.tup [.int p1,.int q1]),some (.tup [.int p2,.int q2]),some (.int many'),some (.int (if y=0 then ahead else y)),some (.int y)] H':=fun many' h=>by
    refine hk' _ _ ⟨td,many',_,_,rfl,rfl,rfl,?_,ha.tl,?_⟩
    ·rw[h,<- hmm,lG,JQ]
    ·split
     ·exact hah
     ·exact ha.hd
   by_cases hc:ahead*y<0
   ·rw[decide_eq_true hc]
    rw[if_pos hc] at key
    by_cases hy:y=0
    ·rw[decide_eq_true hy];rw[if_pos hy] at key;exact key _ rfl
    ·rw[decide_eq_false hy];rw[if_neg hy] at key;exact key _ rfl
   ·rw[decide_eq_false hc]
    rw[if_neg hc] at key
    by_cases hy:y=0
    ·rw[decide_eq_true hy];rw[if_pos hy] at key;exact key _ (HO _).symm
    ·rw[decide_eq_false hy];rw[if_neg hy] at key;exact key _ (HO _).symm
 ·rintro ρ H' ⟨td,many,ahead,o,hx,rfl,rfl,hmm,ha,hah⟩
  cases td with
  |cons y td=>cases hx
  |nil =>
   rw[Ci,HO] at hmm
   subst hmm
   exact hQ _ hp
end
end Mine
namespace Mine
open PySem
section
structure Low (k:Nat)(p q:Int):Prop where
 top:Sm k p
 bot:Sm k q
 pos:0<q
 one:p.gcd q=1
theorem qW{k:Nat}{a b p q:Int}(ha:Sm k a)(hb:Sm k b)(h0:0<b)(e1:p*(a.gcd b:Nat)=a)(e2:q*(a.gcd b:Nat)=b):Low k p q:=by
 have hg:0<a.gcd b:=JF a (Ho h0)
 have hg':(0:Int)<(a.gcd b:Nat):=I4.mpr hg
 refine ⟨?_,?_,?_,?_⟩
 ·refine HT ?_ ha
  rw[show a.natAbs=(p*(a.gcd b:Nat)).natAbs by rw[e1],HV,Jb];exact Ie _ hg
 ·refine HT ?_ hb
  rw[show b.natAbs=(q*(a.gcd b:Nat)).natAbs by rw[e2],HV,Jb];exact Ie _ hg
 ·exact JZ (by rw[e2];exact h0) hg'
 ·have h:p.gcd q*a.gcd b=1*a.gcd b:=by
   have:=Int.gcd_mul_right p (a.gcd b:Nat) q
   rw[e1,e2,Jb] at this
   rw[<- this,Nat.one_mul]
  exact Nat.eq_of_mul_eq_mul_right hg h
end
end Mine
namespace Mine
open PySem
theorem u5{H:Hp}{a b c d:Int}{Q:Bool->Prop}(h:Q (decide (a=c/\b=d))):sv (.tup [.int a,.int b]) (.tup [.int c,.int d]) H Q:=by
 refine ⟨_,_,.inl ⟨[a,b],rfl,rfl⟩,.inl ⟨[c,d],rfl,rfl⟩,?_⟩
 have e:PyData.eqv (.tuple [.int a,.int b]) (.tuple [.int c,.int d])=decide (a=c/\b=d):=by
  rw[PyData.eqv]
  have:=gn [a,b] [c,d]
  rw[Hw,Hw,List.map_nil] at this
  rw[show PyData.eqvAll [.int a,.int b] [.int c,.int d]=decide ([a,b]=[c,d]) from this]
  simp
 show Q (PyData.eqv (.tuple [.int a,.int b]) (.tuple [.int c,.int d]))
 rw[e];exact h
noncomputable def bn:List Int->Nat->Nat
 | [],g=>g
 |x::r,g=>bn r (Nat.gcd g x.natAbs)
theorem iE:∀ (r:List Int) (g:Nat),bn r g ∣ g/\∀x∈r,bn r g ∣ x.natAbs
 | [],g=>⟨Nat.dvd_refl _,fun x hx=>nomatch hx⟩
 |y::r,g=>by
  obtain ⟨h1,h2⟩:=iE r (Nat.gcd g y.natAbs)
  refine ⟨Nat.dvd_trans h1 (Nat.gcd_dvd_left _ _),fun x hx=>?_⟩
  rcases HM.mp hx with rfl|hx
  ·exact Nat.dvd_trans h1 (Nat.gcd_dvd_right _ _)
  ·exact h2 x hx
theorem lH(c:Nat):∀ (r:List Int) (s:Int) (g:Nat),s.natAbs=c->bn (r.map fun x=>x*s) (g*c)=bn r g*c
 | [],s,g,_=>rfl
 |x::r,s,g,h=>by
  show bn (r.map fun x=>x*s) (Nat.gcd (g*c) (x*s).natAbs)=_
  rw[HV,h,Nat.gcd_mul_right,lH c r s _ h];rfl
noncomputable def gOf(r:List Int)(l:Int):Int:=if l<0 then -(bn r 0:Int) else (bn r 0:Int)
noncomputable def cE(r:List Int)(l:Int):List Int:=r.map fun x=>x.fdiv (gOf r l)
theorem jY{r:List Int}{l:Int}:(gOf r l).natAbs=bn r 0:=by
 unfold gOf;split
 ·rw[Int.natAbs_neg];rfl
 ·rfl
theorem gp{r:List Int}{l:Int}(hl:l∈r)(h0:l≠0):0<bn r 0:=Nat.pos_of_dvd_of_pos ((iE r 0).2 l hl) (Je.mpr h0)
theorem e7{r:List Int}{l:Int}(hl:l∈r)(h0:l≠0):gOf r l≠0:=by
 have:=gp hl h0
 have h:=@jY r l
 intro e;rw[e] at h;simp at h;exact oqz [bn r 0] [] [(.le (0+1) Y0),(.eq 0 Y0)] .ff [101] rfl this h
theorem nj{r:List Int}{l x:Int}(hx:x∈r):gOf r l ∣ x:=IN.mp (by rw[jY];exact (iE r 0).2 x hx)
theorem oQ{r:List Int}{l:Int}:(cE r l).map (fun x=>x*gOf r l)=r:=by
 unfold cE
 rw[Ia]
 conv=>rhs;rw[<- List.map_id r]
 apply Jj
 intro x hx
 exact Iz (nj hx)
theorem dX{r:List Int}{l:Int}:(cE r l).length=r.length:=Hi ..
theorem eI{r:List Int}{l:Int}(hl:l∈r)(h0:l≠0):bn (cE r l) 0=1:=by
 have h:=lH (gOf r l).natAbs (cE r l) (gOf r l) 0 rfl
 rw[oQ,Nat.zero_mul,jY] at h
 exact (Nat.eq_of_mul_eq_mul_right (gp hl h0) (by rw[Nat.one_mul];exact h)).symm
theorem cM{r:List Int}{l:Int}(hl:l∈r)(h0:l≠0):0<l.fdiv (gOf r l):=by
 have hg:=gp hl h0
 have e:=Iz (nj (l:=l) hl)
 by_cases h:l<0
 ·have hg0:gOf r l<0:=by unfold gOf;rw[if_pos h];exact oqz [bn r 0] [] [(.le (0+1) Y0)] (.il (.a (.g (.c Y0)) 1) 0) [11] rfl hg
  exact IT.mp fun hle=>by
   have:=Int.mul_nonneg_of_nonpos_of_nonpos hle (HZ hg0)
   rw[e] at this;exact oqz [] [l] [(.il (Y0+1) 0),(.il 0 Y0)] .ff [11] rfl h this
 ·have hg0:0<gOf r l:=by unfold gOf;rw[if_neg h];exact oqz [bn r 0] [] [(.le (0+1) Y0)] (.il (0+1) (.c Y0)) [11] rfl hg
  exact JZ (by rw[e];exact oqz [] [l] [(.no (.il (Y0+1) 0)),(.no (.ie Y0 0))] (.il (0+1) Y0) [110,101] rfl h h0) hg0
theorem yr{r:List Int}{l:Int}(h:bn r 0=1)(hl:0<l):cE r l=r:=by
 have hg:gOf r l=1:=by unfold gOf;rw[if_neg (by exact oqz [] [l] [(.il (0+1) Y0)] (.no (.il (Y0+1) 0)) [11] rfl hl),h];rfl
 unfold cE
 rw[hg]
 conv=>rhs;rw[<- List.map_id r]
 apply Jj
 intro x _
 exact Int.fdiv_one x
theorem fL{r:List Int}{l:Int}{k:Nat}(hl:l∈r)(h0:l≠0)(h:AllSm k r):AllSm k (cE r l):=fun x hx=>by
 refine ac (HP.mp hx) fun y hy zq109=>?_;subst zq109
 refine HT ?_ (h y hy)
 have e:=Iz (nj (l:=l) hy)
 have:=gp hl h0
 rw[show y.natAbs=(y.fdiv (gOf r l)*gOf r l).natAbs by rw[e],HV,jY]
 exact Ie _ this
theorem nP{g:Int}{r:List Int}:(r.map fun x=>x*g)=smul g r:=Jj fun x _=>Ir x g
theorem jF{a b g:Int}(hg:g≠0):(g*a)*(g*b)<0 ↔ a*b<0:=by
 have e:(g*a)*(g*b)=(g*g)*(a*b):=by grind
 have hp:0<g*g:=by
  rcases Int.lt_or_gt_of_ne hg with h|h
  ·exact Int.mul_pos_of_neg_of_neg h h
  ·exact HG h h
 rw[e]
 constructor
 ·intro h;exact IT.mp fun hle=>by have:=Int.mul_nonneg (HZ hp) hle;exact oqz [] [g*g*(a*b)] [(.il (Y0+1) 0),(.il 0 Y0)] .ff [11] rfl h this
 ·intro h;exact Int.mul_neg_of_pos_of_neg hp h
theorem sK{g:Int}(hg:g≠0):∀ (r:List Int) (l:Int),tv (g*l) (smul g r)=tv l r
 | [],_=>rfl
 |x::r,l=>by
  show (if (g*l)*(g*x)<0 then 1 else 0)+tv (if g*x=0 then g*l else g*x) (smul g r)=(if l*x<0 then 1 else 0)+tv (if x=0 then l else x) r
  have h0:(g*x=0) ↔ x=0:=⟨fun h=>(Int.mul_eq_zero.mp h).resolve_left hg,fun h=>by rw[h,HS]⟩
  have e2:(if g*x=0 then g*l else g*x)=g*(if x=0 then l else x):=by
   by_cases hx:x=0
   ·rw[if_pos hx,if_pos (h0.mpr hx)]
   ·rw[if_neg hx,if_neg (fun h=>hx (h0.mp h))]
  rw[e2,sK hg r]
  by_cases hc:l*x<0
  ·rw[if_pos hc,if_pos ((jF hg).mpr hc)]
  ·rw[if_neg hc,if_neg (fun h=>hc ((jF hg).mp h))]
theorem sgn_zero{x:Int}:sgn x=0 ↔ x=0:=by
 unfold sgn
 constructor
 ·intro h
  by_cases h1:x<0
  ·rw[if_pos h1] at h;exact oqz [] [x] [(.ie (.g 1) 0)] (.ie Y0 0) [100] rfl h
  ·rw[if_neg h1] at h
   by_cases h2:0<x
   ·rw[if_pos h2] at h;exact oqz [] [x] [(.ie 1 0)] (.ie Y0 0) [10] rfl h
   ·exact oqz [] [x] [(.no (.il (Y0+1) 0)),(.no (.il (0+1) Y0))] (.ie Y0 0) [11,101] rfl h1 h2
 ·intro h;subst h;rfl
section
variable {sub:Nat->Nat->Bool}{P:List Fn}{f n dv:Nat}{H:Hp}{Q:V->Hp->Prop}{X:Nat->Hp->Prop}
theorem fS(zT:TT P){a b:Int}(hQ:Q (.int (a.gcd b:Nat)) H):ag sub P (n+1) 0 [.int a,.int b] H Q X:=by
 refine aj zT.a0 rfl ?_
 dsimp only[x6,qS1,qS2,qS3,qS9,lr,qE1,qE5,qE8,br,bV,aC,aD,Ce,aB,az,aw,av,aM,aA,au,aa,ah,aE,Nat.reduceSub]
 have ha:∀x:Int,(if x<0 then -x else x)=(x.natAbs:Int):=fun x=>by split <;> (clear hQ;omega)
 rw[ha,ha]
 refine ⟨fun ρ H'=>∃x y:Nat,∃o,ρ=[some (.int x),some (.int y),o]/\H'=H/\x.gcd y=a.gcd b,fun ρ _=>B8 ρ 1,⟨a.natAbs,b.natAbs,_,rfl,rfl,rfl⟩,?_⟩
 intro ρ H' zr14;refine cV (zr14) fun x y o zq23 zq24 hg=>?_;subst zq23;subst zq24
 dsimp only[yG,kJ,aU,aa,ah,aE]
 by_cases hy:y=0
 ·subst hy
  rw[Nat.gcd_zero_right] at hg
  subst hg
  exact hQ
 ·have h0:(0:Int)<(y:Int):=I4.mpr (Nat.pos_of_ne_zero hy)
  rw[decide_eq_true h0]
  refine ⟨Ho h0,⟨y,x % y,some (.int ((x:Int).fmod (y:Int))),?_,rfl,?_⟩,gu (Ho h0)⟩
  ·rw[show ((x % y:Nat):Int)=(x:Int).fmod (y:Int) by rw[Int.fmod_eq_emod_of_nonneg _ (HZ h0)];rfl]
  ·rw[<- hg,Nat.gcd_comm x y,Nat.gcd_rec y x,Nat.gcd_comm]
theorem uJ(zT:TT P){p1 q1 p2 q2:Int}(m1:IntMulOk p1 q2)(m2:IntMulOk p2 q1)(hQ:Q (.bool (decide (p1*q2<p2*q1))) H):ag sub P (n+1) 2 [.tup [.int p1,.int q1],.tup [.int p2,.int q2]] H Q X:=by
 refine aj zT.a2 rfl ?_
 dsimp only[qX,qS1,qS2,qS9,qE1,qE5,qE8,br,aV,cD,fJ,bu,bT,aB,az,aw,av,aA,au,aa,ah,Nat.reduceSub]
 exact ⟨m1,m2,hQ⟩
theorem j0{k l:Nat}{p q:Int}(hp:Sm l p)(hq:Sm l q):∀ {r:List Int},AllSm k r->Sm (k+1+r.length*(l+2)) (bh p q r)
 | [],_=>Sm.zero
 |c::r,h=>by
  have h1:=(j0 hp hq h.tl).mul hp
  have h2:=h.hd.mul (hq.pow r.length)
  have hm:l*r.length<=r.length*(l+2):=by rw[Jp];exact HK _ (by exact lin [l] [] Y0 (.a Y0 (.n 2)) rfl )
  refine Sm.mono (Sm.add (h1.mono (Nat.le_max_left _ (k+(l*r.length+1)))) (h2.mono (Nat.le_max_right _ _))) ?_
  rw[List.length_cons,Jo]
  exact oqz [max (k+1+r.length*(l+2)+l) (k+(l*r.length+1)),k,r.length*(l+2),l,l*r.length] [] [(.le Y4 Y2),(.or (.an (.le (Y1+(Y4+1)) (Y1+1+Y2+Y3)) (.eq Y0 (Y1+1+Y2+Y3))) (.an (.le (Y1+1+Y2+Y3) (Y1+(Y4+1))) (.eq Y0 (Y1+(Y4+1)))))] (.le (Y0+1) (Y1+1+(Y2+(Y3+2)))) [1001,1011] rfl hm (Mine.jo (k+1+r.length*(l+2)+l) (k+(l*r.length+1)))
theorem jt(zT:TT P){v:V}{row:List Int}{p q:Int}{K L:Nat}(hv:items H v=some (row.map .int))(hr:AllSm K row)(hp:Sm L p)(hq:Sm L q)(hB:K+1+(row.length+1)*(L+2)<=60000000)
  (hQ:Q (.int (sgn (bh p q row))) H):ag sub P (n+1) 6 [v,.tup [.int p,.int q]] H Q X:=by
 refine aj zT.a6 rfl ?_
 dsimp only[xI,qS1,qS2,qS3,qS9,bC,dZ,qE1,qE5,qE9,br,bV,aC,aD,qI2,aB,az,aw,av,aM,aA,au,aa,ah,aE,Nat.reduceSub]
 refine ifSome.mk hv ?_
 refine bx (fun rest ρ H'=>∃pre suf o,row=pre++suf/\rest=((pre:List Int).map V.int).reverse/\ρ=[some v,some (.tup [.int p,.int q]),some (.int (bh p q suf)),some (.int (q^suf.length)),o]/\H'=H) ?_ ?_ _ _ _ ⟨row,[],none,(List.append_nil _).symm,rfl,by rw[List.length_nil,ID];rfl,rfl⟩
 ·rintro x xs ρ H' k zI hk;obtain ⟨pre,suf,o,hr1,hx,rfl,rfl⟩:=zI
  rcases JO pre with rfl | ⟨pre',d,rfl⟩
  ·cases hx
  rw[JP] at hr1 hx
  rw[HF,JX] at hx
  cases hx
  have hsl:suf.length+1<=row.length:=by rw[hr1,Hl,Hl,HE];exact lin [suf.length,pre'.length] [] (.a Y0 (.n 1)) (.a (.a Y1 (.n 1)) Y0) rfl 
  have hsf:AllSm K suf:=fun y hy=>hr y (by rw[hr1];simp[hy])
  have hdm:Sm K d:=hr d (by rw[hr1];simp)
  have b1:=j0 hp hq hsf
  have b2:=hq.pow suf.length
  have mm:(suf.length+1)*(L+2)<=row.length*(L+2):=IV _ hsl
  rw[Jo] at mm hB
  have mm1:L*suf.length<=suf.length*(L+2):=by rw[Jp];exact HK _ (by exact lin [L] [] Y0 (.a Y0 (.n 2)) rfl )
  have hL:L<=67108864:=by exact lin [K,row.length*(L+2),L] [(1,(.a (.a Y0 (.n 1)) (.a Y1 (.a Y2 (.n 2)))),(.n 60000000))] Y2 (.n 67108864) rfl hB
  have h2:L*suf.length+1<=67108864:=by exact lin [K,row.length*(L+2),L,suf.length*(L+2),L*suf.length] [(1,(.a (.a Y0 (.n 1)) (.a Y1 (.a Y2 (.n 2)))),(.n 60000000)),(1,(.a Y3 (.a Y2 (.n 2))),Y1),(1,Y4,Y3)] (.a Y4 (.n 1)) (.n 67108864) rfl hB mm mm1
  dsimp only[BK,qS1,qS2,qS3,qE1,qE5,qE8,aV,b9,cD,bu,bT,aa,ah,aE]
  refine ⟨IntMulOk.sm b1 hp (by exact lin [K,row.length*(L+2),L,suf.length*(L+2)] [(1,(.a (.a Y0 (.n 1)) (.a Y1 (.a Y2 (.n 2)))),(.n 60000000)),(1,(.a Y3 (.a Y2 (.n 2))),Y1)] (.a (.a Y0 (.n 1)) Y3) (.n 67108864) rfl hB mm) hL,IntMulOk.sm hdm b2 (by exact lin [K,row.length*(L+2),L] [(1,(.a (.a Y0 (.n 1)) (.a Y1 (.a Y2 (.n 2)))),(.n 60000000))] Y0 (.n 67108864) rfl hB) h2,IntMulOk.sm b2 hq h2 hL,?_⟩
  refine hk _ _ ⟨pre',d::suf,some (.int d),by rw[hr1,Hv];rfl,rfl,?_,rfl⟩
  rw[ub,List.length_cons,Ig]
 ·intro ρ H' zr15;refine bH (zr15) fun pre suf o hr1 hx zq21 zq22=>?_;subst zq21;subst zq22
  have hnil:pre=[]:=by
   have:=congrArg List.length hx
   simp at this;exact Io this.symm
  subst hnil
  rw[List.nil_append] at hr1
  subst hr1
  dsimp only[fJ,kJ,kP,aU,aa,ah]
  revert hQ
  generalize bh p q row=z
  intro hQ
  unfold sgn at hQ
  by_cases h1:z<0
  ·rw[if_pos h1] at hQ;rw[decide_eq_true h1];exact hQ
  ·rw[if_neg h1] at hQ;rw[decide_eq_false h1]
   by_cases h2:0<z
   ·rw[if_pos h2] at hQ;rw[decide_eq_true h2];exact hQ
   ·rw[if_neg h2] at hQ;rw[decide_eq_false h2];exact hQ
theorem jG{ng:PE}(hng:∀ (g:Int) (ρ:Loc) (H':Hp) (Z:V->Hp->Prop),ah ρ 1=some (.int g)->Z (.int (-g)) H'->wpE sub (ag sub P n) ng ρ H' Z)(e:P[f]?=some ⟨1,3,vk dv ng⟩)
  (ed:∀ (a b:Int) (H':Hp) (Z:V->Hp->Prop) (X':Nat->Hp->Prop),Z (.int (a.gcd b:Nat)) H'->ag sub P n dv [.int a,.int b] H' Z X') {v:V}{row:List Int}{l:Int} (hv:items H v=some (row.map .int)) (hlast:row.getLast?=some l) (h0:l≠0) (hl:row.length<=1000)
  (hQ:Q (.lst H.length) (H++[(cE row l).map .int])):ag sub P (n+1) f [v] H Q X:=by
 have hmem:l∈row:=HD hlast
 refine aj e rfl ?_
 dsimp only[vk,qS1,qS2,qS3,qS9,bC,dZ,qE1,qE5,qE9,br,aV,qI1,aB,az,aw,av,aM,aA,au,aa,ah,aE,Nat.reduceSub]
 refine ifSome.mk hv ?_
 refine bx (fun rest ρ H'=>∃td g o,rest=(td:List Int).map V.int/\ρ=[some v,some (.int ((g:Nat):Int)),o]/\H'=H/\bn td g=bn row 0) ?_ ?_ _ _ _ ⟨row,0,_,rfl,rfl,rfl,rfl⟩
 ·rintro x xs ρ H' k zI hk;obtain ⟨td,g,o,hx,rfl,rfl,hg⟩:=zI
  cases td with
  |nil=>cases hx
  |cons y td =>
   cases hx
   dsimp only[FT,qS1,qS2,qS3,qE5,aS,aC,aD,aa,ah,aE]
   refine ed _ _ _ _ _ ?_
   exact hk _ _ ⟨td,Nat.gcd g y.natAbs,_,rfl,rfl,rfl,hg⟩
 ·intro ρ H' zr16;refine bH (zr16) fun td g o hx zq19 zq20 hg=>?_;subst zq19;subst zq20
  cases td with
  |cons y td=>cases hx
  |nil =>
   have hg':g=bn row 0:=hg
   have hrl:1<=(row.map V.int).length:=by rw[Hi];exact List.length_pos_of_mem hmem
   have hgp:=gp hmem h0
   have hok:iK (gOf row l):=e7 hmem h0
   have key:∀o',wpE sub (ag sub P n) D7 [some v,some (.int (gOf row l)),o'] H' Q:=fun o'=>by
    dsimp only[D7,qE5,qE8,ij,qI1,ah,aa]
    refine ifSome.mk hv ⟨by rw[Hi];unfold lim;exact lin [row.length] [(1,Y0,(.n 1000))] Y0 (.n 1000000) rfl hl,?_⟩
    refine fW (g:=fun x=>match x with | .int y=>V.int (y.fdiv (gOf row l)) |x=>x) (fun x hx k hk=>?_) ?_
    ·refine ac (HP.mp hx) fun y _ zq108=>?_;subst zq108
     exact ⟨hok,hk⟩
    ·rw[Ia]
     unfold cE at hQ
     rw[Ia] at hQ
     exact hQ
   dsimp only[aa,ah,aE,jm]
   refine ix3 (v:=.int l) hv (dq hrl) ?_ ?_
   ·rw[Hi,HL,<- IP,hlast];rfl
   by_cases hn:l<0
   ·dsimp only[fJ,aU,aa]
    rw[decide_eq_true hn]
    refine hng g _ _ _ rfl ?_
    have:gOf row l=-(g:Int):=by unfold gOf;rw[if_pos hn,hg']
    rw[this] at key
    exact key _
   ·dsimp only[fJ,aU,aa]
    rw[decide_eq_false hn]
    have:gOf row l=(g:Int):=by unfold gOf;rw[if_neg hn,hg']
    rw[this] at key
    exact key _
end
end Mine
namespace Mine
noncomputable def ev(xs:List Int)(t:Int):Int:=bh t 1 xs
theorem bz(t:Int):ev [] t=0:=rfl
theorem aF(c:Int)(r:List Int)(t:Int):ev (c::r) t=c+t*ev r t:=by
 unfold ev;rw[lC];grind
noncomputable def eZ:List Int->List Int->List Int
 | [],ys=>ys
 |x::xs,[]=>x::xs
 |x::xs,y::ys=>(x+y)::eZ xs ys
theorem jZ(x y:Int)(xs ys:List Int):eZ (x::xs) (y::ys)=(x+y)::eZ xs ys:=rfl
theorem kh(ys:List Int):eZ [] ys=ys:=rfl
theorem nL(x:Int)(xs:List Int):eZ (x::xs) []=x::xs:=rfl
theorem e5(t:Int):∀xs ys:List Int,ev (eZ xs ys) t=ev xs t+ev ys t
 | [],ys=>by rw[kh,bz];exact oqz [] [ev ys t] [] (.ie Y0 (0+Y0)) [1] rfl
 |x::xs,[]=>by rw[nL,bz];exact oqz [] [ev (x::xs) t] [] (.ie Y0 (Y0+0)) [1] rfl
 |x::xs,y::ys=>by rw[jZ,aF,aF,aF,e5 t xs ys];grind
theorem bU(c t:Int)(xs:List Int):ev (smul c xs) t=c*ev xs t:=gK t 1 c
noncomputable def cn:List Int->List Int->List Int
 | [],_=>[]
 |x::r,ys=>eZ (smul x ys) (0::cn r ys)
theorem ej(x:Int)(r ys:List Int):cn (x::r) ys=eZ (smul x ys) (0::cn r ys):=rfl
theorem km(ys:List Int):cn [] ys=[]:=rfl
theorem c8(t:Int):∀xs ys:List Int,ev (cn xs ys) t=ev xs t*ev ys t
 | [],ys=>by rw[km,bz];exact oqz [] [ev ys t] [] (.ie 0 (.m 0 Y0)) [1] rfl
 |x::r,ys=>by rw[ej,e5,bU,aF,aF,c8 t r ys];grind
theorem iA:∀xs ys:List Int,(eZ xs ys).length=max xs.length ys.length
 | [],ys=>by rw[kh];simp
 |x::xs,[]=>by rw[nL];simp
 |x::xs,y::ys=>by rw[jZ,List.length_cons,iA xs ys,List.length_cons,List.length_cons];exact oqz [max xs.length ys.length,xs.length,ys.length,max (xs.length+1) (ys.length+1)] [] [(.or (.an (.le Y2 Y1) (.eq Y0 Y1)) (.an (.le Y1 Y2) (.eq Y0 Y2))),(.or (.an (.le (Y2+1) (Y1+1)) (.eq Y3 (Y1+1))) (.an (.le (Y1+1) (Y2+1)) (.eq Y3 (Y2+1))))] (.eq (Y0+1) Y3) [101001,101011,1000101,1010101] rfl (Mine.jo (xs.length) (ys.length)) (Mine.jo (xs.length+1) (ys.length+1))
theorem eY:∀ {xs ys:List Int},xs≠[]->ys≠[]->(cn xs ys).length+1=xs.length+ys.length
 | [],_,h,_=>absurd rfl h
 | [x],ys,_,h=>by
  have:=Ii.mpr h
  rw[ej,iA,bJ,km];simp;exact oqz [max ys.length 1,ys.length] [] [(.le (0+1) Y1),(.or (.an (.le 1 Y1) (.eq Y0 Y1)) (.an (.le Y1 1) (.eq Y0 1)))] (.eq (Y0+1) (1+Y1)) [10001,10101,1001,1011] rfl this (Mine.jo (ys.length) (1))
 |x::y::r,ys,_,h=>by
  have ih:=@eY (y::r) ys (IU _ _) h
  rw[ej,iA,bJ,List.length_cons,List.length_cons];exact oqz [max ys.length ((cn (y::r) ys).length+1),ys.length,(cn (y::r) ys).length,r.length] [] [(.eq (Y2+1) (Y3+1+Y1)),(.or (.an (.le (Y2+1) Y1) (.eq Y0 Y1)) (.an (.le Y1 (Y2+1)) (.eq Y0 (Y2+1))))] (.eq (Y0+1) (Y3+1+1+Y1)) [1100,100101,10011] rfl ih (Mine.jo (ys.length) ((cn (y::r) ys).length+1))
noncomputable def Tr(xs:List Int):Prop:=∃l,xs.getLast?=some l/\l≠0
theorem Tr.ne{xs:List Int}(h:Tr xs):xs≠[]:=by
 refine ac (h) fun l e _=>?_
 intro h;rw[h] at e;cases e
theorem Tr.tl{x y:Int}{xs:List Int}(h:Tr (x::y::xs)):Tr (y::xs):=by
 refine ac (h) fun l e h=>?_
 rw[IC] at e;exact ⟨l,e,h⟩
theorem Tr.cons{x:Int}{xs:List Int}(h:Tr xs):Tr (x::xs):=by
 obtain ⟨l,e,h⟩:=h
 cases xs with
 |nil=>cases e
 |cons y r=>exact ⟨l,by rw[IC];exact e,h⟩
theorem Tr.one{x:Int}(h:x≠0):Tr [x]:=⟨x,rfl,h⟩
theorem Tr.of_one{x:Int}(h:Tr [x]):x≠0:=by refine ac (h) fun l e h=>?_;cases e;exact h
theorem Tr.mem{xs:List Int}(h:Tr xs):∃x∈xs,x≠0:=by
 refine ac (h) fun l e h=>?_
 exact ⟨l,HD e,h⟩
theorem gV{c:Int}(hc:c≠0){xs:List Int}(h:Tr xs):Tr (smul c xs):=by
 refine ac (h) fun l e h=>?_
 refine ⟨c*l,?_,It hc h⟩
 unfold smul;rw[Ji,e];rfl
theorem nS{xs:List Int}(h:∀t,ev xs t=0):∀x∈xs,x=0:=eu fun t _=>h t
theorem Tr.nz{xs:List Int}(h:Tr xs):∃t,ev xs t≠0:=HW fun hn=>by
 refine ac (h.mem) fun x hx h0=>?_
 exact h0 (nS (fun t=>HW fun ht=>hn ⟨t,ht⟩) x hx)
theorem i9:∀ {xs ys:List Int},(xs=[]\/Tr xs)->(ys=[]\/Tr ys)->(∀t,ev xs t=ev ys t)->xs=ys:=fun {xs ys} hx hy h=>by
 have hz:∀z∈eZ xs (smul (-1) ys),z=0:=nS fun t=>by rw[e5,bU,h];exact oqz [] [ev ys t,-1*ev ys t] [(.ie Y1 (.g (.m 1 Y0)))] (.ie (Y0+Y1) 0) [101,11] rfl (Iy 1 (ev ys t))
 clear h
 induction xs generalizing ys with
 |nil =>
  rcases hy with rfl|hy
  ·rfl
  ·refine ac ((gV (c:=-1) (by decide) hy).mem) fun z h1 h2=>?_
   exact absurd (hz z h1) h2
 |cons x r ih =>
  cases ys with
  |nil =>
   rcases hx with h|hx
   ·cases h
   ·refine ac (hx.mem) fun z h1 h2=>?_
    exact absurd (hz z h1) h2
  |cons y s =>
   have h1:x+-1*y=0:=hz _ Hy
   have h2:r=s:=ih (by
    cases r with
    |nil=>exact .inl rfl
    |cons a b=>exact .inr (hx.resolve_left (IU _ _)).tl) (by
    cases s with
    |nil=>exact .inl rfl
    |cons a b=>exact .inr (hy.resolve_left (IU _ _)).tl) fun z hz'=>hz z (Hz _ hz')
   rw[h2];congr 1;exact oqz [] [x,y,-1*y] [(.ie (Y0+Y2) 0),(.ie Y2 (.g (.m 1 Y1)))] (.ie Y0 Y1) [1101,10011] rfl h1 (Iy 1 (y))
theorem mT:∀ {xs ys:List Int}{l:Int},xs.length<ys.length->ys.getLast?=some l->(eZ xs ys).getLast?=some l
 | [],ys,l,_,h=>by rw[kh];exact h
 |x::xs,[],l,h,_=>absurd h (by simp)
 |x::xs,[y],l,h,_=>absurd h (by simp)
 |x::xs,y::z::ys,l,h,hl=>by
  rw[jZ]
  have ih:=@mT xs (z::ys) l (by simp at h ⊢;exact oqz [xs.length,ys.length] [] [(.le (Y0+1) (Y1+1))] (.le (Y0+1) (Y1+1)) [11] rfl h) (by rw[IC] at hl;exact hl)
  cases e:eZ xs (z::ys) with
  |nil=>rw[e] at ih;cases ih
  |cons a b=>rw[IC,<- e];exact ih
theorem jn:∀ {xs ys:List Int}{l m:Int},xs.getLast?=some l->ys.getLast?=some m->(cn xs ys).getLast?=some (l*m)
 | [],_,_,_,h,_=>by cases h
 | [x],ys,l,m,h,hm=>by
  obtain rfl:x=l:=HA h
  have e:cn [x] ys=smul x ys:=by
   cases ys with
   |nil=>cases hm
   |cons y r =>
    rw[ej,km]
    show (x*y+0)::eZ (smul x r) []=x*y::smul x r
    cases r with
    |nil=>show [x*y+0]=[x*y];rw[HO]
    |cons a b=>show (x*y+0)::(x*a::smul x b)=_;rw[HO];rfl
  rw[e];unfold smul;rw[Ji,hm];rfl
 |x::y::r,ys,l,m,h,hm=>by
  rw[IC] at h
  have ih:=jn h hm
  have hne:ys≠[]:=by intro h;rw[h] at hm;cases hm
  have hl:=@eY (y::r) ys (IU _ _) hne
  rw[ej]
  refine mT ?_ ?_
  ·rw[bJ,List.length_cons];rw[List.length_cons] at hl;exact oqz [ys.length,(cn (y::r) ys).length,r.length] [] [(.eq (Y1+1) (Y2+1+Y0))] (.le (Y0+1) (Y1+1)) [101] rfl hl
  ·cases e:cn (y::r) ys with
   |nil=>rw[e] at ih;cases ih
   |cons a b=>rw[IC,<- e];exact ih
theorem oj{xs ys:List Int}(h1:Tr xs)(h2:Tr ys):Tr (cn xs ys):=by
 refine ac (h1) fun l e h=>?_
 refine ac (h2) fun m e' h'=>?_
 exact ⟨_,jn e e',It h h'⟩
noncomputable def PF(f:Int->Int):Prop:=∃xs,∀t,f t=ev xs t
theorem PF.ev(xs:List Int):PF (ev xs):=⟨xs,fun _=>rfl⟩
theorem PF.const(c:Int):PF (fun _=>c):=⟨[c],fun t=>by rw[aF,bz];dsimp only;exact oqz [] [c,t] [] (.ie Y0 (.a Y0 (.r Y1 0))) [1] rfl⟩
theorem PF.id:PF (fun t=>t):=⟨[0,1],fun t=>by rw[aF,aF,bz];dsimp only;omega⟩
theorem PF.add{f g:Int->Int}(h1:PF f)(h2:PF g):PF (fun t=>f t+g t):=by
 obtain ⟨xs,h1⟩:=h1
 obtain ⟨ys,h2⟩:=h2
 exact ⟨eZ xs ys,fun t=>by dsimp only;rw[e5,h1,h2]⟩
theorem PF.mul{f g:Int->Int}(h1:PF f)(h2:PF g):PF (fun t=>f t*g t):=by
 obtain ⟨xs,h1⟩:=h1
 obtain ⟨ys,h2⟩:=h2
 exact ⟨cn xs ys,fun t=>by dsimp only;rw[c8,h1,h2]⟩
theorem PF.smul(c:Int){f:Int->Int}(h1:PF f):PF (fun t=>c*f t):=(PF.const c).mul h1
theorem PF.neg{f:Int->Int}(h1:PF f):PF (fun t=>- f t):=by
 obtain ⟨xs,h1⟩:=h1
 exact ⟨Mine.smul (-1) xs,fun t=>by dsimp only;rw[bU,h1];exact oqz [] [Mine.ev xs t,-1*Mine.ev xs t] [(.ie Y1 (.g (.m 1 Y0)))] (.ie (.g Y0) Y1) [11,101] rfl (Iy 1 (Mine.ev xs t))⟩
theorem q8:∀n:Nat,PF (fun t=>t^n)
 |0=>⟨[1],fun t=>by dsimp only;rw[aF,bz,ID];exact oqz [] [t] [] (.ie 1 (.a 1 (.r Y0 0))) [1] rfl⟩
 |n+1=>by
  obtain ⟨xs,h⟩:=(q8 n).mul PF.id
  exact ⟨xs,fun t=>by rw[<- h];exact Ig _ _⟩
theorem Fy:∀xs:List Int,∃ys,(ys=[]\/Tr ys)/\∀t,ev xs t=ev ys t
 | []=>⟨[],.inl rfl,fun _=>rfl⟩
 |x::r=>by
  refine ac (Fy r) fun ys h e=>?_
  rcases h with rfl|h
  ·by_cases hx:x=0
   ·exact ⟨[],.inl rfl,fun t=>by rw[aF,e,hx,bz];exact oqz [] [t] [] (.ie (.a 0 (.r Y0 0)) 0) [1] rfl⟩
   ·exact ⟨[x],.inr (.one hx),fun t=>by rw[aF,aF,e]⟩
  ·exact ⟨x::ys,.inr h.cons,fun t=>by rw[aF,aF,e]⟩
theorem PF.tr{f:Int->Int}(h:PF f)(h0:∃t,f t≠0):∃xs,Tr xs/\∀t,f t=Mine.ev xs t:=by
 obtain ⟨xs,e⟩:=h
 refine ac (Fy xs) fun ys h e'=>?_
 rcases h with rfl|h
 ·obtain ⟨t,ht⟩:=h0
  exact absurd (by rw[e,e',bz]) ht
 ·exact ⟨ys,h,fun t=>by rw[e,e']⟩
noncomputable def Dv(f g:Int->Int):Prop:=∃ (c:Int) (h:Int->Int),c≠0/\PF h/\∀t,c*g t=f t*h t
theorem Dv.zero(f:Int->Int):Dv f (fun _=>0):=⟨1,fun _=>0,by decide,.const 0,fun t=>by dsimp only;exact oqz [] [f t] [] (.ie (.m 1 0) (.r Y0 0)) [1] rfl⟩
theorem Dv.comb{f g h k u v:Int->Int}{c:Int}(h1:Dv f g)(h2:Dv f h)(pu:PF u)(pv:PF v)(hc:c≠0)(e:∀t,c*k t=u t*g t+v t*h t):Dv f k:=by
 refine ay (h1) fun a x ha px e1=>?_
 refine ay (h2) fun b y hb py e2=>?_
 refine ⟨a*b*c,fun t=>b*(u t*x t)+a*(v t*y t),It (It ha hb) hc,((pu.mul px).smul b).add ((pv.mul py).smul a),fun t=>?_⟩
 have:=e t;have:=e1 t;have:=e2 t;grind
noncomputable def Cop(f g:Int->Int):Prop:=∃ (c:Int) (u v:Int->Int),c≠0/\PF u/\PF v/\∀t,c=u t*f t+v t*g t
noncomputable def evd:List Int->Int->Int
 | [],_=>0
 |_::r,t=>ev r t+t*evd r t
theorem G6(x:Int)(r:List Int)(t:Int):evd (x::r) t=ev r t+t*evd r t:=rfl
theorem GW(t:Int):evd [] t=0:=rfl
end Mine
namespace Mine
open Re
noncomputable def evR:List Int->Re->Re
 | [],_=>0
 |c::r,t=>(c:Re)+t*evR r t
theorem aO(c:Int)(r:List Int)(t:Re):evR (c::r) t=(c:Re)+t*evR r t:=rfl
theorem d3(t:Re):evR [] t=0:=rfl
theorem gz(t:Re):∀xs ys:List Int,evR (eZ xs ys) t=evR xs t+evR ys t
 | [],ys=>by rw[kh,d3];grind
 |x::xs,[]=>by rw[nL];show _=_+(0:Re);grind
 |x::xs,y::ys=>by rw[jZ,aO,aO,aO,gz t xs ys,bq];grind
theorem bX(c:Int)(t:Re):∀xs:List Int,evR (smul c xs) t=c*evR xs t
 | []=>by show (0:Re)=c*0;grind
 |x::xs=>by
  have:smul c (x::xs)=(c*x)::smul c xs:=rfl
  rw[this,aO,aO,bX c t xs,aq];grind
theorem fy(t:Re):∀xs ys:List Int,evR (cn xs ys) t=evR xs t*evR ys t
 | [],ys=>by rw[km,d3];grind
 |x::r,ys=>by rw[ej,gz,bX,aO,aO,fy t r ys,ax];grind
theorem jr(q:Int):∀n:Nat,((q^n:Int):Re)=(q:Re)^n
 |0=>by rw[ID,Hr];rfl
 |n+1=>by rw[Ig,aq,jr q n];grind
theorem gb{p q:Int}{t:Re}(h:(q:Re)*t=p):∀ (xs:List Int) (c:Int),((bh p q (c::xs):Int):Re)=(q:Re)^xs.length*evR (c::xs) t
 | [],c=>by
  show ((0*p+c*q^0:Int):Re)=(q:Re)^0*((c:Re)+t*0)
  simp only[bq,aq,jr,ax];grind
 |d::ys,c=>by
  show ((bh p q (d::ys)*p+c*q^(ys.length+1):Int):Re)=(q:Re)^(ys.length+1)*((c:Re)+t*evR (d::ys) t)
  rw[bq,aq,aq,jr,gb h ys d,<- h];grind
noncomputable def rq(p q:Int):Re:=Re.mk (.ofRat ((p:Rat) / q))
theorem bI{p q:Int}(h:q≠0):(q:Re)*rq p q=p:=fT (x:=(Sq.ofRat (q:Rat)).mul (.ofRat ((p:Rat) / q))) (y:=.ofRat (p:Rat)) fun _=>by
 show (q:Rat)*((p:Rat) / q)=p
 have:(q:Rat)≠0:=fun e=>h (Rat.intCast_inj.mp e)
 rw[Rat.mul_comm,Rat.div_def,Rat.mul_assoc,Rat.inv_mul_cancel _ this,Rat.mul_one]
structure Hh (row:List Int)(lo hi al:Re)(σ:Int):Prop where
 l:lo<al
 u:al<hi
 sg:σ=1\/σ=-1
 val:∀t,lo<=t->t<=hi->rsg (evR row t)=σ*rsg (t-al)
theorem fE{r a b:Re}(hr:0<r)(h:r*a<r*b):a<b:=by
 rcases aN (b-a) with g|g|g
 ·grind
 ·have:=mul_pos hr (show 0<a-b by grind);grind
 ·have:a=b:=by grind
  rw[this] at h;grind
end Mine
namespace Mine
open PySem
theorem qZ(n:Nat):dM ((n:Int)-1) (-1) (-1)=(List.range n).reverse.map fun (i:Nat)=>(i:Int):=by
 have hsz:(Builtin.Range.rangeSize ((n:Int)-1) (-1) (-1)).toNat=n:=by
  unfold Builtin.Range.rangeSize
  simp
  first|done|exact oqz [(if -1 < ↑n-1 then ↑n else 0).toNat,n] [if -1 < ↑n-1 then ↑n else 0] [(.or (.an (.il (.a (.g 1) 1) (.s (.c Y1) 1)) (.ie Y0 (.c Y1))) (.an (.no (.il (.a (.g 1) 1) (.s (.c Y1) 1))) (.ie Y0 0))),(otn Y0 Y0)] (.eq Y0 Y1) [1001001,11001,11,100101,100011] rfl (Mine.sk (-1 < ↑n-1) (↑n) (0)) (aR (if -1 < ↑n-1 then ↑n else 0)) | (split <;> omega)
 unfold dM
 rw[hsz]
 apply List.ext_getElem
 ·simp
 ·intro i h1 h2
  simp at h1 h2
  simp
  exact oqz [n,i,n-1-i,n-1] [] [(.le (Y1+1) Y0),(osb Y0 1 Y3),(osb Y3 Y1 Y2)] (.ie (.a (.s (.c Y0) 1) (.g (.c Y1))) (.c Y2)) [10010001,1000011,10001011,1001001,101001,101] rfl h1 (am (n) (1)) (am (n-1) (i))
theorem CT{n:Nat}{H:Hp}{Q:List V->Option Nat->Hp->Prop}(hn:n<=900)(h:Q ((List.range n).reverse.map fun (i:Nat)=>V.int (i:Int)) none H):oN [.int ((n:Int)-1),.int (-1),.int (-1)] H Q:=by
 refine ⟨(n:Int)-1,-1,-1,rfl,aH (by exact oqz [n] [] [] (.il (.g 1000000) (.s (.c Y0) 1)) [1] rfl) (by exact oqz [n] [] [(.le Y0 900)] (.il (.s (.c Y0) 1) 1000000) [11] rfl hn),aH (by decide) (by decide),.inr (.inl rfl),?_⟩
 rw[qZ,Ia];exact h
section
variable {sub:Nat->Nat->Bool}{P:List Fn}{n:Nat}{H:Hp}{Q:V->Hp->Prop}{X:Nat->Hp->Prop}
theorem BS(zT:TT P){m:Nat}{row:List Int}{p q:Int}{K L:Nat}(hm:H[m]?=some (row.map .int))(hl:row.length<=900)(hr:AllSm K row)(hp:Sm L p)(hq:Sm L q)(hB:K+1+(row.length+1)*(L+2)<=60000000)
  (hQ:Q (.int (bh p q row)) H):ag sub P (n+1) 39 [.lst m,.tup [.int p,.int q]] H Q X:=by
 refine aj zT.a39 rfl ?_
 dsimp only[EA,qS1,qS2,qS3,qS9,dZ,qE1,qE5,qE8,qE9,bV,aC,aD,qI3,cQ,cS,aB,az,aw,av,aM,aA,au,aa,ah,aE,Nat.reduceSub]
 refine ifSome.mk hm ?_
 rw[Hi]
 refine CT hl ?_
 refine bx (fun rest ρ H'=>∃pre suf o,row=pre++suf/\rest=(List.range (pre:List Int).length).reverse.map (fun (i:Nat)=>V.int (i:Int))/\ρ=[some (.lst m),some (.tup [.int p,.int q]),some (.int (bh p q suf)),some (.int (q^suf.length)),o]/\H'=H) ?_ ?_ _ _ _ ⟨row,[],none,(List.append_nil _).symm,rfl,by rw[List.length_nil,ID];rfl,rfl⟩
 ·rintro x xs ρ H' k zI hk;obtain ⟨pre,suf,o,hr1,hx,rfl,rfl⟩:=zI
  rcases JO pre with rfl | ⟨pre',d,rfl⟩
  ·cases hx
  rw[JP] at hr1 hx
  rw[Hl,HE,List.range_succ,JX] at hx
  cases hx
  have hy:(row.map V.int)[pre'.length]?=some (.int d):=by
   rw[hr1,Hv,HF]
   have:=ai (pre'.map V.int) (V.int d) (suf.map V.int);rwa [Hi] at this
  have hdl:pre'.length<(row.map V.int).length:=by rw[hr1];simp
  have hsl:suf.length+1<=row.length:=by rw[hr1,Hl,Hl,HE];exact oqz [suf.length,pre'.length] [] [] (.le (Y0+1) (Y1+1+Y0)) [1] rfl
  have hsf:AllSm K suf:=fun y hy=>hr y (by rw[hr1];simp[hy])
  have hdm:Sm K d:=hr d (by rw[hr1];simp)
  have b1:=j0 hp hq hsf
  have b2:=hq.pow suf.length
  have mm:(suf.length+1)*(L+2)<=row.length*(L+2):=IV _ hsl
  rw[Jo] at mm hB
  have mm1:L*suf.length<=suf.length*(L+2):=by rw[Jp];exact HK _ (by exact oqz [L] [] [] (.le Y0 (Y0+2)) [1] rfl)
  have hL:L<=67108864:=oqz [L,K,row.length*(L+2)] [] [(.le (Y1+1+(Y2+(Y0+2))) 60000000)] (.le Y0 67108864) [11] rfl hB
  have h2:L*suf.length+1<=67108864:=oqz [L*suf.length,K,row.length*(L+2),L,suf.length*(L+2)] [] [(.le (Y1+1+(Y2+(Y3+2))) 60000000),(.le (Y4+(Y3+2)) Y2),(.le Y0 Y4)] (.le (Y0+1) 67108864) [1111] rfl hB mm mm1
  dsimp only[Gq,qS1,qS2,qS3,qE1,qE5,qE8,aV,cD,bu,bT,bZ,aa,ah,aE]
  refine ⟨IntMulOk.sm b1 hp (by exact oqz [K,suf.length*(L+2),row.length*(L+2),L] [] [(.le (Y0+1+(Y2+(Y3+2))) 60000000),(.le (Y1+(Y3+2)) Y2)] (.le (Y0+1+Y1) 67108864) [111] rfl hB mm) hL,?_⟩
  refine ix3 hm (aL hdl) hy ⟨IntMulOk.sm hdm b2 (by exact oqz [K,row.length*(L+2),L] [] [(.le (Y0+1+(Y1+(Y2+2))) 60000000)] (.le Y0 67108864) [11] rfl hB) h2,IntMulOk.sm b2 hq h2 hL,?_⟩
  refine hk _ _ ⟨pre',d::suf,some (.int (pre'.length:Int)),by rw[hr1,Hv];rfl,rfl,?_,rfl⟩
  rw[ub,List.length_cons,Ig]
 ·intro ρ H' zr17;refine bH (zr17) fun pre suf o hr1 hx zq25 zq26=>?_;subst zq25;subst zq26
  have hnil:pre=[]:=by
   have:=congrArg List.length hx
   simp at this;exact Io this.symm
  subst hnil
  rw[List.nil_append] at hr1
  subst hr1
  exact hQ
theorem pB(zT:TT P){p q:Int}{k:Nat}(a:Low k p q)(hk:k<=2000000)(hQ:Q (.bool true) H):ag sub P (n+3) 43 [.tup [.int p,.int q]] H Q X:=by
 refine aj zT.a43 rfl ?_
 dsimp only[n7,qS1,qS2,qS9,bC,qE1,qE2,qE5,ry,br,nR,l7,aS,bV,Bw,aV,aC,aD,cF,kJ,l4,fM,bu,bT,aU,aB,az,aw,av,aA,au,eJ,bK,ix,lX,Gr,aa,ah,Nat.reduceSub,Nat.reduceAdd,List.length_nil]
 refine ifSome.mk (v:=[true]) rfl ?_
 refine (if_pos (show (![true].any id)=false from rfl)).mpr ?_
 refine nE zT ?_
 dsimp only[aU,bK,ix,lX,aa]
 refine nE zT ?_
 dsimp only[aU,bK,lX,aa]
 rw[decide_eq_true a.pos]
 dsimp only[bw]
 refine Ee zT a.pos (a.bot.mono hk) fun p' q' e1 e2=>?_
 rw[a.one] at e1 e2
 have h1:p'=p:=by rw[<- e1];exact (Id _).symm
 have h2:q'=q:=by rw[<- e2];exact (Id _).symm
 subst h1 h2
 dsimp only[FE]
 refine u5 ?_
 rw[decide_eq_true ⟨rfl,rfl⟩];exact hQ
theorem jK{step:V->Hp->(Option V->Hp->Prop)->Prop}{H:Hp}:∀ {xs:List V}{Q:List V->Hp->Prop},(∀x∈xs,∀k:Option V->Hp->Prop,k none H->step x H k)->Q [] H->dm step xs H Q
 | [],_,_,h=>h
 |x::xs,Q,hs,h=>hs x Hy _ (jK (fun y hy=>hs y (Hz _ hy)) h)
structure BO (k m:Nat)(row:List Int)(l p1 q1 p2 q2:Int):Prop where
 len:2<=row.length
 len':row.length<=100
 last:row.getLast?=some l
 pos:0<l
 one:bn row 0=1
 sm:AllSm k row
 low:Low m p1 q1
 high:Low m p2 q2
 lt:p1*q2<p2*q1
 v1:bh p1 q1 row≠0
 v2:bh p2 q2 row≠0
 tv:Mine.tv 0 (hs (p1*q2) (p2*q1) (q1*q2) row)=1
theorem AV(zT:TT P){row:List Int}{l p1 q1 p2 q2:Int}{k m:Nat}(hk:k<=200000)(hm:m<=2000000)(h13:row.length<=13)(I:BO k m row l p1 q1 p2 q2)(hQ:∀H',H<+:H'->Q (.bool true) H') :
  ag sub P (n+4) 44 [.tup [.tup (row.map .int),.tup [.int p1,.int q1],.tup [.int p2,.int q2]]] H Q X:=by
 have hl1:1<=row.length:=Hj (by decide) I.len
 have kk:m<=67108864:=Hj hm (by decide)
 have hB:k+(m+m)+2+row.length*((m+m)+2)<=60000000:=by
  have:=Iv h13 (show (m+m)+2<=4000002 by exact oqz [m] [] [(.le Y0 2000000)] (.le (Y0+Y0+2) 4000002) [21] rfl hm);clear hQ I;exact oqz [k,m,row.length*(m+m+2)] [] [(.le Y0 200000),(.le Y1 2000000),(.le Y2 52000026)] (.le (Y0+(Y1+Y1)+2+Y2) 60000000) [1211] rfl hk hm this
 have hBv:k+1+(row.length+1)*(m+2)<=60000000:=by
  have:=Iv (show row.length+1<=14 by exact oqz [row.length] [] [(.le Y0 13)] (.le (Y0+1) 14) [11] rfl h13) (show m+2<=2000002 by exact oqz [m] [] [(.le Y0 2000000)] (.le (Y0+2) 2000002) [11] rfl hm);clear hQ I;exact oqz [k,(row.length+1)*(m+2)] [] [(.le Y0 200000),(.le Y1 28000028)] (.le (Y0+1+Y1) 60000000) [111] rfl hk this
 have hl9:row.length<=900:=Hj I.len' (by decide)
 have m12:=IntMulOk.sm I.low.top I.high.bot kk kk
 have m21:=IntMulOk.sm I.high.top I.low.bot kk kk
 have mqq:=IntMulOk.sm I.low.bot I.high.bot kk kk
 refine aj zT.a44 rfl ?_
 dsimp only[rh,qS1,qS2,qS3,qS9,bC,qE1,qE2,qE5,qE8,qE9,ry,br,l7,aS,bV,Bw,aV,aC,aD,cF,cD,fJ,l9,l4,fM,cS,i8,bu,bT,d9,dQ,dP,bZ,aU,my,aB,az,aw,av,aM,aA,au,eJ,aa,ah,aE,Nat.reduceSub,Nat.reduceAdd,List.length_nil]
 refine ifSome.mk (v:=[true]) rfl ?_
 refine (if_pos (show (![true].any id)=false from rfl)).mpr ?_
 refine (if_pos (show (!decide ((([V.tup (row.map .int),V.tup [.int p1,.int q1],V.tup [.int p2,.int q2]].length:Nat):Int)=3))=false from rfl)).mpr ?_
 refine ifSome.mk (v:=[true]) rfl ?_
 dsimp only[lX,Dz]
 have hr:(H++[row.map V.int])[H.length]?=some (row.map V.int):=ai _ _ _
 refine ifSome.mk hr ?_
 rw[Hi,decide_eq_false (show ¬ ((row.length:Nat):Int)<2 by have:=I.len;exact oqz [row.length] [] [(.le 2 Y0)] (.no (.il (.a (.c Y0) 1) 2)) [11] rfl this)]
 dsimp only[zWh,qE5,ry,aS,ij,aC,aD,qO2,qI1,kJ,cS,aU,d6,cq,aw,av,bK,ix,aa,ah]
 refine ifSome.mk hr ⟨by rw[Hi];exact Hj I.len' (by decide),?_⟩
 refine jK (fun x hx k' hk'=>?_) ?_
 ·refine ac (HP.mp hx) fun y _ zq110=>?_;subst zq110
  exact nE zT hk'
 refine ifSome.mk (v:=[]) (ai _ _ _) ?_
 dsimp only[List.length_nil]
 have hp1:H++[row.map V.int]<+:H++[row.map V.int]++[[]]:=af _ _
 refine (if_pos (show decide ((0:Int)<((0:Nat):Int))=false from rfl)).mpr ?_
 refine ix3 (v:=.int l) (ao hp1 hr) (dq (by rw[Hi];exact hl1)) ?_ ?_
 ·rw[Hi,HL,<- IP,I.last];rfl
 dsimp only[fJ,aU,aa]
 rw[decide_eq_false (show ¬ l<1 by have:=I.pos;exact oqz [] [l] [(.il (0+1) Y0)] (.no (.il (Y0+1) 1)) [11] rfl this)]
 dsimp only[bK,FS,qS1,qS2,qS3,qS9,bC,qE1,qE2,qE5,qE8,qE9,ry,br,l7,aS,bV,Bw,aV,aC,aD,cF,cD,fJ,l9,l4,fM,cS,i8,bu,bT,d9,dQ,dP,bZ,aU,my,aB,az,aw,av,aM,aA,au,eJ,aa,ah,aE,Nat.reduceSub,Nat.reduceAdd,List.length_nil]
 refine jG (n:=n+2) (fun g ρ H' Z hg hz=>?_) zT.a38 (fun a b H' Z X' hz=>uQ zT hz) (v:=.lst H.length) (ao hp1 hr) I.last (Ho I.pos) (Hj I.len' (by decide)) ?_
 ·dsimp only[ngL,qE1,qE5,qE8]
  refine ifSome.mk hg ?_
  show Z (.int (0-g)) H'
  rw[Int.zero_sub];exact hz
 rw[yr I.one I.pos]
 dsimp only[Ft,aU,aa]
 generalize hH2:H++[row.map V.int]++[[]]=H2 at hp1
 have hr2:H2[H.length]?=some (row.map V.int):=ao hp1 hr
 have hp0:H<+:H2:=ad (af _ _) hp1
 refine u9 (ai _ _ _) (ao (af _ _) hr2) ?_
 rw[decide_eq_true rfl]
 dsimp only[bK,ix,lX]
 refine pB zT I.low hm ?_
 dsimp only[aU,bK,ix,lX,aa]
 refine pB zT I.high hm ?_
 dsimp only[bK,lX,Fg,qS1,qS2,qS3,qS9,bC,qE1,qE2,qE5,qE8,qE9,ry,br,l7,aS,bV,Bw,aV,aC,aD,cF,cD,fJ,l9,l4,fM,cS,i8,bu,bT,d9,dQ,dP,bZ,aU,my,aB,az,aw,av,aM,aA,au,eJ,aa,ah,aE,Nat.reduceSub,Nat.reduceAdd,List.length_nil]
 have hr3:(H2++[row.map V.int])[H.length]?=some (row.map V.int):=ao (af _ _) hr2
 refine BS zT hr3 hl9 I.sm I.low.top I.low.bot hBv ?_
 refine BS zT hr3 hl9 I.sm I.high.top I.high.bot hBv ?_
 dsimp only[fA,aU,aa]
 refine ⟨m12,m21,?_⟩
 rw[decide_eq_false (IT.mpr I.lt),decide_eq_false I.v1,decide_eq_false I.v2]
 dsimp only[bK,ix]
 refine wt zT hr3 hl9 I.sm (I.low.top.mul I.high.bot) (I.high.top.mul I.low.bot) (I.low.bot.mul I.high.bot) m12 m21 mqq hB fun H4 hp4=>?_
 rw[I.tv]
 exact hQ _ (ad (ad hp0 (af _ _)) hp4)
end
end Mine
namespace Mine
theorem lq:∀ (r:List Int) (g d:Nat),d ∣ g->(∀x∈r,d ∣ x.natAbs)->d ∣ bn r g
 | [],g,d,h,_=>h
 |x::r,g,d,h,hx=>lq r _ d (Nat.dvd_gcd h (hx x Hy)) fun y hy=>hx y (Hz _ hy)
theorem Ap{xs:List Int}(h:∀d:Nat,(∀x∈xs,(d:Int) ∣ x)->d=1):bn xs 0=1:=
 h _ fun x hx=>IN.mp (by rw[Jb];exact (iE xs 0).2 x hx)
theorem qn{xs:List Int}(h:bn xs 0=1){d:Nat}(hd:∀x∈xs,(d:Int) ∣ x):d=1:=by
 have:=lq xs 0 d (Nat.dvd_zero d) fun x hx=>by
  have:=IN.mpr (hd x hx)
  rwa [Jb] at this
 rw[h] at this
 exact Nat.dvd_one.mp this
noncomputable def Pr(p:Nat):Prop:=1<p/\∀a,a ∣ p->a=1\/a=p
theorem jw:∀ (n d:Nat),d<=n->d≠1->∃p,Pr p/\p ∣ d
 |0,d,h,_=>by
  obtain rfl:d=0:=oqz [d] [] [(.le Y0 0)] (.eq Y0 0) [11] rfl h
  refine ⟨2,⟨by decide,fun a ha=>?_⟩,Nat.dvd_zero 2⟩
  have:=Ko (by decide) ha
  rcases Nat.lt_or_ge a 2 with h|h
  ·by_cases h0:a=0
   ·subst h0;rw[Nat.zero_dvd] at ha;exact oqz [] [] [(.eq 2 0)] (.or (.eq 0 1) (.eq 0 2)) [100] rfl ha
   ·left;exact oqz [a] [] [(.le (Y0+1) 2),(.no (.eq Y0 0))] (.eq Y0 1) [101,11] rfl h h0
  ·right;exact oqz [a] [] [(.le Y0 2),(.le 2 Y0)] (.eq Y0 2) [101,11] rfl this h
 |n+1,d,h,h1=>by
  by_cases h0:d=0
  ·exact jw n d (by exact oqz [d,n] [] [(.eq Y0 0)] (.le Y0 Y1) [11] rfl h0) h1
  by_cases hp:∀a,a ∣ d->a=1\/a=d
  ·exact ⟨d,⟨by exact oqz [d] [] [(.no (.eq Y0 1)),(.no (.eq Y0 0))] (.le (1+1) Y0) [110,11] rfl h1 h0,hp⟩,Nat.dvd_refl d⟩
  ·obtain ⟨a,ha⟩:=Classical.not_forall.mp hp
   obtain ⟨hd,ha⟩:=Classical.not_imp.mp ha
   have hle:=Ko (by exact oqz [d] [] [(.no (.eq Y0 0))] (.le (0+1) Y0) [11] rfl h0) hd
   refine ac (jw n a (by exact oqz [a,n,d] [] [(.le Y2 (Y1+1)),(.le Y0 Y2),(.no (.or (.eq Y0 1) (.eq Y0 Y2)))] (.le Y0 Y1) [10011,10100] rfl h hle ha) (by exact oqz [a,d] [] [(.no (.or (.eq Y0 1) (.eq Y0 Y1)))] (.no (.eq Y0 1)) [110,101] rfl ha)) fun p h2 h3=>?_
   exact ⟨p,h2,Nat.dvd_trans h3 hd⟩
theorem Pr.mul{p:Nat}(h:Pr p){x y:Int}(hd:(p:Int) ∣ x*y):(p:Int) ∣ x\/(p:Int) ∣ y:=by
 have hd':p ∣ x.natAbs*y.natAbs:=by
  have:=IN.mpr hd
  rwa [Jb,HV] at this
 have back:∀ {z:Int},p ∣ z.natAbs->(p:Int) ∣ z:=fun hz=>IN.mp (by rw[Jb];exact hz)
 rcases h.2 _ (Nat.gcd_dvd_left p x.natAbs) with h1|h1
 ·exact .inr (back (Nat.Coprime.dvd_of_dvd_mul_left h1 hd'))
 ·exact .inl (back (by rw[<- h1];exact Nat.gcd_dvd_right _ _))
noncomputable def AD(p:Int)(xs:List Int):Prop:=∀x∈xs,p ∣ x
theorem AD.cons{p x:Int}{xs:List Int}(h:p ∣ x)(h':AD p xs):AD p (x::xs):=fun y hy=>by
 rcases HM.mp hy with rfl|hy
 ·exact h
 ·exact h' y hy
theorem AD.hd{p x:Int}{xs:List Int}(h:AD p (x::xs)):p ∣ x:=h x Hy
theorem AD.tl{p x:Int}{xs:List Int}(h:AD p (x::xs)):AD p xs:=fun y hy=>h y (Hz _ hy)
theorem AD.smul{p c:Int}{xs:List Int}(h:p ∣ c):AD p (Mine.smul c xs):=fun x hx=>by
 refine ac (HP.mp hx) fun y _ zq145=>?_;subst zq145
 exact Int.dvd_mul_of_dvd_left h
theorem AD.of_add{p:Int}:∀ {xs ys:List Int},AD p (eZ xs ys)->AD p xs->AD p ys
 | [],ys,h,_=>h
 |x::xs,[],_,_=>fun _ h=>nomatch h
 |x::xs,y::ys,h,h1=>.cons (by
   have h2:p ∣ x+y:=AD.hd (show AD p ((x+y)::eZ xs ys) from h)
   exact (Int.dvd_add_right h1.hd).mp h2) (AD.of_add (AD.tl (show AD p ((x+y)::eZ xs ys) from h)) h1.tl)
theorem sC{x y:Int}{r s:List Int}(hs:s≠[]):cn (x::r) (y::s)=eZ (smul y (x::r)) (0::cn (x::r) s):=by
 refine oX ?_ fun t=>?_
 ·have h1:=@eY (x::r) (y::s) (IU _ _) (IU _ _)
  have h2:=@eY (x::r) s (IU _ _) hs
  have h3:=Ii.mpr hs
  rw[iA,bJ]
  simp only[List.length_cons] at h1 h2 ⊢
  exact oqz [(cn (x::r) (y::s)).length,max (r.length+1) ((cn (x::r) s).length+1),r.length,(cn (x::r) s).length,s.length] [] [(.eq (Y0+1) (Y2+1+(Y4+1))),(.eq (Y3+1) (Y2+1+Y4)),(.or (.an (.le (Y3+1) (Y2+1)) (.eq Y1 (Y2+1))) (.an (.le (Y2+1) (Y3+1)) (.eq Y1 (Y3+1))))] (.eq Y0 Y1) [1000101,1001101,10110011,10010011] rfl h1 h2 (Mine.jo (r.length+1) ((cn (x::r) s).length+1))
 ·show ev _ t=ev _ t
  rw[c8,e5,bU,aF,aF,aF,c8,aF];grind
theorem xD{p:Nat}(hp:Pr p){x:Int}{r:List Int}(hx:¬ (p:Int) ∣ x):∀ {ys:List Int},AD p (cn (x::r) ys)->AD p ys
 | [],_=>fun _ h=>nomatch h
 | [y],h=>.cons (by
   have h1:(p:Int) ∣ x*y+0:=h _ (by rw[ej];exact Hy)
   rw[HO] at h1
   exact (hp.mul h1).resolve_left hx) (fun _ h=>nomatch h)
 |y::z::s,h=>by
  have h1:(p:Int) ∣ x*y+0:=h _ (by rw[ej];exact Hy)
  rw[HO] at h1
  have hy:=(hp.mul h1).resolve_left hx
  rw[sC (IU _ _)] at h
  exact .cons hy (xD hp hx (h.of_add (.smul hy)).tl)
theorem xK{p:Nat}(hp:Pr p):∀ {xs ys:List Int},AD p (cn xs ys)->AD p xs\/AD p ys
 | [],_,_=>.inl fun _ h=>nomatch h
 |x::r,ys,h=>by
  by_cases hx:(p:Int) ∣ x
  ·rcases xK hp (show AD p (cn r ys) from (AD.of_add (by rw[ej] at h;exact h) (.smul hx)).tl) with h1|h1
   ·exact .inl (.cons hx h1)
   ·exact .inr h1
  ·exact .inr (xD hp hx h)
theorem FW{xs ys:List Int}(h1:bn xs 0=1)(h2:bn ys 0=1):bn (cn xs ys) 0=1:=Ap fun d hd=>HW fun hn=>by
 refine ac (jw d d (Ht d) hn) fun p hp hpd=>?_
 have hpd':(p:Int) ∣ (d:Int):=Int.natCast_dvd_natCast.mpr hpd
 have hA:AD p (cn xs ys):=fun x hx=>Int.dvd_trans hpd' (hd x hx)
 have hp1:=hp.1
 rcases xK hp hA with h|h
 ·have:=qn h1 h;exact oqz [p] [] [(.le (1+1) Y0),(.eq Y0 1)] .ff [11] rfl hp1 this
 ·have:=qn h2 h;exact oqz [p] [] [(.le (1+1) Y0),(.eq Y0 1)] .ff [11] rfl hp1 this
theorem fD{c:Int}{xs:List Int}:bn (smul c xs) 0=bn xs 0*c.natAbs:=by
 have:=lH c.natAbs xs c 0 rfl
 rw[Nat.zero_mul,nP] at this;exact this
theorem AI{xs ys:List Int}{l m a b:Int}(g1:bn xs 0=1)(g2:bn ys 0=1)(l1:xs.getLast?=some l)(l2:ys.getLast?=some m)(p1:0<l)(p2:0<m)(ha:a≠0)(hb:b≠0)(e:∀t,a*ev xs t=b*ev ys t):xs=ys:=by
 have t1:Tr xs:=⟨l,l1,by exact oqz [] [l] [(.il (0+1) Y0)] (.no (.ie Y0 0)) [101] rfl p1⟩
 have t2:Tr ys:=⟨m,l2,by exact oqz [] [m] [(.il (0+1) Y0)] (.no (.ie Y0 0)) [101] rfl p2⟩
 have h:smul a xs=smul b ys:=i9 (.inr (gV ha t1)) (.inr (gV hb t2)) fun t=>by rw[bU,bU,e]
 have h1:a.natAbs=b.natAbs:=by
  have:=congrArg (fun x=>bn x 0) h
  rw[fD,fD,g1,g2] at this
  exact oqz [a.natAbs,b.natAbs] [] [(.eq (.m 1 Y0) (.m 1 Y1))] (.eq Y0 Y1) [101,11] rfl this
 have h2:a*l=b*m:=by
  have:=congrArg List.getLast? h
  unfold smul at this
  rw[Ji,Ji,l1,l2] at this
  exact HA this
 have h3:a=b:=by
  rcases (by (exact oqz [a.natAbs,b.natAbs] [a,b] [(.eq Y0 Y1),(ona Y0 Y0),(ona Y1 Y1)] (.or (.ie Y0 Y1) (.ie Y0 (.g Y1))) [101000110,101000101,1000101001,1000101010] rfl h1 (bm (a)) (bm (b))):a=b\/a=-b) with h|h
  ·exact h
  ·exfalso
   rw[h] at h2
   have h4:b*(l+m)=0:=by grind
   rcases Int.mul_eq_zero.mp h4 with h5|h5
   ·exact hb h5
   ·exact oqz [] [l,m] [(.il (0+1) Y0),(.il (0+1) Y1),(.ie (Y0+Y1) 0)] .ff [111] rfl p1 p2 h5
 subst h3
 refine i9 (.inr t1) (.inr t2) fun t=>?_
 exact I5 ha (e t)
theorem eE{r:List Int}{l:Int}:smul (gOf r l) (cE r l)=r:=by rw[<- nP,oQ]
theorem kQ{r:List Int}{l:Int}(t:Int):ev r t=gOf r l*ev (cE r l) t:=by
 have:=congrArg (fun x=>ev x t) (@eE r l)
 rw[bU] at this;exact this.symm
theorem bD{r:List Int}{l:Int}(hl:r.getLast?=some l):(cE r l).getLast?=some (l.fdiv (gOf r l)):=by
 unfold cE;rw[Ji,hl];rfl
theorem qS{r:List Int}{l:Int}(hl:r.getLast?=some l)(h0:l≠0):Tr (cE r l):=⟨_,bD hl,by have:=cM (HD hl) h0;exact oqz [] [l.fdiv (gOf r l)] [(.il (0+1) Y0)] (.no (.ie Y0 0)) [101] rfl this⟩
theorem mV{c l:Int}{xs:List Int}(h:xs.getLast?=some l):(smul c xs).getLast?=some (c*l):=by
 unfold smul;rw[Ji,h];rfl
theorem mE{g k:List Int}{l m:Int}(hg:bn g 0=1)(hk:bn k 0=1)(lg:g.getLast?=some l)(lk:k.getLast?=some m)(g0:l≠0)(k0:m≠0)(h:Dv (ev g) (ev k)):∃h,Tr h/\∀t,ev k t=ev g t*ev h t:=by
 refine ay (h) fun c u hc pu e=>?_
 have tk:Tr k:=⟨m,lk,k0⟩
 have tg:Tr g:=⟨l,lg,g0⟩
 have hu:∃t,u t≠0:=by
  obtain ⟨t,ht⟩:=tk.nz
  refine ⟨t,fun h=>?_⟩
  have:=e t
  rw[h,HS] at this
  exact (It hc ht) this
 refine ac (pu.tr hu) fun xs tx ex=>?_
 refine ac (tx) fun n ln n0=>?_
 have hx:∀t,u t=gOf xs n*ev (cE xs n) t:=fun t=>by rw[ex,<- kQ]
 have hmem:=HD ln
 have tr:=qS ln n0
 have h1:smul c k=smul (gOf xs n) (cn g (cE xs n)):=i9 (.inr (gV hc tk)) (.inr (gV (e7 hmem n0) (oj tg tr))) fun t=>by
  rw[bU,bU,c8,e,hx];grind
 have h2:c.natAbs=(gOf xs n).natAbs:=by
  have:=congrArg (fun x=>bn x 0) h1
  rw[fD,fD,hk,FW hg (eI hmem n0)] at this
  exact oqz [c.natAbs,(gOf xs n).natAbs] [] [(.eq (.m 1 Y0) (.m 1 Y1))] (.eq Y0 Y1) [101,11] rfl this
 rcases (by (exact oqz [c.natAbs,(gOf xs n).natAbs] [gOf xs n,c] [(.eq Y0 Y1),(ona Y1 Y0),(ona Y0 Y1)] (.or (.ie Y0 Y1) (.ie Y0 (.g Y1))) [1000101010,1000101001,101000101,101000110] rfl h2 (bm (c)) (bm (gOf xs n))):gOf xs n=c\/gOf xs n=-c) with h3|h3
 ·refine ⟨cE xs n,tr,fun t=>?_⟩
  have:=e t
  rw[hx,h3] at this
  exact I5 hc (by grind)
 ·refine ⟨smul (-1) (cE xs n),gV (by decide) tr,fun t=>?_⟩
  have:=e t
  rw[hx,h3] at this
  rw[bU]
  exact I5 hc (by grind)
structure Fac (f d:List Int)(G E:Int->Int):Prop where
 pG:PF G
 pE:PF E
 nz:∃t,G t≠0
 fe:∀t,ev f t=G t*ev d t
 fd:∀t,evd f t=G t*E t
 co:Cop (ev d) E
noncomputable def sl:Int->List Int->List Int
 |_,[]=>[]
 |k,x::r=>k*x::sl (k+1) r
theorem Gl(k x:Int)(r:List Int):sl k (x::r)=k*x::sl (k+1) r:=rfl
theorem qI:∀ (r:List Int) (k:Int),(sl k r).length=r.length
 | [],_=>rfl
 |x::r,k=>by show (sl (k+1) r).length+1=r.length+1;rw[qI]
theorem Cj:∀ {r:List Int}{k:Int},0<k->Tr r->Tr (sl k r)
 | [],_,_,h=>absurd rfl h.ne
 | [x],k,hk,h=>.one (It (by exact oqz [] [k] [(.il (0+1) Y0)] (.no (.ie Y0 0)) [101] rfl hk) h.of_one)
 |x::y::r,k,hk,h=>Tr.cons (Cj (r:=y::r) (by exact oqz [] [k] [(.il (0+1) Y0)] (.il (0+1) (Y0+1)) [11] rfl hk) h.tl)
noncomputable def Irr(F:List Int):Prop:=Tr F/\∀X,Tr X->X.length<F.length->Cop (ev F) (ev X)
theorem ev1(c t:Int):ev [c] t=c:=by rw[aF,bz];exact oqz [] [c,t] [] (.ie (.a Y0 (.r Y1 0)) Y0) [1] rfl
structure Ftr (F:List Int)(l:Int):Prop where
 irr:Irr F
 len:2<=F.length
 len':F.length<=4
 last:F.getLast?=some l
 pos:0<l
 one:bn F 0=1
theorem oI:∀xs:List Int,∃ys,(ys=[]\/Tr ys)/\(∀t,ev xs t=ev ys t)/\ys.length<=xs.length
 | []=>⟨[],.inl rfl,fun _=>rfl,Ht _⟩
 |x::r=>by
  obtain ⟨ys,h,e,hl⟩:=oI r
  rcases h with rfl|h
  ·by_cases hx:x=0
   ·exact ⟨[],.inl rfl,fun t=>by rw[aF,e,hx,bz];exact oqz [] [t] [] (.ie (.a 0 (.r Y0 0)) 0) [1] rfl,HQ _⟩
   ·exact ⟨[x],.inr (.one hx),fun t=>by rw[aF,aF,e],by simp⟩
  ·exact ⟨x::ys,.inr h.cons,fun t=>by rw[aF,aF,e],by simp;exact hl⟩
theorem lO(t:Int):∀xs:List Int,ev (xs++[0]) t=ev xs t
 | []=>by rw[List.nil_append,ev1,bz]
 |x::r=>by rw[List.cons_append,aF,aF,lO t r]
end Mine
namespace Mine
open PySem
theorem fu(t:Int):∀xs ys:List Int,ev (xs++ys) t=ev xs t+t^xs.length*ev ys t
 | [],ys=>by rw[List.nil_append,bz,List.length_nil,ID];exact oqz [] [ev ys t] [] (.ie Y0 (.a 0 (.m 1 Y0))) [1] rfl
 |x::r,ys=>by rw[List.cons_append,aF,aF,fu t r ys,List.length_cons,Ig];grind
theorem qj(t:Int):∀n:Nat,ev (bO n) t=0
 |0=>rfl
 |n+1=>by show ev (0::bO n) t=0;rw[aF,qj t n];exact oqz [] [t] [] (.ie (.a 0 (.r Y0 0)) 0) [1] rfl
theorem ur{xs ys:List Int}{n:Nat}(h:xs=ys++bO n)(t:Int):ev xs t=ev ys t:=by rw[h,fu,qj];exact oqz [] [ev ys t,t^ys.length] [] (.ie (.a Y0 (.r Y1 0)) Y0) [1] rfl
noncomputable def wlz(s m:Int)(xs ys:List Int):List Int:=List.zipWith (fun x y=>x*s-m*y) xs ys
theorem yZ(s m t:Int):∀ {xs ys:List Int},xs.length=ys.length->ev (wlz s m xs ys) t=s*ev xs t-m*ev ys t
 | [],[],_=>by show (0:Int)=s*0-m*0;exact oqz [] [s,m] [] (.ie 0 (.s (.r Y0 0) (.r Y1 0))) [1] rfl
 |x::r,y::u,h=>by
  show ev ((x*s-m*y)::wlz s m r u) t=_
  rw[aF,aF,aF,yZ s m t (IW h)];grind
noncomputable def wlo(s m:Int)(l0 l1 o:List Int):List Int:=(l0.map fun x=>x*s)++wlz s m l1 o
theorem qV{s m:Int}{l0 l1 o:List Int}(h:l1.length=o.length)(t:Int):ev (wlo s m l0 l1 o) t=s*ev (l0++l1) t-m*t^l0.length*ev o t:=by
 have e:(l0.map fun x=>x*s)=smul s l0:=nP
 rw[wlo,fu,fu,e,bU,bJ,yZ s m t h];grind
theorem uq{s m:Int}{xs ys:List Int}(h:xs.length=ys.length):(wlz s m xs ys).length=ys.length:=by unfold wlz;rw[List.length_zipWith,h,Nat.min_self]
theorem j7{s m:Int}{l0 l1 o:List Int}(h:l1.length=o.length):(wlo s m l0 l1 o).length=l0.length+o.length:=by
 rw[wlo,Hl,Hi,uq h]
theorem yT{s m:Int}{K L:Nat}(hs:Sm L s)(hm:Sm K m):∀ {xs ys:List Int},AllSm K xs->AllSm L ys->AllSm (K+L+1) (wlz s m xs ys)
 | [],_,_,_=>.nil
 |_::_,[],_,_=>.nil
 |x::r,y::u,h1,h2=>.cons ((h1.hd.mul hs).sub (hm.mul h2.hd)) (yT hs hm h1.tl h2.tl)
theorem Ex{s m:Int}{K L:Nat}{l0 l1 o:List Int}(hs:Sm L s)(hm:Sm K m)(h0:AllSm K l0)(h1:AllSm K l1)(h2:AllSm L o):AllSm (K+L+1) (wlo s m l0 l1 o):=fun x hx=>by
 rcases Ik.mp hx with hx|hx
 ·refine ac (HP.mp hx) fun y hy zq113=>?_;subst zq113
  exact ((h0 y hy).mul hs).mono (IZ _)
 ·exact yT hs hm h1 h2 x hx
theorem iI{s m a b:Int}:∀ {xs ys:List Int},xs.length=ys.length->xs.getLast?=some a->ys.getLast?=some b->(wlz s m xs ys).getLast?=some (a*s-m*b)
 | [],[],_,h,_=>by cases h
 | [x],[y],_,h1,h2=>by cases h1;cases h2;rfl
 |x::x'::r,y::y'::u,h,h1,h2=>by
  rw[IC] at h1 h2
  have ih:=iI (s:=s) (m:=m) (IW h) h1 h2
  show ((x*s-m*y)::(x'*s-m*y')::wlz s m r u).getLast?=_
  rw[IC];exact ih
 | [_],_::_::_,h,_,_=>by simp at h
 |_::_::_,[_],h,_,_=>by simp at h
section
variable {sub:Nat->Nat->Bool}{P:List Fn}{n:Nat}{H:Hp}{Q:V->Hp->Prop}{X:Nat->Hp->Prop}
noncomputable def BD(H:Hp)(k:Nat):Nat:=match H[k]? with|some xs=>xs.length|none=>0
theorem qR(zT:TT P){v:V}{row:List Int}(hv:items H v=some (row.map .int))
  (hQ:∀ (ys:List Int) (k:Nat),row=ys++bO k->(ys=[]\/Tr ys)->Q (.lst H.length) (H++[ys.map .int])):ag sub P (n+1) 7 [v] H Q X:=by
 refine aj zT.a7 rfl ?_
 dsimp only[x7,qS1,qS2,qS3,qS7,qS9,lr,qE5,bV,aC,aD,i8,aB,az,aw,av,aM,aA,au,aa,ah,aE,Nat.reduceSub]
 refine ifSome.mk hv ?_
 refine ⟨fun ρ H'=>∃ (ys:List Int) (k:Nat),ρ=[some v,some (.lst H.length)]/\H'=H++[ys.map .int]/\row=ys++bO k,fun _ H'=>BD H' H.length,⟨row,0,rfl,rfl,(List.append_nil _).symm⟩,?_⟩
 intro ρ H' zr18;refine ay (zr18) fun ys k zq29 zq30 hr=>?_;subst zq29;subst zq30
 have hy:(H++[ys.map V.int])[H.length]?=some (ys.map V.int):=ai _ _ _
 dsimp only[Ck,qE1,qE5,qE9,br,nR,aV,cF,bZ,G8,aa,ah]
 refine ifSome.mk (v:=!(ys.map V.int).isEmpty) (by rw[hy];rfl) ?_
 rcases JO ys with rfl | ⟨zs,c,rfl⟩
 ·refine (if_neg (by decide)).mpr ?_
  refine ifSome.mk (v:=false) (by rw[hy];rfl) ?_
  exact hQ [] k hr (.inl rfl)
 ·rw[JP] at hr hy ⊢
  have hne:(!((zs++[c]).map V.int).isEmpty)=true:=by simp
  rw[hne]
  dsimp only[bw]
  have hl:((zs++[c]).map V.int).length=zs.length+1:=by simp
  refine ix3 (v:=.int c) hy (dq (by exact lin [(List.map V.int (zs++[c])).length,zs.length] [(1,(.a Y1 (.n 1)),Y0)] (.n 1) Y0 rfl (IE (hl).symm))) ?_ ?_
  ·rw[hl,Nat.add_sub_cancel,HF]
   have:=ai (zs.map V.int) (V.int c) [];rwa [Hi] at this
  dsimp only[fA,aU,aa]
  by_cases hc:c=0
  ·rw[decide_eq_true hc]
   dsimp only[bw]
   refine ⟨Ht _,ifSome.mk hy ⟨zs.map V.int,c,by rw[HF];rfl,?_⟩⟩
   rw[cT]
   refine ⟨⟨zs,k+1,rfl,rfl,?_⟩,?_⟩
   ·rw[hr,hc,Hv];rfl
   ·unfold BD
    rw[ai,hy]
    show (zs.map V.int).length<((zs++[c]).map V.int).length
    rw[hl,Hi];exact IA _
  ·rw[decide_eq_false hc]
   dsimp only[bK]
   exact hQ _ k hr (.inr ⟨c,by simp,hc⟩)
inductive WlI (H:Hp) (a:Nat) (w:V) (m s:Int) (l0 l1 o:List Int) (rest:List V) (ρ:Loc) (H':Hp):Prop
 |mk (d1:List Int) (t1:List Int) (d2:List Int) (t2:List Int) (x:Option V) (c0:l1=d1++t1) (c1:o=d2++t2) (c2:d1.length=d2.length) (c3:rest=(List.range' d2.length t2.length).map (fun (i:Nat)=>V.int (i:Int))) (c4:ρ=[some (.lst a),some w,some (.int m),some (.int s),some (.lst H.length),some (.int (l0.length:Int)),x]) (c5:H'=H++[((l0.map fun x=>x*s)++(wlz s m d1 d2++(t1.map fun x=>x*s))).map .int])
theorem Fk(zT:TT P){a:Nat}{w:V}{l0 l1 o:List Int}{m s:Int}(ha:H[a]?=some ((l0++l1).map .int))(hw:items H w=some (o.map .int))(hl:l1.length=o.length)(hn:(l0++l1).length<=900)
  (h1:∀x∈l0++l1,IntMulOk x s) (h2:∀y∈o,IntMulOk m y) (hQ:Q (.lst H.length) (H++[(wlo s m l0 l1 o).map .int])):ag sub P (n+1) 10 [.lst a,w,.int m,.int s] H Q X:=by
 have hn':l0.length+l1.length<=900:=by rw[Hl] at hn;exact hn
 refine aj zT.a10 rfl ?_
 dsimp only[bWl,qS1,qS2,qS3,qS9,dZ,qE5,qE8,bV,ij,aC,aD,qO1,qI1,qI3,cS,d6,cq,aB,az,aw,av,aM,aA,au,bw,aa,ah,aE,Nat.reduceSub]
 refine ifSome.mk ha ⟨by rw[Hi];unfold lim;exact lin [(l0++l1).length] [(1,Y0,(.n 900))] Y0 (.n 1000000) rfl hn,?_⟩
 refine gi (h:=V.int) (g:=fun x=>V.int (x*s)) (fun x hx k hk=>⟨h1 x hx,hk⟩) ?_
 have ha':∀l:List V,(H++[l])[a]?=some ((l0++l1).map .int):=fun l=>ao (af _ _) ha
 have hw':∀l:List V,items (H++[l]) w=some (o.map .int):=fun l=>cr (af _ _) hw
 refine ifSome.mk (ha' _) (ifSome.mk (hw' _) ?_)
 refine ifSome.mk (hw' _) ?_
 rw[Hi,Hi,Hl]
 have ed:((l0.length+l1.length:Nat):Int)-((o.length:Nat):Int)=((l0.length:Nat):Int):=oqz [l0.length,l1.length,o.length] [] [(.eq Y1 Y2)] (.ie (.s (.c (Y0+Y1)) (.c Y2)) (.c Y0)) [101,11] rfl hl
 rw[ed]
 refine ji (jq (by exact lin [l1.length,o.length,l0.length] [(1,Y1,Y0),(1,(.a Y2 Y0),(.n 900))] Y1 (.n 900) rfl (IE (hl).symm) hn')) ?_
 rw[Jh]
 refine bx (WlI H a w m s l0 l1 o) ?_ ?_ _ _ _ ⟨[],l1,[],o,_,rfl,rfl,rfl,rfl,rfl,?_⟩
 ·rintro x rest ρ H' k zI hk;obtain ⟨d1,t1,d2,t2,x0,e1,e2,hd,hx,rfl,rfl⟩:=zI
  cases t2 with
  |nil=>cases hx
  |cons y t2 =>
   cases t1 with
   |nil=>exfalso;rw[e1,e2] at hl;simp at hl;exact oqz [d1.length,d2.length,t2.length] [] [(.eq Y0 Y1),(.eq Y0 (Y1+(Y2+1)))] .ff [1001] rfl hd hl
   |cons z t1 =>
    rw[ck] at hx
    cases hx
    have hwl:(wlz s m d1 d2).length=d2.length:=uq hd
    have hy:(o.map V.int)[d2.length]?=some (.int y):=by rw[e2,HF,Hw];have:=ai (d2.map V.int) (V.int y) (t2.map V.int);rwa [Hi] at this
    have hdl:d2.length<(o.map V.int).length:=by rw[e2];simp
    have el:((l0.map fun x=>x*s)++(wlz s m d1 d2++((z::t1).map fun x=>x*s))).map V.int=(((l0.map fun x=>x*s)++wlz s m d1 d2).map V.int)++V.int (z*s)::(t1.map fun x=>x*s).map V.int:=by simp
    have ep:(((l0.map fun x=>x*s)++wlz s m d1 d2).map V.int).length=l0.length+d2.length:=by rw[Hi,Hl,Hi,hwl]
    have ei:((l0.length:Nat):Int)+((d2.length:Nat):Int)=((l0.length+d2.length:Nat):Int):=oqz [l0.length,d2.length] [] [] (.ie (.a (.c Y0) (.c Y1)) (.c (Y0+Y1))) [1] rfl
    rw[el]
    dsimp only[lWl,qS1,qS2,qS5,qE5,qE8,aV,b9,d6,aa,cu,gX,ah,aE,jm]
    rw[ei]
    refine ix3 (v:=.int (z*s)) (ai _ _ _) (aL (k:=l0.length+d2.length) (by rw[Hl,ep];simp)) (by rw[<- ep];exact ai _ _ _) ?_
    refine ix3 (cr (af _ _) hw) (aL hdl) hy ⟨h2 y (by rw[e2];simp),?_⟩
    refine ⟨⟨Ht _,IQ _⟩,?_⟩
    refine ix2 (ai _ _ _) (aL (k:=l0.length+d2.length) (by rw[Hl,ep];simp)) ?_
    rw[cT,<- ep,cT]
    refine hk _ _ ⟨d1++[z],t1,d2++[y],t2,_,by rw[e1,Hv];rfl,by rw[e2,Hv];rfl,by simp[hd],by rw[Hl];rfl,rfl,?_⟩
    have ez:wlz s m (d1++[z]) (d2++[y])=wlz s m d1 d2++[z*s-m*y]:=by unfold wlz;rw[List.zipWith_append hd];rfl
    rw[ez];simp
 ·rintro ρ H' ⟨d1,t1,d2,t2,x0,e1,e2,hd,hx,rfl,rfl⟩
  cases t2 with
  |cons y t2=>rw[ck] at hx;cases hx
  |nil =>
   have ht:t1=[]:=by
    rw[e1,e2] at hl
    exact Io (by simp at hl;exact oqz [t1.length,d1.length,d2.length] [] [(.eq Y1 Y2),(.eq (Y1+Y0) Y2)] (.eq Y0 0) [1101] rfl hd hl)
   subst ht
   rw[List.append_nil] at e1 e2
   subst e1 e2
   dsimp only[aa,ah]
   rw[List.map_nil,List.append_nil]
   exact hQ
 ·show _=H++[((l0.map fun x=>x*s)++([]++(l1.map fun x=>x*s))).map V.int]
  rw[List.nil_append,<- HF,Ia];rfl
end
end Mine
namespace Mine
open PySem
theorem jE{H:Hp}{x:V}{xs:List V}(h:items H x=some xs):ba H x=some (!xs.isEmpty):=by
 cases x with
 |tup ys=>cases h;rfl
 |lst m=>show (H[m]?).map _=_;rw[show H[m]?=some xs from h];rfl
 |_=>cases h
theorem kY{xs:List Int}{n:Nat}(h:n<=xs.length):∃l0 l1,xs=l0++l1/\l1.length=n/\l0.length=xs.length-n:=
 ⟨xs.take (xs.length-n),xs.drop (xs.length-n),(List.take_append_drop _ _).symm,by rw[List.length_drop];exact oqz [xs.length-(xs.length-n),xs.length,xs.length-n,n] [] [(.le Y3 Y1),(osb Y1 Y3 Y2),(osb Y1 Y2 Y0)] (.eq Y0 Y3) [1010001,110001,1001011,101011,10001001,1000001,10000101] rfl h (am (xs.length) (n)) (am (xs.length) (xs.length-n)),by rw[Kk];exact oqz [min (xs.length-n) xs.length,xs.length-n,xs.length,n] [] [(.an (.le Y2 (Y1+Y3)) (.le Y1 Y2)),(.or (.an (.le Y1 Y2) (.eq Y0 Y1)) (.an (.le Y2 Y1) (.eq Y0 Y2)))] (.eq Y0 Y1) [100001,100101,10001,11001] rfl (aX (xs.length) (n)) (Mine.oh (xs.length-n) (xs.length))⟩
theorem oW{l0 l1:List Int}{a:Int}(h1:l1≠[])(h:(l0++l1).getLast?=some a):l1.getLast?=some a:=by
 rw[JT] at h
 cases e:l1.getLast? with
 |none=>exact absurd (List.getLast?_eq_none_iff.mp e) h1
 |some b=>rw[e] at h;exact h
theorem qw{D zs:List Int}{k:Nat}(h:D=zs++bO k)(hz:zs=[]\/Tr zs)(hl:D.getLast?=some 0):zs.length<D.length:=by
 cases k with
 |zero =>
  exfalso
  rw[show bO 0=[] from rfl,List.append_nil] at h
  subst h
  rcases hz with rfl | ⟨l,e,h0⟩
  ·cases hl
  ·rw[hl] at e;cases e;exact h0 rfl
 |succ k=>rw[h];simp[bO]
structure Rst (A B r:List Int):Prop where
 tr:r=[]\/Tr r
 len:r.length<B.length
 eq:∃ (c d:Int) (q:Int->Int),c≠0/\d≠0/\PF q/\∀t,c*ev A t=q t*ev B t+d*ev r t
theorem Bl{K k:Nat}{D zs:List Int}(h:D=zs++bO k)(hD:AllSm K D):AllSm K zs:=fun x hx=>hD x (by rw[h];exact JR _ hx)
structure Fct (G:List Int)(l:Int)(g:Nat):Prop where
 last:G.getLast?=some l
 pos:0<l
 one:bn G 0=1
 gs:∀xs,bn xs 0=1->bn (cn G xs) 0=1
 sm:AllSm g G
 len:G.length<=100
section
variable {sub:Nat->Nat->Bool}{H:Hp}
theorem md{Φ:Call}(g:Int)(ρ:Loc)(H':Hp)(Z:V->Hp->Prop)(hg:ah ρ 1=some (.int g))(hz:Z (.int (-g)) H'):wpE sub Φ ngQ ρ H' Z:=by
 dsimp only[ngQ,wpE]
 exact ifSome.mk hg hz
noncomputable def lY(H:Hp)(o:Option V):Nat:=match o with|some x=>(match items H x with|some xs=>xs.length|none=>0) |none=>0
theorem gW{H:Hp}{x:V}{xs:List V}(h:items H x=some xs):lY H (some x)=xs.length:=by
 show (match items H x with|some xs=>xs.length|none=>0)=_
 rw[h]
end
end Mine
namespace Mine
open PySem
noncomputable def Comb(A B x:List Int):Prop:=∃ (c:Int) (u v:Int->Int),c≠0/\PF u/\PF v/\∀t,c*ev x t=u t*ev A t+v t*ev B t
structure Gcd (A B g:List Int)(l:Int):Prop where
 last:g.getLast?=some l
 pos:0<l
 one:bn g 0=1
 d1:Dv (ev g) (ev A)
 d2:Dv (ev g) (ev B)
 cb:Comb A B g
theorem Comb.rest{A B A1 B1 r:List Int}(h1:Comb A B A1)(h2:Comb A B B1)(R:Rst A1 B1 r):Comb A B r:=by
 refine bH (h1) fun c1 u1 v1 hc1 pu1 pv1 e1=>?_
 refine bH (h2) fun c2 u2 v2 hc2 pu2 pv2 e2=>?_
 refine bH (R.eq) fun c d q hc hd pq e=>?_
 refine ⟨c1*c2*d,fun t=>c2*c*u1 t+-(c1*(q t*u2 t)),fun t=>c2*c*v1 t+-(c1*(q t*v2 t)),It (It hc1 hc2) hd,
  (pu1.smul (c2*c)).add ((pq.mul pu2).smul c1).neg,(pv1.smul (c2*c)).add ((pq.mul pv2).smul c1).neg,fun t=>?_⟩
 have:=e1 t;have:=e2 t;have:=e t;grind
theorem Rst.back{A B r:List Int}(R:Rst A B r){h:Int->Int}(h1:Dv h (ev B))(h2:Dv h (ev r)):Dv h (ev A):=by
 refine bH (R.eq) fun c d q hc hd pq e=>?_
 exact Dv.comb h1 h2 pq (.const d) hc fun t=>by rw[e t]
section
variable {sub:Nat->Nat->Bool}{P:List Fn}{n:Nat}{H:Hp}{Q:V->Hp->Prop}{X:Nat->Hp->Prop}
theorem fw{i:Int}(h:0<=i/\i<=1000000):Sm 64 i:=by
 have e:(2:Nat)^64=18446744073709551616:=by decide
 unfold Sm;exact oqz [i.natAbs] [i] [(.an (.il 0 Y0) (.il Y0 1000000)),(ona Y0 Y0)] (.le (Y0+1) 18446744073709551616) [10101,10011] rfl h (bm (i))
theorem y9{k:Nat}:∀ (r:List Int) (g:Nat->Int),(∀i,i<r.length->g (k+i)=r.getD i 0)->((List.range' k r.length).map fun (i:Nat)=>V.int ((i:Int)*g i))=(sl (k:Int) r).map V.int
 | [],_,_=>rfl
 |x::r,g,h=>by
  rw[ck]
  show V.int ((k:Int)*g k)::_=V.int ((k:Int)*x)::_
  have h0:=h 0 (by simp)
  rw[Nat.add_zero] at h0
  rw[h0]
  have:=@y9 (k+1) r g (fun i hi=>by
   have:=h (i+1) (by simp;exact hi)
   rw[show k+(i+1)=k+1+i by exact oqz [k,i] [] [] (.eq (Y0+(Y1+1)) (Y0+1+Y1)) [1] rfl] at this
   rw[this];rfl)
  rw[this]
  rfl
theorem Bs(zT:TT P){a:Nat}{c:Int}{r:List Int}(ha:H[a]?=some ((c::r).map .int))(hl:r.length<=900)(hQ:Q (.lst H.length) (H++[(sl 1 r).map .int])):ag sub P (n+1) 9 [.lst a] H Q X:=by
 refine aj zT.a9 rfl ?_
 dsimp only[so,qS1,qS2,qS9,qE1,qE5,qE8,bV,aV,ij,aC,aD,qO1,qI3,cS,cq,aB,az,aw,av,aA,au,bw,aa,ah,Nat.reduceSub]
 refine ifSome.mk ha ?_
 rw[Hi,List.length_cons]
 refine yk (aH (by decide) (by decide)) (aH (by exact oqz [r.length] [] [] (.il (.g 1000000) (.c (Y0+1))) [1] rfl) (by exact oqz [r.length] [] [(.le Y0 900)] (.il (.c (Y0+1)) 1000000) [11] rfl hl)) ⟨by rw[Hi,IS];unfold lim;exact oqz [((↑(r.length+1):Int)-1).toNat,r.length] [] [(.le Y1 900),(otn (.s (.c (Y1+1)) 1) Y0)] (.le Y0 1000000) [1011] rfl hl (aR ((↑(r.length+1):Int)-1)),?_⟩
 rw[show (((r.length+1:Nat):Int)-1).toNat=r.length by exact oqz [((↑(r.length+1):Int)-1).toNat,r.length] [] [(otn (.s (.c (Y1+1)) 1) Y0)] (.eq Y0 Y1) [1001,11,101] rfl (aR ((↑(r.length+1):Int)-1))]
 refine gi (g:=fun (i:Nat)=>V.int ((1+(i:Int))*r.getD i 0)) (fun i hi k' hk'=>?_) ?_
 ·have hi':i<r.length:=by have:=(List.mem_range'_1.mp hi).2;exact oqz [i,r.length] [] [(.le (Y0+1) (0+Y1))] (.le (Y0+1) Y1) [11] rfl this
  show ifSome (H[a]?) fun xs=>ifSome (cf xs.length (1+(i:Int))) fun j=>ifSome xs[j]? fun v=>_
  refine ifSome.mk ha (ifSome.mk (v:=i+1) ?_ (ifSome.mk (v:=.int (r.getD i 0)) ?_ ⟨IntMulOk.left (fw (by exact oqz [i,r.length] [] [(.le Y1 900),(.le (Y0+1) Y1)] (.an (.il 0 (.a 1 (.c Y0))) (.il (.a 1 (.c Y0)) 1000000)) [1,111] rfl hl hi')),hk'⟩))
  ·rw[Hi,List.length_cons,show 1+(i:Int)=((i+1:Nat):Int) by exact oqz [i] [] [] (.ie (.a 1 (.c Y0)) (.c (Y0+1))) [1] rfl];exact aL (by exact lin [i,r.length] [(1,(.a Y0 (.n 1)),Y1)] (.a (.a Y0 (.n 1)) (.n 1)) (.a Y1 (.n 1)) rfl hi')
  ·rw[Hw,List.getElem?_cons_succ,HL,Hx hi',HB,Hx hi'];rfl
 ·have h1:=@y9 1 r (fun i=>r.getD (i-1) 0) (fun i _=>by show r.getD (1+i-1) 0=_;rw[IB])
  have h2:((List.range' 0 r.length).map fun (i:Nat)=>V.int ((1+(i:Int))*r.getD i 0))=(sl 1 r).map V.int:=by
   rw[show (sl 1 r)=sl ((1:Nat):Int) r from rfl,<- h1]
   apply List.ext_getElem
   ·simp
   ·intro j h3 h4
    simp
  rw[h2];exact hQ
theorem AY{β:Type}{H K:List β}{x y:β}{a:Nat}{z:β}(h:a≠H.length+1)(e:(H++x::y::K)[a]?=some z)(y':β):(H++x::y'::K)[a]?=some z:=by
 rcases Nat.lt_trichotomy a (H.length+1) with h1|h1|h1
 ·rw[List.getElem?_append,show (x::y'::K)=[x]++y'::K from rfl] at *
  by_cases h2:a<H.length
  ·rw[if_pos h2] at e ⊢;exact e
  ·rw[if_neg h2] at e ⊢
   obtain rfl:a=H.length:=oqz [a,H.length] [] [(.le (Y0+1) (Y1+1)),(.no (.le (Y0+1) Y1))] (.eq Y0 Y1) [101,11] rfl h1 h2
   rw[Kf] at e ⊢;exact e
 ·exact absurd h1 h
 ·rw[HN (by exact lin [H.length,a] [(1,(.a (.a Y0 (.n 1)) (.n 1)),Y1)] Y0 Y1 rfl h1)] at e ⊢
  obtain ⟨j,hj⟩:∃j,a-H.length=j+2:=⟨a-H.length-2,by exact oqz [a-H.length,a,H.length,a-H.length-2] [] [(.le (Y2+1+1) Y1),(.an (.le Y1 (Y0+Y2)) (.le Y0 Y1)),(osb Y0 2 Y3)] (.eq Y0 (Y3+2)) [1000001,100111,100001,10001] rfl h1 (aX (a) (H.length)) (am (a-H.length) (2))⟩
  rw[hj] at e ⊢;exact e
theorem qq1(n:Nat):n≠n+1:=Jm (IA n)
theorem qq2{a b:Nat}(h:a+1=b+0):¬ ((b:Nat):Int)<=((a:Nat):Int):=oqz [b,a] [] [(.eq (Y1+1) (Y0+0))] (.no (.il (.c Y0) (.c Y1))) [11] rfl h
theorem qq3{a b c:Nat}(h:a+1=b+(c+1)):((b:Nat):Int)<=((a:Nat):Int):=oqz [b,a,c] [] [(.eq (Y1+1) (Y0+(Y2+1)))] (.il (.c Y0) (.c Y1)) [101] rfl h
theorem qq5{a b:Nat}(h:1<=b)(g:((b:Nat):Int)<=((a:Nat):Int)):1<=a:=oqz [a,b] [] [(.le 1 Y1),(.il (.c Y1) (.c Y0))] (.le 1 Y0) [111] rfl h g
theorem qq6{A y b G h:Nat}(h1:G<=h)(h2:y+1=b+G)(h3:A+1=b+h)(h4:A<=800):y<=900:=by exact lin [G,h,y,b,A] [(1,Y0,Y1),(1,(.a Y2 (.n 1)),(.a Y3 Y0)),(1,(.a Y3 Y1),(.a Y4 (.n 1))),(1,Y4,(.n 800))] Y2 (.n 900) rfl h1 (IE h2) (IE (h3).symm) h4
theorem qq9{a b:Nat}(h:a+2<=b):b≠a+1/\a<=b:=oqz [b,a] [] [(.le (Y1+2) Y0)] (.an (.no (.eq Y0 (Y1+1))) (.le Y1 Y0)) [101,11] rfl h
theorem G1{d y b c:Nat}(h:d+1=y)(g:y+1=b+(c+1)):d+1=b+c:=oqz [d,b,c,y] [] [(.eq (Y0+1) Y3),(.eq (Y3+1) (Y1+(Y2+1)))] (.eq (Y0+1) (Y1+Y2)) [10101,1011] rfl h g
inductive QuI (H:Hp) (v w:V) (B h:List Int) (ρ:Loc) (H':Hp):Prop
 |mk (a:Nat) (ys h1 h2:List Int) (x:List V) (KK:Hp) (o:Option V) (c0:ρ=[some v,some w,some (.lst a),some (.lst (H.length+1)),o]) (c1:H'=H++x::(h2.reverse.map V.int)::KK) (c2:a≠H.length+1) (c3:H.length<=a) (c4:H'[a]?=some (ys.map .int)) (c5:h=h1++h2) (c6:(∀t,ev ys t=ev B t*ev h1 t)) (c7:ys.length+1=B.length+h1.length)
theorem CL(zT:TT P){v w:V}{A B h:List Int}{lb:Int}{K L:Nat}(hv:items H v=some (A.map .int))(hw:items H w=some (B.map .int))(hlb:B.getLast?=some lb)(h0:lb≠0)
  (eq:∀t,ev A t=ev B t*ev h t) (hlen:A.length+1=B.length+h.length) (hA:A.length<=800) (sB:AllSm K B) (sh:AllSm L h) (hKL:L+K<=134217728)
  (hQ:∀H' k,H<+:H'->H'[k]?=some (h.map .int)->Q (.lst k) H'):ag sub P (n+2) 13 [v,w] H Q X:=by
 have hB1:1<=B.length:=by cases B with|nil=>cases hlb|cons _ _=>simp
 have hBne:B≠[]:=by intro h;rw[h] at hB1;simp at hB1
 refine aj zT.a13 rfl ?_
 dsimp only[yg,qS1,qS2,qS3,qS8,qS9,lr,qE5,bV,g7,aC,aD,i8,aB,az,aw,av,aM,aA,au,aa,ah,aE,Nat.reduceSub]
 refine ifSome.mk hv ?_
 have eH:H++[A.map V.int]++[([]:List V)]=H++(A.map V.int)::([]:List V)::[]:=by rw[Hv];rfl
 have eL:(H++[A.map V.int]).length=H.length+1:=by simp
 rw[eH,eL]
 refine ⟨QuI H v w B h,fun ρ H'=>lY H' (ah ρ 2),⟨H.length,A,h,[],_,[],none,rfl,rfl,by exact qq1 _,Ht _,ai _ _ _,(List.append_nil _).symm,eq,hlen⟩,?_⟩
 rintro ρ H' ⟨a,ys,h1,h2,x,KK,o,rfl,rfl,ha1,ha2,ha,hh,hev,hyl⟩
 have hw':∀ (z y:List V) (KK:Hp),items (H++z::y::KK) w=some (B.map .int):=fun z y KK=>cr (af _ _) hw
 dsimp only[tR,qE5,br,bV,aC,aD,l9,aU,d6,aa,ah,xR]
 refine ifSome.mk ha (ifSome.mk (hw' _ _ _) ?_)
 rw[Hi,Hi]
 rcases JO h1 with rfl | ⟨g1,hl,rfl⟩
 ·have hlt:¬ ((B.length:Nat):Int)<=((ys.length:Nat):Int):=by rw[List.length_nil] at hyl;exact qq2 hyl
  rw[decide_eq_false hlt]
  dsimp only[bK]
  refine ⟨IZ _,ifSome.mk (dK _ _ _ _) ?_⟩
  show Q (V.lst (H.length+1)) ((H++x::(h2.reverse.map V.int)::KK).set (H.length+1) (h2.reverse.map V.int).reverse)
  rw[gG]
  refine hQ _ _ (af _ _) ?_
  rw[dK,<- List.map_reverse,List.reverse_reverse,hh];rfl
 ·rw[JP] at hh hev hyl
  have hge:((B.length:Nat):Int)<=((ys.length:Nat):Int):=by rw[Hl,HE] at hyl;exact qq3 hyl
  rw[decide_eq_true hge]
  have hg1:(g1++[hl]).getLast?=some hl:=by simp
  have hys:ys=cn B (g1++[hl]):=oX (by have:=eY hBne (show g1++[hl]≠[] by simp);exact oqz [ys.length,(cn B (g1++[hl])).length,B.length,(g1++[hl]).length] [] [(.eq (Y0+1) (Y2+Y3)),(.eq (Y1+1) (Y2+Y3))] (.eq Y0 Y1) [1101,10011] rfl hyl this) fun t=>by
   show ev ys t=ev _ t
   rw[c8,hev]
  have hyla:ys.getLast?=some (lb*hl):=by rw[hys];exact jn hlb hg1
  have hyl1:1<=(ys.map V.int).length:=by rw[Hi];exact qq5 hB1 hge
  have hyle:ys.length<=900:=by
   have:(g1++[hl]).length<=h.length:=by rw[hh];simp
   exact qq6 this hyl hlen hA
  refine ay (kY (xs:=ys) (n:=B.length) (by exact IO.mp hge)) fun l0 l1 hsp hn1 hn2=>?_
  have shl:Sm L hl:=sh hl (by rw[hh];simp)
  have hl1:l1≠[]:=by intro h;rw[h] at hn1;rw[<- hn1] at hB1;exact absurd hB1 (by decide)
  dsimp only[B7,qS1,qS2,qS3,qS6,qS7,qE1,qE5,qE8,qE9,aS,aV,aC,aD,d6,bw,aa,cu,ah,aE,jm]
  refine ix3 (v:=.int (lb*hl)) ha (dq hyl1) ?_ ?_
  ·rw[Hi,HL,<- IP,hyla];rfl
  refine ix3 (v:=.int lb) (hw' _ _ _) (dq (by rw[Hi];exact hB1)) ?_ ?_
  ·rw[Hi,HL,<- IP,hlb];rfl
  refine ⟨h0,?_⟩
  rw[show (lb*hl).fdiv lb=hl from Int.mul_fdiv_cancel_left hl h0]
  refine ⟨IZ _,ifSome.mk (dK _ _ _ _) ⟨?_,?_⟩⟩
  ·rw[Hi,Ih]
   have:h2.length<=h.length:=by rw[hh,Hl];exact Jw _ _
   unfold lim;exact oqz [h2.length,A.length,B.length,h.length] [] [(.eq (Y1+1) (Y2+Y3)),(.le Y1 800),(.le Y0 Y3)] (.le (Y0+1) 1000000) [11101] rfl hlen hA this
  rw[gG]
  have ha':=AY ha1 ha (h2.reverse.map V.int++[V.int hl])
  rw[hsp] at ha'
  refine Fk zT ha' (hw' _ _ _) hn1 (by rw[<- hsp];exact hyle) (fun x _=>IntMulOk.right (show Sm 64 1 by unfold Sm;decide)) (fun y hy=>IntMulOk.sum shl (sB y hy) hKL) ?_
  have eD:=fun t=>qV (s:=1) (m:=hl) (l0:=l0) hn1 t
  have lD:(wlo 1 hl l0 l1 B).getLast?=some 0:=by
   have:=iI (s:=1) (m:=hl) hn1 (oW hl1 (by rw[<- hsp];exact hyla)) hlb
   rw[wlo,JT,this,show lb*hl*1-hl*lb=0 by grind];rfl
  have nD:(wlo 1 hl l0 l1 B).length=ys.length:=by rw[j7 hn1,hsp,Hl,hn1]
  revert eD lD nD
  generalize wlo 1 hl l0 l1 B=D
  intro eD lD nD
  obtain ⟨D0,rfl⟩:=List.getLast?_eq_some_iff.mp lD
  generalize hH1:(H++x::(h2.reverse.map V.int++[V.int hl])::KK)=H1
  have hle1:H.length+2<=H1.length:=by rw[<- hH1];simp
  refine ⟨(qq9 hle1).2,ifSome.mk (ai _ _ _) ⟨D0.map V.int,0,by rw[HF];rfl,?_⟩⟩
  rw[cT]
  have hl0:l0.length=g1.length:=by rw[hn2];rw[Hl,HE] at hyl;exact oqz [ys.length-B.length,ys.length,B.length,g1.length] [] [(.eq (Y1+1) (Y2+(Y3+1))),(osb Y1 Y2 Y0)] (.eq Y0 Y3) [10101,1101,100011,10001] rfl hyl (am (ys.length) (B.length))
  refine ⟨⟨H1.length,D0,g1,hl::h2,x,KK++[D0.map V.int],_,rfl,?_,by exact (qq9 hle1).1,by exact (qq9 hle1).2,ai _ _ _,by rw[hh,Hv];rfl,fun t=>?_,?_⟩,?_⟩
  ·rw[<- hH1,Hv,Jz,HF];rfl
  ·have h4:=eD t
   rw[lO,<- hsp,hev t,fu,ev1,hl0] at h4
   rw[h4];grind
  ·rw[Hl,HE] at nD hyl;exact G1 nD hyl
  ·show lY _ (some (V.lst _))<lY _ (some (V.lst a))
   rw[gW (x:=.lst _) (ai _ _ _),gW (x:=.lst a) ha,Hi,Hi]
   rw[Hl,HE] at nD;exact Nat.lt_of_succ_le (IE nD)
end
end Mine
namespace Mine
open Re
theorem oP(t:Re):∀ {xs:List Int},(∀x∈xs,x=0)->evR xs t=0
 | [],_=>rfl
 |x::xs,h=>by rw[aO,h x (.head _),ax,oP t fun y hy=>h y (.tail _ hy)];grind
theorem jV{xs ys:List Int}(h:∀t,ev xs t=ev ys t)(s:Re):evR xs s=evR ys s:=by
 have z:=eu (xs:=eZ xs (smul (-1) ys)) fun t _=>by
  show ev _ t=0
  rw[e5,bU,h];exact oqz [] [ev ys t,-1*ev ys t] [(.ie Y1 (.g (.m 1 Y0)))] (.ie (Y0+Y1) 0) [101,11] rfl (Iy 1 (ev ys t))
 have e:=oP s z
 rw[gz,bX] at e
 have m:((-1:Int):Re)=-1:=rfl
 rw[m] at e;grind
theorem zH{G A:List Int}(h:Dv (ev G) (ev A)):∃ (c:Int) (K:List Int),c≠0/\∀s,(c:Re)*evR A s=evR G s*evR K s:=by
 obtain ⟨c,k,hc,⟨K,hK⟩,e⟩:=h
 refine ⟨c,K,hc,fun s=>?_⟩
 have:=jV (xs:=smul c A) (ys:=cn G K) (fun t=>by rw[bU,c8,e,hK]) s
 rwa [bX,fy] at this
theorem vO{A B x:List Int}(h:Comb A B x):∃ (c:Int) (U W:List Int),c≠0/\∀s,(c:Re)*evR x s=evR U s*evR A s+evR W s*evR B s:=by
 obtain ⟨c,u,v,hc,⟨U,hU⟩,⟨W,hW⟩,e⟩:=h
 refine ⟨c,U,W,hc,fun s=>?_⟩
 have:=jV (xs:=smul c x) (ys:=eZ (cn U A) (cn W B)) (fun t=>by rw[bU,e5,c8,c8,e,hU,hW]) s
 rwa [bX,gz,fy,fy] at this
noncomputable def PR:Nat->(Re->Re)->Prop
 |0,f=>∀t,f t=0
 |n+1,f=>∃c g,PR n g/\∀t,f t=c+t*g t
theorem PR.lin:∀ {n:Nat}{f g:Re->Re} (r:Re),PR n f->PR n g->PR n fun t=>f t+r*g t
 |0,f,g,r,hf,hg=>fun t=>by show f t+r*g t=0;rw[hf t,hg t];grind
 |n+1,f,g,r,⟨c,f1,hf,ef⟩,⟨d,g1,hg,eg⟩=>⟨c+r*d,_,PR.lin r hf hg,fun t=>by show f t+r*g t=_;rw[ef,eg];grind⟩
theorem PR.up:∀ {n:Nat}{f:Re->Re},PR n f->PR (n+1) f
 |0,f,h=>⟨0,f,h,fun t=>by rw[h t];grind⟩
 |n+1,f,⟨c,g,hg,e⟩=>⟨c,g,hg.up,e⟩
theorem PR.fac:∀ {n:Nat}{f:Re->Re} (r:Re),PR (n+1) f->∃g,PR n g/\∀t,f t=f r+(t-r)*g t
 |0,f,r,⟨c,g,hg,e⟩=>⟨fun _=>0,fun _=>rfl,fun t=>by rw[e,e r,hg t,hg r];grind⟩
 |n+1,f,r,⟨c,g,hg,e⟩=>by
  refine ac (PR.fac r hg) fun h hh eh=>?_
  refine ⟨_,PR.lin r hg hh.up,fun t=>?_⟩
  show f t=f r+(t-r)*(g t+r*h t)
  rw[e,e r,eh t];grind
theorem tL:∀xs:List Int,PR xs.length (evR xs)
 | []=>fun _=>rfl
 |c::xs=>⟨(c:Re),evR xs,tL xs,fun _=>rfl⟩
noncomputable def mn:List Re->Re->Re
 | [],_=>1
 |r::rs,t=>(t-r)*mn rs t
theorem qt(r:Re)(rs:List Re)(t:Re):mn (r::rs) t=(t-r)*mn rs t:=rfl
theorem yB(t:Re):mn [] t=1:=rfl
noncomputable def Out(lo hi r:Re):Prop:=r<lo\/hi<r
theorem jd:(1:Re)≠0:=by have:=Im (R:=Re);grind
theorem du{x y:Re}(h:x≠0)(g:y≠0):x*y≠0:=fun e=>g (bE e h)
theorem Ei{lo hi r:Re}(h:Out lo hi r):∃σ:Int,(σ=1\/σ=-1)/\∀t,lo<=t->t<=hi->rsg (t-r)=σ:=by
 rcases h with h|h
 ·exact ⟨1,.inl rfl,fun t h1 _=>aG (by exact g8 (rT (h) (h1)))⟩
 ·exact ⟨-1,.inr rfl,fun t _ h2=>aK (by exact zY (qf (h2) (h)))⟩
theorem yn{a b:Int}(h:a=1\/a=-1)(g:b=1\/b=-1):a*b=1\/a*b=-1:=by
 rcases h with rfl|rfl <;> rcases g with rfl|rfl <;> decide
theorem qc{lo hi:Re}:∀ {rs:List Re},(∀r∈rs,Out lo hi r)->∃σ:Int,(σ=1\/σ=-1)/\∀t,lo<=t->t<=hi->rsg (mn rs t)=σ
 | [],_=>⟨1,.inl rfl,fun _ _ _=>aG Im⟩
 |r::rs,h=>by
  refine ac (Ei (h r (.head _))) fun a ha ea=>?_
  refine ac (qc fun x hx=>h x (.tail _ hx)) fun b hb eb=>?_
  exact ⟨a*b,yn ha hb,fun t h1 h2=>by rw[qt,cz,ea t h1 h2,eb t h1 h2]⟩
theorem x5{x:Re}(h:x≠0):rsg x=1\/rsg x=-1:=by
 rcases aN x with g|g|g
 ·exact .inl (aG g)
 ·exact .inr (aK g)
 ·exact absurd g h
theorem fv{c:Int}(hc:c≠0):(c:Re)≠0:=fun h=>by
 have e:=g6 c
 rw[h,aQ] at e
 unfold sg at e
 rcases Int.lt_or_lt_of_ne hc with g|g
 ·rw[if_pos g] at e;exact absurd e (by decide)
 ·rw[if_neg (by exact oqz [] [c] [(.il (0+1) Y0)] (.no (.il (Y0+1) 0)) [11] rfl g),if_pos g] at e;exact absurd e (by decide)
structure RP (row:List Int)(lo hi al:Re):Prop where
 l:lo<al
 u:al<hi
 fa:∃ (c:Re) (rs:List Re),c≠0/\row.length=rs.length+2/\rs.Pairwise (·≠·)/\(∀r∈rs,Out lo hi r)/\∀t,evR row t=c*((t-al)*mn rs t)
theorem RP.sign{row:List Int}{lo hi al:Re}(h:RP row lo hi al):∃σ:Int,(σ=1\/σ=-1)/\∀t,lo<=t->t<=hi->rsg (evR row t)=σ*rsg (t-al):=by
 refine dy (h.fa) fun c rs k1 k2 k3 k4 k5=>?_
 refine ac (qc k4) fun a ha ea=>?_
 refine ⟨rsg c*a,yn (x5 k1) ha,fun t h1 h2=>?_⟩
 rw[k5,cz,cz,ea t h1 h2,II,Ir a]
end Mine
namespace Mine
noncomputable def evQ:List Int->Rat->Rat
 | [],_=>0
 |c::r,t=>(c:Rat)+t*evQ r t
theorem sj:∀ {r:List Int}{l:Int},0<l->NN r->tv l r=0
 | [],_,_,_=>rfl
 |x::r,l,hl,h=>by
  rw[lG,if_neg (JG.mpr (Int.mul_nonneg (HZ hl) h.hd)),IK]
  by_cases h0:x=0
  ·rw[if_pos h0];exact sj hl h.tl
  ·rw[if_neg h0];exact sj (by have:=h.hd;exact oqz [] [x] [(.il 0 Y0),(.no (.ie Y0 0))] (.il (0+1) Y0) [110,101] rfl this h0) h.tl
theorem lU:∀ {r:List Int}{l z:Int},l<0->Up r->r.getLast?=some z->0<z->tv l r=1
 | [],_,_,_,_,h,_=>by cases h
 |x::r,l,z,hl,u,h,hz=>by
  rw[lG]
  by_cases h0:0<x
  ·rw[if_pos (Int.mul_neg_of_neg_of_pos hl h0),if_neg (by exact oqz [] [x] [(.il (0+1) Y0)] (.no (.ie Y0 0)) [101] rfl h0),sj h0 (u.hd h0)];rfl
  ·have hr:r.getLast?=some z:=by
    cases r with
    |nil=>rw[List.getLast?_singleton] at h;cases h;omega
    |cons y t=>rw[IC] at h;exact h
   by_cases hx:x=0
   ·rw[if_pos hx,hx,HS,if_neg (by decide),IK];exact lU hl u.tl hr hz
   ·have hn:x<0:=oqz [] [x] [(.no (.il (0+1) Y0)),(.no (.ie Y0 0))] (.il (Y0+1) 0) [101,110] rfl h0 hx
    rw[if_neg hx,if_neg (JG.mpr (Int.mul_nonneg_of_nonpos_of_nonpos (HZ hl) (HZ hn))),IK]
    exact lU hn u.tl hr hz
structure UP (row:List Int)(p1 q1 p2 q2:Int):Prop where
 b1:0<q1
 b2:0<q2
 lt:p1*q2<p2*q1
 lo:bh p1 q1 row<0
 hi:0<bh p2 q2 row
 up:Up (hs (p1*q2) (p2*q1) (q1*q2) row)
end Mine
namespace Mine
open PySem
theorem xg{p q a d:Int}(h1:p.gcd q=1)(hq:0<q)(hd:0<d)(e:p*d=a*q):∃g:Int,0<g/\d=q*g/\a=p*g:=by
 have hdv:q ∣ p*d:=⟨a,by rw[e,Ir]⟩
 have h2:q ∣ d:=by
  have:=Int.dvd_gcd_mul_iff_dvd_mul.mpr hdv
  rw[Int.gcd_comm,h1] at this
  rw[show d=((1:Nat):Int)*d from (Ip d).symm];exact this
 obtain ⟨g,rfl⟩:=h2
 refine ⟨g,Int.pos_of_mul_pos_right hd hq,rfl,?_⟩
 have e2:q*a=q*(p*g):=by grind
 exact I5 (Ho hq) e2
theorem Sm.of_le{k:Nat}{x y:Int}(h:Sm k y)(hx:x.natAbs<=y.natAbs):Sm k x:=HT hx h
theorem sX{k:Nat}{p q a d:Int}(h1:p.gcd q=1)(hq:0<q)(hd:0<d)(e:p*d=a*q)(sa:Sm k a)(sd:Sm k d):Low k p q:=by
 refine cw (xg h1 hq hd e) fun g hg zq111 zq112=>?_;subst zq111;subst zq112
 have hg1:1<=g.natAbs:=oqz [g.natAbs] [g] [(.il (0+1) Y0),(.an (.il Y0 (.c Y0)) (.il (.g Y0) (.c Y0)))] (.le 1 Y0) [111] rfl hg (bo (g))
 refine ⟨sa.of_le ?_,sd.of_le ?_,hq,h1⟩
 ·rw[HV];exact Ie _ hg1
 ·rw[HV];exact Ie _ hg1
theorem Low.mono{k l:Nat}{p q:Int}(h:Low k p q)(hl:k<=l):Low l p q:=⟨h.top.mono hl,h.bot.mono hl,h.pos,h.one⟩
theorem Low.neg{k:Nat}{p q:Int}(h:Low k p q):Low k (-p) q:=⟨h.top.neg,h.bot,h.pos,by rw[Int.neg_gcd];exact h.one⟩
section
variable {sub:Nat->Nat->Bool}{P:List Fn}{n:Nat}{H:Hp}{Q:V->Hp->Prop}{X:Nat->Hp->Prop}
theorem uk{a b:Int}(hb:0<b)(hs:Sm 60000000 b):iK ((a.gcd b:Nat):Int):=by
 have h0:0<a.gcd b:=JF a (Ho hb)
 have hle:a.gcd b<=b.natAbs:=Ko (Je.mpr (Ho hb)) (IN.mpr (Kc a b))
 exact Int.natCast_ne_zero.mpr (Nat.ne_of_gt h0)
theorem xx(zT:TT P){a b:Int}{k:Nat}(hb:0<b)(ha:Sm k a)(hs:Sm k b)(hk:k<=60000000)(hQ:∀p q:Int,Low k p q->p*b=a*q->Q (.tup [.int p,.int q]) H):ag sub P (n+2) 1 [.int a,.int b] H Q X:=by
 refine aj zT.a1 rfl ?_
 dsimp only[n4,qS1,qS2,qS3,qS9,bC,vl,qE1,qE5,qE8,qE9,br,aS,dW,aC,aD,nW,fJ,fA,aU,aB,az,aw,av,aM,aA,au,aa,ah,aE,Nat.reduceSub]
 rw[decide_eq_false (Ho hb)]
 dsimp only[bK]
 refine fS zT ?_
 have ok:=uk (a:=a) hb (hs.mono hk)
 rw[decide_eq_false (JG.mpr (HZ hb))]
 have e1:=Iz (Int.gcd_dvd_left a b)
 have e2:=Iz (Kc a b)
 refine ⟨ok,ok,hQ _ _ (qW ha hs hb e1 e2) ?_⟩
 generalize a.fdiv ((a.gcd b:Nat):Int)=p at *
 generalize b.fdiv ((a.gcd b:Nat):Int)=q at *
 generalize ((a.gcd b:Nat):Int)=g at *
 subst e1 e2;grind
theorem zW(zT:TT P){a b:Int}{k:Nat}(hb:0<b)(ha:Sm k a)(hs:Sm k b)(hk:k<=60000000)(hQ:∀p q:Int,Low k p q->p*b=a*q->Q (.tup [.int p,.int q]) H):ag sub P (n+2) 37 [.int a,.int b] H Q X:=by
 refine aj zT.a37 rfl ?_
 dsimp only[uB,qS1,qS2,qS3,qS9,bC,qE1,qE5,qE8,br,aS,dW,aC,aD,fJ,aU,aB,az,aw,av,aM,aA,au,aa,ah,aE,Nat.reduceSub]
 refine uQ zT ?_
 have ok:=uk (a:=a) hb (hs.mono hk)
 rw[decide_eq_false (JG.mpr (HZ hb))]
 have e1:=Iz (Int.gcd_dvd_left a b)
 have e2:=Iz (Kc a b)
 refine ⟨ok,ok,hQ _ _ (qW ha hs hb e1 e2) ?_⟩
 generalize a.fdiv ((a.gcd b:Nat):Int)=p at *
 generalize b.fdiv ((a.gcd b:Nat):Int)=q at *
 generalize ((a.gcd b:Nat):Int)=g at *
 subst e1 e2;grind
theorem oJ(zT:TT P){p1 q1 p2 q2:Int}{k l:Nat}(a1:Low k p1 q1)(a2:Low l p2 q2)(hk:k+l+1<=60000000)
  (hQ:∀p q:Int,Low (k+l+1) p q->p*(q1*q2)=(p1*q2+p2*q1)*q->Q (.tup [.int p,.int q]) H):ag sub P (n+3) 3 [.tup [.int p1,.int q1],.tup [.int p2,.int q2]] H Q X:=by
 refine aj zT.a3 rfl ?_
 dsimp only[v5,qS1,qS2,qS9,qE1,qE5,qE8,aS,aV,aC,aD,b9,cD,bu,bT,aB,az,aw,av,aA,au,aa,ah,Nat.reduceSub]
 have hk1:k<=67108864:=oqz [k,l] [] [(.le (Y0+Y1+1) 60000000)] (.le Y0 67108864) [11] rfl hk
 have hl1:l<=67108864:=oqz [l,k] [] [(.le (Y1+Y0+1) 60000000)] (.le Y0 67108864) [11] rfl hk
 refine ⟨IntMulOk.sm a1.top a2.bot hk1 hl1,IntMulOk.sm a2.top a1.bot hl1 hk1,IntMulOk.sm a1.bot a2.bot hk1 hl1,?_⟩
 exact xx zT (HG a1.pos a2.pos) ((a1.top.mul a2.bot).add ((a2.top.mul a1.bot).mono (by exact oqz [l,k] [] [] (.le (Y0+Y1) (Y1+Y0)) [1] rfl))) ((a1.bot.mul a2.bot).mono (by exact oqz [k,l] [] [] (.le (Y0+Y1) (Y0+Y1+1)) [1] rfl)) hk hQ
theorem pj(zT:TT P){p1 q1 p2 q2:Int}{k l:Nat}(t1:Sm k p1)(b1:Sm k q1)(c1:0<q1)(t2:Sm l p2)(b2:Sm l q2)(c2:0<q2)(hk:k+l<=60000000)
  (hQ:∀p q:Int,Low (k+l) p q->p*(q1*q2)=(p1*p2)*q->Q (.tup [.int p,.int q]) H):ag sub P (n+3) 4 [.tup [.int p1,.int q1],.tup [.int p2,.int q2]] H Q X:=by
 refine aj zT.a4 rfl ?_
 dsimp only[rO,qS1,qS2,qS9,qE1,qE5,qE8,aS,aV,aC,aD,cD,bu,bT,aB,az,aw,av,aA,au,aa,ah,Nat.reduceSub]
 have hk1:k<=67108864:=oqz [k,l] [] [(.le (Y0+Y1) 60000000)] (.le Y0 67108864) [11] rfl hk
 have hl1:l<=67108864:=oqz [l,k] [] [(.le (Y1+Y0) 60000000)] (.le Y0 67108864) [11] rfl hk
 refine ⟨IntMulOk.sm t1 t2 hk1 hl1,IntMulOk.sm b1 b2 hk1 hl1,?_⟩
 exact xx zT (HG c1 c2) (t1.mul t2) (b1.mul b2) hk hQ
theorem uY(zT:TT P){p q:Int}(hQ:Q (.tup [.int (-p),.int q]) H):ag sub P (n+1) 5 [.tup [.int p,.int q]] H Q X:=aj zT.a5 rfl hQ
end
end Mine
namespace Mine
open Re
theorem nx{x y:Int}(h:(x:Re)<(y:Re)):x<y:=IT.mp fun g=>by have:=aZ g;grind
theorem ik{x y:Int}(h:(x:Re)<=(y:Re)):x<=y:=JG.mp fun g=>by have:=jy g;grind
theorem ft{x y:Int}(h:(x:Re)=(y:Re)):x=y:=by
 have h1:(x:Re)<=(y:Re):=by grind
 have h2:(y:Re)<=(x:Re):=by grind
 have zt1:=ik h1;have zt2:=ik h2;exact oqz [] [x,y] [(.il Y0 Y1),(.il Y1 Y0)] (.ie Y0 Y1) [101,11] rfl zt1 zt2
theorem ig{a x y:Re}(ha:a≠0)(h:a*x=a*y):x=y:=by
 have:=bE (show a*(x-y)=0 by grind) ha
 grind
theorem ci{q:Int}(h:0<q):(q:Re)≠0:=fv (Ho h)
theorem ou{p1 q1 p2 q2:Int}{x y:Re}(h1:0<q1)(h2:0<q2)(e1:(q1:Re)*x=p1)(e2:(q2:Re)*y=p2):p1*q2<p2*q1 ↔ x<y:=by
 have hq:(0:Re)<(q1:Re)*q2:=mul_pos (aP h1) (aP h2)
 have i1:((p1*q2:Int):Re)=(q1:Re)*q2*x:=by rw[aq,<- e1];grind
 have i2:((p2*q1:Int):Re)=(q1:Re)*q2*y:=by rw[aq,<- e2];grind
 constructor
 ·intro h
  have:=jy h
  rw[i1,i2] at this
  exact fE hq this
 ·intro h
  have k:=mul_pos hq (show 0<y-x by exact g8 (h))
  refine nx ?_
  rw[i1,i2]
  rw[show (q1:Re)*q2*(y-x)=q1*q2*y-q1*q2*x by grind] at k
  clear i1 i2 e1 e2 hq;grind
theorem fY{p1 q1 p2 q2 p q:Int}{x y:Re}(h1:0<q1)(h2:0<q2)(e1:(q1:Re)*x=p1)(e2:(q2:Re)*y=p2)(e:p*(q1*q2)=(p1*q2+p2*q1)*q):(q:Re)*(x+y)=p:=by
 have hq:(q1:Re)*q2≠0:=du (ci h1) (ci h2)
 have e':=congrArg (fun z:Int=>(z:Re)) e
 simp only[aq,bq] at e'
 refine ig hq ?_
 rw[<- e1,<- e2] at e'
 grind
theorem qL{u v p q n:Int}{x:Re}(hv:0<v)(hq:0<q)(e1:(v:Re)*x=u)(e:p*(v*n)=(u*1)*q):(n:Re)*rq p q=x:=by
 have h:(q:Re)*v≠0:=du (ci hq) (ci hv)
 have e':=congrArg (fun z:Int=>(z:Re)) e
 rw[Id] at e'
 simp only[aq] at e'
 have e2:=bI (p:=p) (Ho hq)
 refine ig h ?_
 rw[<- e1,<- e2] at e'
 grind
theorem dU{q:Int}(h:0<q):∀n:Nat,0<q^n
 |0=>by rw[ID];decide
 |n+1=>by rw[Ig];exact HG (dU h n) h
theorem iY{p q:Int}{x:Re}(e:(q:Re)*x=p):(q:Re)*(-x)=((-p:Int):Re):=by rw[ch,<- e];grind
theorem jb{row:List Int}{p q:Int}{x:Re}(hr:row≠[])(hq:0<q)(e:(q:Re)*x=p):sgn (bh p q row)=rsg (evR row x):=by
 cases row with
 |nil=>exact absurd rfl hr
 |cons c xs =>
  have h:=gb e xs c
  have h2:=congrArg rsg h
  rw[g6,cz,<- jr,g6] at h2
  have:sg (q^xs.length)=1:=by
   have:=dU hq xs.length
   unfold sg;rw[if_neg (by exact oqz [] [q^xs.length] [(.il (0+1) Y0)] (.no (.il (Y0+1) 0)) [11] rfl this),if_pos this]
  rw[this,Ip] at h2
  exact h2
structure Pt (D:Int)(x:Re)(p q:Int):Prop where
 pos:0<q
 one:p.gcd q=1
 val:(q:Re)*x=p
 un:∃a:Int,(D:Re)*x=a
theorem xy{x z:Int}(h1:x<=z)(h2:-z<=x):x.natAbs<=z.natAbs:=oqz [x.natAbs,z.natAbs] [x,z] [(.il Y0 Y1),(.il (.g Y1) Y0),(.an (.il Y1 (.c Y1)) (.il (.g Y1) (.c Y1))),(ona Y0 Y0)] (.le Y0 Y1) [1001011,1001101] rfl h1 h2 (bo (z)) (bm (x))
theorem Pt.low{D B p q:Int}{x:Re}{k:Nat}(h:Pt D x p q)(hD:0<D)(hB:1<=B)(b1:-(B:Re)<=x)(b2:x<=B)(s:Sm k (D*B)):Low k p q:=by
 obtain ⟨a,ha⟩:=h.un
 have e:p*D=a*q:=ft (by rw[aq,aq,<- h.val,<- ha];grind)
 have hD':=Hu (aP hD)
 have i1:a<=D*B:=ik (by rw[aq,<- ha];have:=ae hD' (show 0<=(B:Re)-x by exact dH (b2));clear e b1 s ha;grind)
 have i2:-(D*B)<=a:=ik (by rw[ch,aq,<- ha];have:=ae hD' (show 0<=(B:Re)+x by grind);clear e b1 s ha;grind)
 have i3:D<=D*B:=by have:=Kb hB (HZ hD);exact oqz [] [D,D*B] [(.il (.r Y0 1) Y1)] (.il Y0 Y1) [11] rfl this
 have i4:-(D*B)<=D:=Il (Int.neg_nonpos_of_nonneg (Il (HZ hD) i3)) (HZ hD)
 refine sX h.one h.pos hD e (s.of_le ?_) (s.of_le ?_) <;> first|exact xy i1 i2|exact xy i3 i4
theorem Pt.scale{D p q:Int}{x:Re}(h:Pt D x p q)(n:Int):Pt (n*D) x p q:=by
 obtain ⟨a,ha⟩:=h.un
 exact ⟨h.pos,h.one,h.val,n*a,by rw[aq,aq,<- ha];grind⟩
theorem Pt.of_low{k:Nat}{D p q:Int}{x:Re}(h:Low k p q)(e:(q:Re)*x=p)(u:∃a:Int,(D:Re)*x=a):Pt D x p q:=⟨h.pos,h.one,e,u⟩
theorem oz{P:Nat->Prop}(h:∃n,P n):∃n,P n/\∀m,P m->n<=m:=by
 obtain ⟨n,hn⟩:=h
 induction n using Nat.strongRecOn with
 |ind n ih =>
  by_cases g:∃m,m<n/\P m
  ·refine ac (g) fun m hm pm=>?_;exact ih m hm pm
  ·exact ⟨n,hn,fun m pm=>Nat.not_lt.mp fun l=>g ⟨m,l,pm⟩⟩
open Classical in
noncomputable def muI(I:Nat->Loc->Hp->Prop)(ρ:Loc)(H:Hp):Nat:=if h:∃n,I n ρ H then Classical.choose (oz h) else 0
theorem nQ{I:Nat->Loc->Hp->Prop}{ρ:Loc}{H:Hp}(h:∃n,I n ρ H):I (muI I ρ H) ρ H:=by
 unfold muI;rw[dif_pos h];exact (Classical.choose_spec (oz h)).1
theorem n8{I:Nat->Loc->Hp->Prop}{ρ:Loc}{H:Hp}{n:Nat}(h:I n ρ H):muI I ρ H<=n:=by
 unfold muI;rw[dif_pos ⟨n,h⟩];exact (Classical.choose_spec (oz ⟨n,h⟩)).2 n h
structure jN (D:Int)(al lo hi lo' hi':Re)(x1 y1 x2 y2:Int):Prop where
 a1:Pt (8*D) lo' x1 y1
 a2:Pt (8*D) hi' x2 y2
 l1:lo<=lo'
 l2:lo'<al
 u1:al<hi'
 u2:hi'<=hi
 wd:2*(hi'-lo')<=hi-lo
end Mine
namespace Mine
open PySem
open Re
noncomputable abbrev pt (p q:Int):V:=.tup [.int p,.int q]
inductive mv (H:Hp) (one wv v:V) (D:Int) (al lo hi:Re) (p1 q1 p2 q2:Int) (n:Nat) (ρ:Loc) (H':Hp):Prop
 |mk (e:H'=H) (x1 y1 x2 y2:Int) (o5 o6 o7:Option V) (c0:ρ=[some one,some wv,some v,some (pt x1 y1),some (pt x2 y2),o5,o6,o7]) (c1:(n=1/\x1=p1/\y1=q1/\x2=p2/\y2=q2)\/(n=0/\∃lo' hi',jN D al lo hi lo' hi' x1 y1 x2 y2))
theorem CS{lo hi lo' hi' wr:Re}(h1:2*wr=hi-lo)(h2:2*(hi'-lo')<=hi-lo):¬ wr<hi'+-lo':=by grind
theorem EY{lo hi al wr:Re}(h1:2*wr=hi-lo)(l:lo<al)(u:al<hi):wr<hi+-lo:=by grind
theorem Dt{lo hi m B:Re}(e:2*m=lo+hi)(h:lo<hi)(b1:-B<=lo)(b2:hi<=B):lo<m/\m<hi/\-B<=m/\m<=B:=by grind
theorem ya{D:Int}{lo hi m:Re}{a b:Int}(e:2*m=lo+hi)(h1:(D:Re)*lo=a)(h2:(D:Re)*hi=b):((8*D:Int):Re)*m=((4*(a+b):Int):Re):=by
 rw[aq,aq,bq,<- h1,<- h2]
 have e8:((8:Int):Re)=8:=rfl
 have e4:((4:Int):Re)=4:=rfl
 rw[e8,e4]
 have:(D:Re)*(2*m)=D*(lo+hi):=by rw[e]
 grind
theorem CR{D:Int}{lo hi m s:Re}{a b:Int}(e:2*m=lo+hi)(es:8*s=hi-lo)(h1:(D:Re)*lo=a)(h2:(D:Re)*hi=b):((8*D:Int):Re)*(m+-s)=((4*(a+b)-(b-a):Int):Re)/\((8*D:Int):Re)*(m+s)=((4*(a+b)+(b-a):Int):Re):=by
 have h:=ya e h1 h2
 have e8:((8:Int):Re)=8:=rfl
 have k:((8*D:Int):Re)*s=((b-a:Int):Re):=by
  rw[aq,eO,<- h1,<- h2,e8]
  have:(D:Re)*(8*s)=D*(hi-lo):=by rw[es]
  grind
 constructor
 ·rw[eO,<- h,<- k];grind
 ·rw[bq,<- h,<- k];grind
theorem CH{lo hi m s al:Re}(e:2*m=lo+hi)(es:8*s=hi-lo)(h:lo<hi)(ea:m=al):lo<=m+-s/\m+-s<al/\al<m+s/\m+s<=hi/\2*((m+s)-(m+-s))<=hi-lo:=by
 have:0<s:=by
  have h8:(0:Re)<8*s:=by grind
  rcases aN s with g|g|g
  ·exact g
  ·grind
  ·rw[g] at h8;grind
 grind
theorem rsg_is{x:Re}:rsg x=-1 ↔ x<0:=by
 rcases aN x with g|g|g
 ·rw[aG g];constructor
  ·intro h;exact absurd h (by decide)
  ·intro h;grind
 ·rw[aK g];exact ⟨fun _=>g,fun _=>rfl⟩
 ·rw[g,aQ];constructor
  ·intro h;exact absurd h (by decide)
  ·intro h;grind
theorem rsg_is0{x:Re}:rsg x=0 ↔ x=0:=by
 rcases aN x with g|g|g
 ·rw[aG g];constructor
  ·intro h;exact absurd h (by decide)
  ·intro h;grind
 ·rw[aK g];constructor
  ·intro h;exact absurd h (by decide)
  ·intro h;grind
 ·rw[g,aQ];exact ⟨fun _=>rfl,fun _=>rfl⟩
section
end
end Mine
namespace Mine
open PySem
open Re
structure PD (row:List Int)(N:Int)(al lo hi:Re)(p1 q1 p2 q2:Int)(j:Nat):Prop where
 rp:RP row lo hi al
 tr:Tr row
 ln:row.length<=4
 sm:AllSm 200 row
 n0:0<N
 n1:N<=1073741824
 a1:Pt (N*8^j) lo p1 q1
 a2:Pt (N*8^j) hi p2 q2
 wd:((2^j:Int):Re)*(hi-lo)<=((64:Int):Re)
 b1:-((1073741824:Int):Re)<=lo
 b2:hi<=((1073741824:Int):Re)
section
end
section
end
end Mine
namespace Mine
open PySem
open Re
section
end
end Mine
namespace Mine
open Re
theorem iF{x c:Re}(h1:-c<=x)(h2:x<=c):ab x<=c:=by rcases lI x with h|h <;> rw[h] <;> (first|exact h2|grind)
theorem nN{x y:Re}{c d:Int}(h:ab x<=c)(g:ab y<=d):ab (x+y)<=((c+d:Int):Re):=by
 have:=d7 x;have:=d7 y
 rw[bq];exact iF (by grind) (by grind)
theorem oc(x:Re):ab (-x)=ab x:=by
 have h1:=d7 x;have h2:=d7 (-x)
 rcases lI x with h|h <;> rcases lI (-x) with g|g <;> rw[h,g] <;> rw[h] at h1 <;> rw[g] at h2 <;> grind
theorem EN{x y:Re}{c d:Int}(h:ab x<=c)(g:ab y<=d):ab (x-y)<=((c+d:Int):Re):=by
 rw[show x-y=x+-y by grind];exact nN h (by rw[oc];exact g)
theorem oO{a b c d:Re}(h0:0<=a)(h1:a<=c)(g0:0<=b)(g1:b<=d):a*b<=c*d:=by
 have k1:=ae h0 (show 0<=d-b by exact dH (g1))
 have k2:=ae (show 0<=d by exact dp (g0) (g1)) (show 0<=c-a by exact dH (h1))
 grind
theorem jf{x y:Re}{c d:Int}(h:ab x<=c)(g:ab y<=d):ab (x*y)<=((c*d:Int):Re):=by
 rw[dk,aq];exact oO (aI x) h (aI y) g
theorem dN{n c:Int}(h1:-c<=n)(h2:n<=c):ab (n:Re)<=(c:Re):=iF (by rw[<- ch];exact aZ h1) (aZ h2)
theorem gL{x:Re}{c d:Int}(h:ab x<=c)(hd:c<=d):ab x<=(d:Re):=by have:=aZ hd;exact dp (h) (this)
theorem ym{x y:Re}(h0:0<=y)(h:x*x<y*y):x<y:=by
 rcases aN (y-x) with g|g|g
 ·grind
 ·have:=ae (show 0<=x-y by grind) (show 0<=x+y by grind);grind
 ·have:x=y:=by grind
  rw[this] at h;grind
theorem kK(d:Nat):aW d*aW d=(((d:Nat):Int):Re):=fQ d
theorem to{d:Nat}{A:Int}(hA:0<=A)(h:(d:Int)<A*A):aW d<A:=ym (by have:=aZ hA;rw[ax] at this;exact this) (by rw[kK,<- aq];exact jy h)
theorem tq{d:Nat}{A:Int}(hA:0<=A)(h:(d:Int)<A*A):ab (aW d)<=(A:Re):=by
 have h1:=to hA h
 have h2:=jD d
 exact iF (by grind) (by exact fq (h1))
theorem sH{R:Int}(hR:0<R)(x:Re):ab ((R:Re)*x)=(R:Re)*ab x:=by
 rw[dk]
 have:=Hu (aP hR)
 rw[show ab (R:Re)=R by unfold ab;rw[if_pos this]]
theorem oY{R:Int}(hR:0<R){al be g:Re}(e:(R:Re)*(al-be)=g)(h:al≠be):g≠0:=fun h0=>h (by
 rw[h0] at e
 have:=bE e (ci hR)
 grind)
theorem qP{r c:Int}{x z:Re}(hr:0<r)(hc:0<=c)(e:(r:Re)*x=z)(g1:-(c:Re)<=z)(g2:z<=c):-(c:Re)<=x/\x<=(c:Re):=by
 have hrc:c<=r*c:=by have:=Int.mul_le_mul_of_nonneg_right (show 1<=r from hr) hc;exact oqz [] [c,r*c] [(.il (.m 1 Y0) Y1)] (.il Y0 Y1) [11] rfl this
 have hr':=aP hr
 have g3:=aZ hrc
 rw[aq] at g3
 constructor
 ·refine JH.mp fun hn=>?_
  have:=mul_pos hr' (show 0 < -(c:Re)-x by exact g8 (hn))
  rw[show (r:Re)*(-(c:Re)-x)=-(r*c)-r*x by grind,e] at this
  clear e;grind
 ·refine JH.mp fun hn=>?_
  have:=mul_pos hr' (show 0<x-(c:Re) by exact g8 (hn))
  rw[show (r:Re)*(x-(c:Re))=r*x-r*c by grind,e] at this
  clear e;grind
structure QD (p q r:Int)(d:Nat):Prop where
 p1:-1000000<=p
 p2:p<=1000000
 q0:(1<=q/\q<=6)\/(-6<=q/\q<=-1)
 r1:1<=r
 r2:r<=7
 d1:1<=d
 d2:d<=30
noncomputable def qal(p q r:Int)(d:Nat):Re:=rq p r+rq q r*aW d
theorem gw{p q r:Int}{d:Nat}(hr:0<r):(r:Re)*qal p q r d=p+q*aW d:=by
 unfold qal
 rw[<- bI (p:=p) (Ho hr),<- bI (p:=q) (Ho hr)];grind
theorem Ag{row:List Int}{p q r g:Int}{d:Nat}{al:Re}(hr:0<r)(hg:g≠0)(e:smul g row=[p*p-q*q*d,-2*p*r,r*r])(ha:(r:Re)*al=p+q*aW d) :
  ∃C:Re,C≠0/\∀t,evR row t=C*((t-al)*(t-(2*rq p r-al))):=by
 have hq:aW d*aW d=(((d:Nat):Int):Re):=fQ d
 have m2:((-2:Int):Re)=-2:=rfl
 have hC:=bI (p:=r*r) hg
 have hp:=bI (p:=p) (Ho hr)
 rw[aq] at hC
 refine ⟨rq (r*r) g,fun h=>?_,fun t=>?_⟩
 ·rw[h] at hC
  exact du (ci hr) (ci hr) (by rw[<- hC];grind)
 ·refine ig (fv hg) ?_
  rw[<- bX,e]
  show ((p*p-q*q*d:Int):Re)+t*(((-2*p*r:Int):Re)+t*(((r*r:Int):Re)+t*0))=_
  simp only[eO,aq]
  rw[<- hq,m2]
  have h2:(r:Re)*(2*rq p r-al)=p-q*aW d:=by rw[show (r:Re)*(2*rq p r-al)=2*(r*rq p r)-r*al by grind,hp,ha];grind
  have h3:(g:Re)*(rq (r*r) g*((t-al)*(t-(2*rq p r-al))))=((r:Re)*t-r*al)*(r*t-r*(2*rq p r-al)):=by
   rw[show (g:Re)*(rq (r*r) g*((t-al)*(t-(2*rq p r-al))))=((g:Re)*rq (r*r) g)*((t-al)*(t-(2*rq p r-al))) by grind,hC]
   generalize 2*rq p r-al=x
   clear h2 hp hC e ha hq;grind
  rw[h3,ha,h2]
  clear h3 h2 hp hC e ha
  grind
theorem zP{row:List Int}{p q r g:Int}{d:Nat}{al lo hi:Re}(hr:0<r)(hg:g≠0)(e:smul g row=[p*p-q*q*d,-2*p*r,r*r])(ha:(r:Re)*al=p+q*aW d)
  (l:lo<al) (u:al<hi) (o:Out lo hi (2*rq p r-al)):RP row lo hi al:=by
 refine ac (Ag hr hg e ha) fun C hC h=>?_
 have hl:=bJ (c:=g) (xs:=row)
 rw[e] at hl
 refine ⟨l,u,C,[2*rq p r-al],hC,hl.symm,List.pairwise_singleton _ _,fun x hx=>?_,fun t=>?_⟩
 ·rw[Iw.mp hx];exact o
 ·rw[h,qt,yB];grind
theorem Co{p q a r:Int}(hr:0<r)(e:p*r=a*q):(q:Re)*rq a r=p:=by
 have h:=bI (p:=a) (Ho hr)
 refine ig (ci hr) ?_
 have e':=congrArg (fun z:Int=>(z:Re)) e
 simp only[aq] at e'
 rw[show (r:Re)*(q*rq a r)=q*(r*rq a r) by grind,h]
 grind
theorem GE{row:List Int}{r L U p1 q1 p2 q2:Int}{al:Re}{k:Nat}(rp:RP row (rq L r) (rq U r) al)(tr:Tr row)(ln:row.length<=4)(sm:AllSm 200 row)(r0:0<r)(r1:r<=1073741824)
  (b1:-1073741824<=L) (b2:L<=U) (b3:U<=1073741824) (w:U-L<=r*64) (l1:Low k p1 q1) (e1:p1*r=L*q1) (l2:Low k p2 q2) (e2:p2*r=U*q2):PD row r al (rq L r) (rq U r) p1 q1 p2 q2 0:=by
 have hL:=bI (p:=L) (Ho r0)
 have hU:=bI (p:=U) (Ho r0)
 have e0:r*8^0=r:=by rw[ID,Id]
 have one:((2^0:Int):Re)=1:=rfl
 refine ⟨rp,tr,ln,sm,r0,r1,⟨l1.pos,l1.one,Co r0 e1,L,by rw[e0];exact hL⟩,⟨l2.pos,l2.one,Co r0 e2,U,by rw[e0];exact hU⟩,?_,?_,?_⟩
 ·rw[one]
  have:=aZ w
  rw[eO,aq,<- hL,<- hU] at this
  refine JH.mp fun hn=>?_
  have k:=mul_pos (aP r0) (show 0<rq U r-rq L r-((64:Int):Re) by grind)
  generalize ((64:Int):Re)=z at *
  clear hL hU rp hn;grind
 ·have h1:=aZ b1
  have h2:=aZ (show L<=1073741824 by exact oqz [] [L,U] [(.il Y0 Y1),(.il Y1 1073741824)] (.il Y0 1073741824) [111] rfl b2 b3)
  rw[ch] at h1
  exact (qP (c:=1073741824) r0 (by decide) hL h1 h2).1
 ·have h1:=aZ (show -1073741824<=U by exact oqz [] [U,L] [(.il (.g 1073741824) Y1),(.il Y1 Y0)] (.il (.g 1073741824) Y0) [111] rfl b1 b2)
  have h2:=aZ b3
  rw[ch] at h1
  exact (qP (c:=1073741824) r0 (by decide) hU h1 h2).2
theorem QD.up{p q r A:Int}{d:Nat}(h:QD p q r d)(hq:0<q)(hA:aW d<A):rq p r<qal p q r d/\qal p q r d<rq (p+q*A) r/\Out (rq p r) (rq (p+q*A) r) (2*rq p r-qal p q r d):=by
 have hr:0<r:=by have:=h.r1;exact oqz [] [r] [(.il 1 Y0)] (.il (0+1) Y0) [11] rfl this
 have hr':=aP hr
 have e:=gw (p:=p) (q:=q) (d:=d) hr
 have eL:=bI (p:=p) (Ho hr)
 have eU:=bI (p:=p+q*A) (Ho hr)
 rw[bq,aq] at eU
 have s:=mul_pos (aP hq) (gy (show 0<d from h.d1))
 have s2:=mul_pos (aP hq) (show 0<(A:Re)-aW d by exact g8 (hA))
 generalize qal p q r d=al at *
 have k1:rq p r<al:=fE hr' (by rw[e,eL];grind)
 refine ⟨k1,fE hr' (by rw[e,eU];grind),.inl (by grind)⟩
theorem QD.dn{p q r A:Int}{d:Nat}(h:QD p q r d)(hq:q<0)(hA:aW d<A):rq (p+q*A) r<qal p q r d/\qal p q r d<rq p r/\Out (rq (p+q*A) r) (rq p r) (2*rq p r-qal p q r d):=by
 have hr:0<r:=by have:=h.r1;exact oqz [] [r] [(.il 1 Y0)] (.il (0+1) Y0) [11] rfl this
 have hr':=aP hr
 have e:=gw (p:=p) (q:=q) (d:=d) hr
 have eL:=bI (p:=p) (Ho hr)
 have eU:=bI (p:=p+q*A) (Ho hr)
 rw[bq,aq] at eU
 have hq':=aP (show 0 < -q by exact oqz [] [q] [(.il (Y0+1) 0)] (.il (0+1) (.g Y0)) [11] rfl hq)
 rw[ch] at hq'
 have s:=mul_pos hq' (gy (show 0<d from h.d1))
 have s2:=mul_pos hq' (show 0<(A:Re)-aW d by exact g8 (hA))
 generalize qal p q r d=al at *
 have k1:al<rq p r:=fE hr' (by rw[e,eL];grind)
 refine ⟨fE hr' (by rw[e,eU];grind),k1,.inr (by grind)⟩
theorem QD.bds{p q r:Int}{d:Nat}(h:QD p q r d):ab ((q:Re)*aW d)<=((36:Int):Re):=
 jf (c:=6) (d:=6) (dN (by have:=h.q0;exact oqz [] [q] [(.or (.an (.il 1 Y0) (.il Y0 6)) (.an (.il (.g 6) Y0) (.il Y0 (.g 1))))] (.il (.g 6) Y0) [11] rfl this) (by have:=h.q0;exact oqz [] [q] [(.or (.an (.il 1 Y0) (.il Y0 6)) (.an (.il (.g 6) Y0) (.il Y0 (.g 1))))] (.il Y0 6) [101] rfl this)) (tq (by decide) (by have:=h.d2;exact oqz [d] [] [(.le Y0 30)] (.il (.a (.c Y0) 1) (.m 6 6)) [11] rfl this))
end Mine
namespace Mine
open PySem
noncomputable def pw(F:List Int):Nat->List Int->List Int
 |0,K=>K
 |n+1,K=>cn (pw F n K) F
structure FL (K d gl El:List Int)(g k:Nat):Prop where
 fac:Fac K d (ev gl) (ev El)
 dl:∃l,d.getLast?=some l/\0<l
 d1:bn d 0=1
 fg:∃l,Fct gl l g
 sd:AllSm k d
 se:AllSm k El
section
end
end Mine
namespace Mine
open PySem
section
end
end Mine
namespace Mine
open PySem
section
variable {sub:Nat->Nat->Bool}{P:List Fn}{n:Nat}{H:Hp}{Q:V->Hp->Prop}{X:Nat->Hp->Prop}
theorem nl(zT:TT P){x:Int}(hQ:Q (.int (sg x)) H):ag sub P (n+1) 45 [.int x] H Q X:=by
 refine aj zT.a45 rfl ?_
 dsimp only[qB,qS1,qS2,qS9,bC,qE1,qE5,qE9,br,bV,aC,aD,fJ,kJ,kP,aU,aB,az,aw,av,aA,au,aa,ah,Nat.reduceSub]
 unfold sg at hQ
 by_cases h1:x<0
 ·rw[if_pos h1] at hQ
  rw[decide_eq_true h1]
  exact hQ
 ·rw[if_neg h1] at hQ
  rw[decide_eq_false h1]
  dsimp only[bK]
  by_cases h2:0<x
  ·rw[if_pos h2] at hQ
   rw[decide_eq_true h2]
   exact hQ
  ·rw[if_neg h2] at hQ
   rw[decide_eq_false h2]
   exact hQ
theorem rH(x y a:Int):Sm 64 (dJ x y a):=by
 have e:(2:Nat)^64=18446744073709551616:=by decide
 have hs:∀n,-1<=sg n/\sg n<=1:=fun n=>by unfold sg;split <;> (try split) <;> omega
 have h:-1<=dJ x y a/\dJ x y a<=1:=by
  unfold dJ
  have h1:=hs (x*x-y*y*a)
  have h2:=hs (y*y*a-x*x)
  generalize sg (x*x-y*y*a)=u at *
  generalize sg (y*y*a-x*x)=v at *
  split
  ·split <;> decide
  ·split
   ·split <;> decide
   ·split <;> assumption
 unfold Sm;exact oqz [(dJ x y a).natAbs] [dJ x y a] [(.an (.il (.g 1) Y0) (.il Y0 1)),(ona Y0 Y0)] (.le (Y0+1) 18446744073709551616) [10101,10011] rfl h (bm (dJ x y a))
theorem ok7{x y:Int}{k l:Nat}(h1:Sm k x)(h2:Sm l y)(hk:k<=67108864:=by decide)(hl:l<=67108864:=by decide):IntMulOk x y:=IntMulOk.sm h1 h2 hk hl
theorem CZ(zT:TT P){W:Nat->Prop}{NN:Loc->Hp->Prop}{R:V->Hp->Prop}{Y:Nat->Hp->Prop}{x y a:Int}(mya:IntMulOk y a)(mxx:IntMulOk x x)(myy:IntMulOk y y)(myya:IntMulOk (y*y) a)(hn:¬ (0<=x/\0<=y))(hQ:R (.int (dJ x y a)) H) :
  wpS sub (ag sub P (n+1)) W (pX 45) [some (.int x),some (.int y),some (.int a)] H NN R Y:=by
 unfold dJ at hQ
 rw[if_neg hn] at hQ
 dsimp only[pX]
 generalize hT:EG 45=T
 have fin:¬ (x<=0/\y<=0)->wpS sub (ag sub P (n+1)) W T [some (.int x),some (.int y),some (.int a)] H NN R Y:=fun h=>by
  subst hT
  rw[if_neg h] at hQ
  dsimp only[EG,qS1,qS2,qS9,bC,qE1,qE5,qE8,br,aS,aC,aD,cQ,cD,kJ,aU,aa,ah]
  by_cases hx:0<x
  ·rw[if_pos hx] at hQ
   rw[decide_eq_true hx]
   exact ⟨mxx,myy,myya,nl zT hQ⟩
  ·rw[if_neg hx] at hQ
   rw[decide_eq_false hx]
   exact ⟨myy,myya,mxx,nl zT hQ⟩
 dsimp only[qS1,qS2,qS9,bC,qE1,qE5,qE8,br,nR,l7,bV,aC,aD,cF,cQ,cD,fJ,vE,kP,aU,aa,ah]
 by_cases h1:x<=0
 ·rw[decide_eq_true h1]
  by_cases h2:y<=0
  ·rw[decide_eq_true h2]
   rw[if_pos ⟨h1,h2⟩] at hQ
   dsimp only[bw]
   by_cases h3:x<0
   ·rw[if_pos (.inl h3)] at hQ
    rw[decide_eq_true h3]
    exact hQ
   ·rw[decide_eq_false h3]
    refine ⟨mya,?_⟩
    by_cases h4:y*a<0
    ·rw[if_pos (.inr h4)] at hQ
     rw[decide_eq_true h4]
     exact hQ
    ·rw[if_neg (fun h=>h.elim h3 h4)] at hQ
     rw[decide_eq_false h4]
     exact hQ
  ·rw[decide_eq_false h2]
   exact fin fun h=>h2 h.2
 ·rw[decide_eq_false h1]
  exact fin fun h=>h1 h.1
theorem tT(zT:TT P){x y a:Int}(hx:Sm 10000000 x)(hy:Sm 10000000 y)(ha:Sm 64 a)(hQ:Q (.int (dJ x y a)) H):ag sub P (n+2) 46 [.int x,.int y,.int a] H Q X:=by
 have mya:IntMulOk y a:=IntMulOk.right ha
 have mxx:IntMulOk x x:=ok7 hx hx
 have myy:IntMulOk y y:=ok7 hy hy
 have myya:IntMulOk (y*y) a:=IntMulOk.right ha
 refine aj zT.a46 rfl ?_
 have fin:¬ (0<=x/\0<=y)->wpS sub (ag sub P (n+1)) (fun m=>H.length<=m) (pX 45) [some (.int x),some (.int y),some (.int a)] H (fun _ H'=>Q V.none H') Q X:=fun h=>CZ zT mya mxx myy myya h hQ
 dsimp only[DL]
 revert fin
 generalize pX 45=T
 intro fin
 dsimp only[qS1,qS2,qS9,bC,qE1,qE5,qE8,br,nR,l7,bV,aC,aD,cF,cD,kJ,l9,kP,aU,aB,az,aw,av,aA,au,aa,ah,Nat.reduceSub]
 by_cases h1:0<=x
 ·rw[decide_eq_true h1]
  by_cases h2:0<=y
  ·rw[decide_eq_true h2]
   unfold dJ at hQ
   rw[if_pos ⟨h1,h2⟩] at hQ
   dsimp only[bw]
   by_cases h3:0<x
   ·rw[if_pos (.inl h3)] at hQ
    rw[decide_eq_true h3]
    exact hQ
   ·rw[decide_eq_false h3]
    refine ⟨mya,?_⟩
    by_cases h4:0<y*a
    ·rw[if_pos (.inr h4)] at hQ
     rw[decide_eq_true h4]
     exact hQ
    ·rw[if_neg (fun h=>h.elim h3 h4)] at hQ
     rw[decide_eq_false h4]
     exact hQ
  ·rw[decide_eq_false h2]
   exact fin fun h=>h2 h.2
 ·rw[decide_eq_false h1]
  exact fin fun h=>h1 h.1
theorem hO{i:Nat}{H:Hp}{Q:V->Prop}{x y:V}(h:H[i]?=some [x,y])(hq:Q x):ifSome H[i]? fun xs=>ifSome (cf xs.length 0) fun j=>ifSome xs[j]? fun v=>Q v:=by rw[h];exact hq
theorem hJ{i:Nat}{H:Hp}{Q:V->Prop}{x y:V}(h:H[i]?=some [x,y])(hq:Q y):ifSome H[i]? fun xs=>ifSome (cf xs.length 1) fun j=>ifSome xs[j]? fun v=>Q v:=by rw[h];exact hq
theorem rn(zT:TT P){i j:Nat}{x0 x1 y0 y1 a:Int}(hi:H[i]?=some [.int x0,.int x1])(hj:H[j]?=some [.int y0,.int y1])(sx0:Sm 2000000 x0)(sx1:Sm 2000000 x1)(sy0:Sm 2000000 y0)(sy1:Sm 2000000 y1)(sa:Sm 64 a)
  (hQ:Q (.lst H.length) (H++[[.int (x0*y0+a*x1*y1),.int (x0*y1+x1*y0)]])):ag sub P (n+1) 48 [.lst i,.lst j,.int a] H Q X:=by
 refine aj zT.a48 rfl ?_
 dsimp only[wK,qS1,qS2,qS9,qE1,qE5,qE8,aV,g7,aC,aD,bZ,aB,az,aw,av,aA,au,aa,ah,Nat.reduceSub]
 refine hO hi ?_
 refine hO hj ⟨ok7 sx0 sy0,?_⟩
 refine hJ hi ⟨ok7 sa sx1,?_⟩
 refine hJ hj ⟨ok7 (sa.mul sx1) sy1,?_⟩
 refine hO hi ?_
 refine hJ hj ⟨ok7 sx0 sy1,?_⟩
 refine hJ hi ?_
 exact hO hj ⟨ok7 sx1 sy0,hQ⟩
theorem ix4{i:Nat}{H:Hp}{Q:V->Prop}{x y z w:V}{k:Int}{v:V}(h:H[i]?=some [x,y,z,w])(hk:(k=0/\v=x)\/(k=1/\v=y)\/(k=2/\v=z)\/(k=3/\v=w))(hq:Q v):ifSome H[i]? fun xs=>ifSome (cf xs.length k) fun j=>ifSome xs[j]? fun v=>Q v:=by
 rw[h]
 rcases hk with ⟨rfl,rfl⟩ | ⟨rfl,rfl⟩ | ⟨rfl,rfl⟩ | ⟨rfl,rfl⟩ <;> exact hq
theorem AJ(zT:TT P){W:Nat->Prop}{NN:Loc->Hp->Prop}{R:V->Hp->Prop}{Y:Nat->Hp->Prop}{m:Nat}{x0 x1 x2 x3 a b l:Int}{o:Option V}(hm:H[m]?=some [.int x0,.int x1,.int x2,.int x3])
  (s0:Sm 2000000 x0) (s1:Sm 2000000 x1) (s2:Sm 2000000 x2) (s3:Sm 2000000 x3) (sa:Sm 64 a) (sb:Sm 64 b) (hl:Sm 64 l)
  (hQ:∀H',H<+:H'->R (.int (l*dJ ((x0*x0+a*x1*x1)-b*(x2*x2+a*x3*x3)) ((x0*x1+x1*x0)-b*(x2*x3+x3*x2)) a)) H') :
  wpS sub (ag sub P (n+2)) W (oB 46 48) [some (.lst m),some (.int a),some (.int b),some (.int l),o,none,none] H NN R Y:=by
 dsimp only[oB,qS1,qS2,qS3,qS9,qE1,qE5,qE8,aS,aV,D1,aC,aD,qO1,qO2,EZ,EU,Bo,aa,ah,aE]
 refine ifSome.mk hm ?_
 dsimp only[eJ,Nat.reduceAdd,List.length_nil]
 have h1:(H++[[V.int x0,V.int x1]])[m]?=some [.int x0,.int x1,.int x2,.int x3]:=ao (af _ _) hm
 refine ifSome.mk h1 ?_
 have g1:(H++[[V.int x0,V.int x1]]++[[V.int x0,V.int x1]])[H.length]?=some [.int x0,.int x1]:=ao (af _ _) (ai _ _ _)
 have g2:(H++[[V.int x0,V.int x1]]++[[V.int x0,V.int x1]])[(H++[[V.int x0,V.int x1]]).length]?=some [.int x0,.int x1]:=ai _ _ _
 refine rn zT g1 g2 s0 s1 s0 s1 sa ?_
 have p1:H<+:(H++[[V.int x0,V.int x1]]++[[V.int x0,V.int x1]]):=ad (af _ _) (af _ _)
 have eH:(H++[cut [V.int x0,V.int x1,V.int x2,V.int x3] 0 (cx 4 2)]++[cut [V.int x0,V.int x1,V.int x2,V.int x3] 0 (cx [V.int x0,V.int x1,V.int x2,V.int x3].length 2)])=(H++[[V.int x0,V.int x1]]++[[V.int x0,V.int x1]]):=rfl
 rw[eH]
 generalize (H++[[V.int x0,V.int x1]]++[[V.int x0,V.int x1]])=H2 at *
 clear eH
 have q1:H<+:H2++[[V.int (x0*x0+a*x1*x1),V.int (x0*x1+x1*x0)]]:=ad p1 (af _ _)
 have u1:(H2++[[V.int (x0*x0+a*x1*x1),V.int (x0*x1+x1*x0)]])[H2.length]?=some [.int (x0*x0+a*x1*x1),.int (x0*x1+x1*x0)]:=ai _ _ _
 generalize H2++[[V.int (x0*x0+a*x1*x1),V.int (x0*x1+x1*x0)]]=H3 at *
 have hm3:=ao q1 hm
 refine ifSome.mk hm3 ?_
 have hm4:(H3++[[V.int x2,V.int x3]])[m]?=some [.int x0,.int x1,.int x2,.int x3]:=ao (af _ _) hm3
 refine ifSome.mk hm4 ?_
 have g3:(H3++[[V.int x2,V.int x3]]++[[V.int x2,V.int x3]])[H3.length]?=some [.int x2,.int x3]:=ao (af _ _) (ai _ _ _)
 have g4:(H3++[[V.int x2,V.int x3]]++[[V.int x2,V.int x3]])[(H3++[[V.int x2,V.int x3]]).length]?=some [.int x2,.int x3]:=ai _ _ _
 refine rn zT g3 g4 s2 s3 s2 s3 sa ?_
 have p3:H3<+:(H3++[[V.int x2,V.int x3]]++[[V.int x2,V.int x3]]):=ad (af _ _) (af _ _)
 have eH:(H3++[cut [V.int x0,V.int x1,V.int x2,V.int x3] (cx [V.int x0,V.int x1,V.int x2,V.int x3].length 2) [V.int x0,V.int x1,V.int x2,V.int x3].length]++[cut [V.int x0,V.int x1,V.int x2,V.int x3] (cx [V.int x0,V.int x1,V.int x2,V.int x3].length 2) [V.int x0,V.int x1,V.int x2,V.int x3].length])=(H3++[[V.int x2,V.int x3]]++[[V.int x2,V.int x3]]):=rfl
 rw[eH]
 generalize (H3++[[V.int x2,V.int x3]]++[[V.int x2,V.int x3]])=H4 at *
 clear eH
 have q3:H3<+:H4++[[V.int (x2*x2+a*x3*x3),V.int (x2*x3+x3*x2)]]:=ad p3 (af _ _)
 have u3:(H4++[[V.int (x2*x2+a*x3*x3),V.int (x2*x3+x3*x2)]])[H4.length]?=some [.int (x2*x2+a*x3*x3),.int (x2*x3+x3*x2)]:=ai _ _ _
 generalize H4++[[V.int (x2*x2+a*x3*x3),V.int (x2*x3+x3*x2)]]=H5 at *
 have v1:=ao q3 u1
 have t0:Sm 4000065 (x0*x0+a*x1*x1):=Sm.add ((s0.mul s0).mono (by decide)) (((sa.mul s1).mul s1).mono (by decide))
 have t1:Sm 4000065 (x0*x1+x1*x0):=(Sm.add (s0.mul s1) (s1.mul s0)).mono (by decide)
 have t2:Sm 4000065 (x2*x2+a*x3*x3):=Sm.add ((s2.mul s2).mono (by decide)) (((sa.mul s3).mul s3).mono (by decide))
 have t3:Sm 4000065 (x2*x3+x3*x2):=(Sm.add (s2.mul s3) (s3.mul s2)).mono (by decide)
 refine hO v1 ?_
 refine hO u3 ⟨ok7 sb t2,?_⟩
 refine hJ v1 ?_
 refine hJ u3 ⟨ok7 sb t3,?_⟩
 dsimp only[cQ]
 refine tT zT ((Sm.sub (t0.mono (show _<=4000129 by decide)) ((sb.mul t2).mono (by decide))).mono (by decide)) ((Sm.sub (t1.mono (show _<=4000129 by decide)) ((sb.mul t3).mono (by decide))).mono (by decide)) (sa.mono (by decide)) ?_
 exact ⟨IntMulOk.left hl,hQ _ (ad q1 q3)⟩
theorem DU(zT:TT P){m:Nat}{x0 x1 x2 x3 a b:Int}(hm:H[m]?=some [.int x0,.int x1,.int x2,.int x3])
  (s0:Sm 2000000 x0) (s1:Sm 2000000 x1) (s2:Sm 2000000 x2) (s3:Sm 2000000 x3) (sa:Sm 64 a) (sb:Sm 64 b) (hb:0<b)
  (hQ:∀H',H<+:H'->Q (.int (AK x0 x1 x2 x3 a b)) H'):ag sub P (n+3) 47 [.lst m,.int a,.int b] H Q X:=by
 refine aj zT.a47 rfl ?_
 unfold AK at hQ
 have fin:¬ 0<=dJ x0 x1 a*dJ x2 x3 a->wpS sub (ag sub P (n+2)) (fun m=>H.length<=m) (oB 46 48) [some (.lst m),some (.int a),some (.int b),some (.int (dJ x0 x1 a)),some (.int (dJ x2 x3 a*1)),none,none] H (fun _ H'=>Q .none H') Q X:=fun h=>by
  rw[if_neg h] at hQ
  exact AJ zT hm s0 s1 s2 s3 sa sb (rH _ _ _) hQ
 dsimp only[yX]
 revert fin
 generalize oB 46 48=T
 intro fin
 dsimp only[qS1,qS2,qS3,qS9,bC,qE1,qE5,qE8,br,aS,bV,aV,aC,aD,kJ,kP,bZ,aB,az,aw,av,aM,aA,au,aa,ah,aE,Nat.reduceSub]
 refine ix4 hm (.inl ⟨rfl,rfl⟩) ?_
 refine ix4 hm (.inr (.inl ⟨rfl,rfl⟩)) ?_
 refine tT zT (s0.mono (by decide)) (s1.mono (by decide)) (sa.mono (by decide)) ?_
 refine ix4 hm (.inr (.inr (.inl ⟨rfl,rfl⟩))) ?_
 refine ix4 hm (.inr (.inr (.inr ⟨rfl,rfl⟩))) ?_
 refine tT zT (s2.mono (by decide)) (s3.mono (by decide)) (sa.mono (by decide)) ?_
 rw[decide_eq_true hb]
 refine ⟨IntMulOk.left (rH _ _ _),?_⟩
 dsimp only[b9,cD,l9,aU,aa]
 refine ⟨IntMulOk.left (rH _ _ _),?_⟩
 rw[show (dJ x2 x3 a*if true=true then 1 else 0)=dJ x2 x3 a from Id _]
 by_cases h:0<=dJ x0 x1 a*dJ x2 x3 a
 ·rw[decide_eq_true h]
  rw[if_pos h] at hQ
  dsimp only[bw]
  exact nl zT (hQ _ (JV _))
 ·rw[decide_eq_false h]
  rw[Id] at fin
  exact fin h
end
end Mine
namespace Mine
open PySem
open Re
theorem gF{x y z w:V}{H:Hp}{Q:V->Hp->Prop}:d8 (.tup [x,y,z,w]) (.int 0) H Q=Q x H:=rfl
theorem fR{x y z w:V}{H:Hp}{Q:V->Hp->Prop}:d8 (.tup [x,y,z,w]) (.int 1) H Q=Q y H:=rfl
theorem f0{x y z w:V}{H:Hp}{Q:V->Hp->Prop}:d8 (.tup [x,y,z,w]) (.int 2) H Q=Q z H:=rfl
theorem i7{x y z w:V}{H:Hp}{Q:V->Hp->Prop}:d8 (.tup [x,y,z,w]) (.int 3) H Q=Q w H:=rfl
theorem fm{x b:Int}(hb:0<b):0<=x.fmod b/\x.fmod b<b:=⟨J7 x hb,Int.fmod_lt_of_pos x hb⟩
section
variable {sub:Nat->Nat->Bool}{P:List Fn}{n:Nat}{H:Hp}{Q:V->Hp->Prop}{X:Nat->Hp->Prop}
noncomputable abbrev qv (p q r:Int) (d:Nat):V:=.tup [.int p,.int q,.int r,.int (d:Int)]
theorem As(zT:TT P){W:Nat->Prop}{NN:Loc->Hp->Prop}{R:V->Hp->Prop}{Y:Nat->Hp->Prop}{m:Nat}{ns:List Int}{k p q:Int}(hm:H[m]?=some (ns.map .int))(hk:0<=k)
  (p1:-1000000<=p) (p2:p<=1000000) (q0:(1<=q/\q<=6)\/(-6<=q/\q<=-1)) (hQ:∀r d,QD p q r d->R (qv p q r d) H) :
  wpS sub (ag sub P (n+1)) W (kU 35) [some (.lst m),some (.int k),some (.int p),some (.int q),none] H NN R Y:=by
 dsimp only[kU,qS1,qS2,qS3,qS9,qE1,qE5,qE8,aS,dW,aC,aD,b9,aa,ah,aE]
 refine eQ zT (ns:=ns) (by exact oqz [] [k] [(.il 0 Y0)] (.il 0 (Y0+2)) [11] rfl hk) hm ?_
 refine ⟨by decide,?_⟩
 dsimp only[b9]
 refine eQ zT (ns:=ns) (by exact oqz [] [k] [(.il 0 Y0)] (.il 0 (Y0+3)) [11] rfl hk) hm ?_
 refine ⟨(show iK _ by unfold iK;decide),by decide,?_⟩
 have h1:=fm (x:=cP ns (k+2).toNat) (b:=7) (by decide)
 have h2:=fm (x:=(cP ns (k+3).toNat).fdiv 8) (b:=30) (by decide)
 generalize (cP ns (k+2).toNat).fmod 7=x at *
 generalize ((cP ns (k+3).toNat).fdiv 8).fmod 30=y at *
 obtain ⟨d,hd⟩:∃d:Nat,(d:Int)=1+y:=⟨(1+y).toNat,by exact oqz [(1+y).toNat] [y] [(.an (.il 0 Y0) (.il (Y0+1) 30)),(otn (1+Y0) Y0)] (.ie (.c Y0) (1+Y0)) [100001,1001,10001,10011] rfl h2 (aR (1+y))⟩
 have:=hQ (1+x) d ⟨p1,p2,q0,by exact oqz [] [x] [(.an (.il 0 Y0) (.il (Y0+1) 7))] (.il 1 (1+Y0)) [11] rfl h1,by exact oqz [] [x] [(.an (.il 0 Y0) (.il (Y0+1) 7))] (.il (1+Y0) 7) [101] rfl h1,by exact oqz [d] [y] [(.an (.il 0 Y0) (.il (Y0+1) 30)),(.ie (.c Y0) (1+Y0))] (.le 1 Y0) [10011] rfl h2 hd,by exact oqz [d] [y] [(.an (.il 0 Y0) (.il (Y0+1) 30)),(.ie (.c Y0) (1+Y0))] (.le Y0 30) [1101] rfl h2 hd⟩
 unfold qv at this
 rw[hd] at this
 exact this
theorem A8(zT:TT P){W:Nat->Prop}{NN:Loc->Hp->Prop}{R:V->Hp->Prop}{Y:Nat->Hp->Prop}{m:Nat}{ns:List Int}{k p:Int}(hm:H[m]?=some (ns.map .int))(hk:0<=k)
  (p1:-1000000<=p) (p2:p<=1000000) (hQ:∀q r d,QD p q r d->R (qv p q r d) H) :
  wpS sub (ag sub P (n+1)) W (lj 35) [some (.lst m),some (.int k),some (.int p),none,none] H NN R Y:=by
 have fin:∀q,((1<=q/\q<=6)\/(-6<=q/\q<=-1))->wpS sub (ag sub P (n+1)) W (kU 35) [some (.lst m),some (.int k),some (.int p),some (.int q),none] H NN R Y:=fun q h=>As zT hm hk p1 p2 h fun r d=>hQ q r d
 dsimp only[lj]
 revert fin
 generalize kU 35=T
 intro fin
 dsimp only[qS1,qS2,qS3,bC,qE1,qE5,qE8,br,aS,aC,aD,b9,aa,ah,aE]
 refine eQ zT (ns:=ns) (by exact oqz [] [k] [(.il 0 Y0)] (.il 0 (Y0+1)) [11] rfl hk) hm ?_
 refine ⟨by decide,?_⟩
 dsimp only[b9,cQ]
 refine eQ zT (ns:=ns) (by exact oqz [] [k] [(.il 0 Y0)] (.il 0 (Y0+1)) [11] rfl hk) hm ?_
 refine ⟨(show iK _ by unfold iK;decide),by decide,?_⟩
 dsimp only[fA,aU,aa]
 have h1:=fm (x:=cP ns (k+1).toNat) (b:=6) (by decide)
 by_cases hc:((cP ns (k+1).toNat).fdiv 6).fmod 2=1
 ·rw[decide_eq_true hc]
  exact fin _ (.inr (by exact oqz [] [(cP ns (k+1).toNat).fmod 6] [(.an (.il 0 Y0) (.il (Y0+1) 6))] (.an (.il (.g 6) (.s 0 (1+Y0))) (.il (.s 0 (1+Y0)) (.g 1))) [101,11] rfl h1))
 ·rw[decide_eq_false hc]
  exact fin _ (.inl (by exact oqz [] [(cP ns (k+1).toNat).fmod 6] [(.an (.il 0 Y0) (.il (Y0+1) 6))] (.an (.il 1 (1+Y0)) (.il (1+Y0) 6)) [11,101] rfl h1))
theorem wE(zT:TT P){m:Nat}{ns:List Int}{k:Int}(hm:H[m]?=some (ns.map .int))(hk:0<=k)(hQ:∀p q r d,QD p q r d->Q (qv p q r d) H):ag sub P (n+2) 54 [.lst m,.int k] H Q X:=by
 have fin:∀p,-1000000<=p->p<=1000000->wpS sub (ag sub P (n+1)) (fun m=>H.length<=m) (lj 35) [some (.lst m),some (.int k),some (.int p),none,none] H (fun _ H'=>Q .none H') Q X:=fun p h1 h2=>A8 zT hm hk h1 h2 fun q r d=>hQ p q r d
 refine aj zT.a54 rfl ?_
 dsimp only[xH]
 revert fin
 generalize lj 35=T
 intro fin
 dsimp only[qS1,qS2,qS3,bC,qE1,qE5,qE8,br,aS,aC,aD,b9,Gi,aB,az,aw,av,aM,aA,au,aa,ah,aE,Nat.reduceSub]
 refine eQ zT (ns:=ns) (by exact oqz [] [k] [(.il 0 Y0)] (.il 0 Y0) [11] rfl hk) hm ?_
 refine ⟨by decide,?_⟩
 dsimp only[cQ]
 refine eQ zT (ns:=ns) (by exact oqz [] [k] [(.il 0 Y0)] (.il 0 (Y0+3)) [11] rfl hk) hm ?_
 refine ⟨by decide,?_⟩
 dsimp only[fA,aU,aa]
 have h1:=fm (x:=cP ns k.toNat) (b:=19) (by decide)
 have h2:=fm (x:=cP ns k.toNat) (b:=2000001) (by decide)
 by_cases hc:(cP ns (k+3).toNat).fmod 8=1
 ·rw[decide_eq_true hc]
  dsimp only[bw]
  refine eQ zT (ns:=ns) (by exact oqz [] [k] [(.il 0 Y0)] (.il 0 Y0) [11] rfl hk) hm ?_
  refine ⟨by decide,by decide,by decide,by decide,?_⟩
  show wpS _ _ _ T [_,_,some (.int ((cP ns k.toNat).fmod 2000001-1000000)),_,_] _ _ _ _
  exact fin _ (by exact oqz [] [(cP ns k.toNat).fmod 2000001] [(.an (.il 0 Y0) (.il (Y0+1) 2000001))] (.il (.g 1000000) (.s Y0 1000000)) [11] rfl h2) (by exact oqz [] [(cP ns k.toNat).fmod 2000001] [(.an (.il 0 Y0) (.il (Y0+1) 2000001))] (.il (.s Y0 1000000) 1000000) [101] rfl h2)
 ·rw[decide_eq_false hc]
  exact fin _ (by exact oqz [] [(cP ns k.toNat).fmod 19] [(.an (.il 0 Y0) (.il (Y0+1) 19))] (.il (.g 1000000) (.s Y0 9)) [11] rfl h1) (by exact oqz [] [(cP ns k.toNat).fmod 19] [(.an (.il 0 Y0) (.il (Y0+1) 19))] (.il (.s Y0 9) 1000000) [101] rfl h1)
theorem QD.negq{p q r:Int}{d:Nat}(h:QD p q r d):QD p (0-q) r d:=⟨h.p1,h.p2,by have:=h.q0;exact oqz [] [q] [(.or (.an (.il 1 Y0) (.il Y0 6)) (.an (.il (.g 6) Y0) (.il Y0 (.g 1))))] (.or (.an (.il 1 (.s 0 Y0)) (.il (.s 0 Y0) 6)) (.an (.il (.g 6) (.s 0 Y0)) (.il (.s 0 Y0) (.g 1)))) [1010,110,1001,101] rfl this,h.r1,h.r2,h.d1,h.d2⟩
theorem QD.negp{p q r:Int}{d:Nat}(h:QD p q r d):QD (0-p) q r d:=⟨by have:=h.p2;exact oqz [] [p] [(.il Y0 1000000)] (.il (.g 1000000) (.s 0 Y0)) [11] rfl this,by have:=h.p1;exact oqz [] [p] [(.il (.g 1000000) Y0)] (.il (.s 0 Y0) 1000000) [11] rfl this,h.q0,h.r1,h.r2,h.d1,h.d2⟩
section
variable {Φ:Call}{W:Nat->Prop}{NN:Loc->Hp->Prop}{R:V->Hp->Prop}{Y:Nat->Hp->Prop}{p q r p' q' r':Int}{d d':Nat}{v:V}{way:Int}
theorem FG(h1:QD p q r d)(h2:QD p' q' r' d')(hQ:∀p' q' r' d',QD p' q' r' d'->R (.tup [qv p q r d,qv p' q' r' d']) H):wpS sub Φ W xm [some v,some (qv p q r d),some (qv p' q' r' d'),some (.int way)] H NN R Y:=by
 have fin:∀ {p' q' r' d'},QD p' q' r' d'->wpS sub Φ W EC [some v,some (qv p q r d),some (qv p' q' r' d'),some (.int way)] H NN R Y:=fun h=>hQ _ _ _ _ h
 dsimp only[xm]
 revert fin
 generalize EC=T
 intro fin
 dsimp only[qS1,qS2,qS3,bC,qE1,qE5,br,aV,dW,aC,aD,fA,aU,aa,ah,aE,gF,fR,f0,i7]
 by_cases hc:way=5
 ·rw[decide_eq_true hc];exact fin h1
 ·rw[decide_eq_false hc];exact fin h2
theorem Gs(h1:QD p q r d)(h2:QD p' q' r' d')(hQ:∀p' q' r' d',QD p' q' r' d'->R (.tup [qv p q r d,qv p' q' r' d']) H):wpS sub Φ W yA [some v,some (qv p q r d),some (qv p' q' r' d'),some (.int way)] H NN R Y:=by
 have fin:∀ {p' q' r' d'},QD p' q' r' d'->wpS sub Φ W xm [some v,some (qv p q r d),some (qv p' q' r' d'),some (.int way)] H NN R Y:=fun h=>FG h1 h hQ
 have h3:QD p' q' r' d:=⟨h2.p1,h2.p2,h2.q0,h2.r1,h2.r2,h1.d1,h1.d2⟩
 dsimp only[yA]
 revert fin
 generalize xm=T
 intro fin
 dsimp only[qS1,qS2,qS3,bC,qE1,qE5,br,l7,aV,dW,aC,aD,cF,fA,aU,aa,ah,aE,gF,fR,f0,i7]
 by_cases hc:way=3
 ·rw[decide_eq_true hc];exact fin h3
 ·rw[decide_eq_false hc]
  by_cases hc:way=4
  ·rw[decide_eq_true hc];exact fin h3
  ·rw[decide_eq_false hc];exact fin h2
theorem Go(h1:QD p q r d)(h2:QD p' q' r' d')(hQ:∀p' q' r' d',QD p' q' r' d'->R (.tup [qv p q r d,qv p' q' r' d']) H):wpS sub Φ W wk [some v,some (qv p q r d),some (qv p' q' r' d'),some (.int way)] H NN R Y:=by
 have fin:∀ {p' q' r' d'},QD p' q' r' d'->wpS sub Φ W yA [some v,some (qv p q r d),some (qv p' q' r' d'),some (.int way)] H NN R Y:=fun h=>Gs h1 h hQ
 dsimp only[wk]
 revert fin
 generalize yA=T
 intro fin
 dsimp only[qS1,qS2,qS3,bC,qE1,qE5,qE8,br,aV,dW,aC,aD,cQ,fA,aU,aa,ah,aE,gF,fR,f0,i7]
 by_cases hc:way=2
 ·rw[decide_eq_true hc];exact fin h1.negq
 ·rw[decide_eq_false hc];exact fin h2
theorem F9(h1:QD p q r d)(h2:QD p' q' r' d')(hQ:∀p' q' r' d',QD p' q' r' d'->R (.tup [qv p q r d,qv p' q' r' d']) H):wpS sub Φ W CX [some v,some (qv p q r d),some (qv p' q' r' d'),some (.int way)] H NN R Y:=by
 have fin:∀ {p' q' r' d'},QD p' q' r' d'->wpS sub Φ W wk [some v,some (qv p q r d),some (qv p' q' r' d'),some (.int way)] H NN R Y:=fun h=>Go h1 h hQ
 dsimp only[CX]
 revert fin
 generalize wk=T
 intro fin
 dsimp only[qS1,qS2,qS3,bC,qE1,qE5,qE8,br,aV,dW,aC,aD,cQ,fA,aU,aa,ah,aE,gF,fR,f0,i7]
 by_cases hc:way=1
 ·rw[decide_eq_true hc];exact fin h1.negq.negp
 ·rw[decide_eq_false hc];exact fin h2
end
theorem GJ(zT:TT P){m:Nat}{ns:List Int}(hm:H[m]?=some (ns.map .int))(hQ:∀p q r d p' q' r' d',QD p q r d->QD p' q' r' d'->Q (.tup [qv p q r d,qv p' q' r' d']) H):ag sub P (n+3) 55 [.lst m] H Q X:=by
 refine aj zT.a55 rfl ?_
 dsimp only[bTq,qS2,qS3,qE1,qE5,qE8,aS,aC,aD,aB,az,aw,av,aM,aA,au,aa,ah,aE,Nat.reduceSub]
 refine wE zT hm (by decide) fun p q r d h1=>?_
 refine wE zT hm (by decide) fun p' q' r' d' h2=>?_
 refine eQ zT (by decide) hm ⟨by decide,?_⟩
 exact F9 h1 h2 fun p' q' r' d' h=>hQ _ _ _ _ _ _ _ _ h1 h
end
end Mine
namespace Mine
open PySem
open Re
noncomputable abbrev pvv (row:List Int) (p1 q1 p2 q2:Int):V:=.tup [.tup (row.map .int),pt p1 q1,pt p2 q2]
theorem dE{k:Nat}{x c:Int}(h1:-c<=x)(h2:x<=c)(hc:Sm k c):Sm k x:=by unfold Sm at *;exact oqz [x.natAbs,2^k,c.natAbs] [x,c] [(.il (.g Y1) Y0),(.il Y0 Y1),(.le (Y2+1) Y1),(.an (.il Y1 (.c Y2)) (.il (.g Y1) (.c Y2))),(ona Y0 Y0)] (.le (Y0+1) Y1) [10011101,10011011] rfl h1 h2 hc (bo (c)) (bm (x))
structure QE (p q r:Int)(d:Nat)(A L U p1 q1 p2 q2:Int):Prop where
 A1:1<=A
 A6:A<=6
 Ad:(d:Int)<A*A
 or:(0<q/\L=p/\U=p+q*A)\/(q<0/\L=p+q*A/\U=p)
 l1:Low 40 p1 q1
 e1:p1*r=L*q1
 l2:Low 40 p2 q2
 e2:p2*r=U*q2
structure QP (p q r:Int)(d:Nat)(row:List Int)(g A L U p1 q1 p2 q2:Int):Prop where
 qd:QD p q r d
 qe:QE p q r d A L U p1 q1 p2 q2
 hg:g≠0
 e:smul g row=[p*p-q*q*d,-2*p*r,r*r]
 tr:Tr row
 sm:AllSm 60 row
 one:bn row 0=1
 la:∃l,row.getLast?=some l/\0<l
theorem QD.qA{p q r A:Int}{d:Nat}(h:QD p q r d)(hA:1<=A)(hA6:A<=6):(0<q->0<q*A/\q*A<=36)/\(q<0->-36<=q*A/\q*A<0):=by
 constructor
 ·intro hq
  have h2:q<=6:=by have:=h.q0;exact oqz [] [q] [(.or (.an (.il 1 Y0) (.il Y0 6)) (.an (.il (.g 6) Y0) (.il Y0 (.g 1))))] (.il Y0 6) [101] rfl this
  have i1:=Int.mul_le_mul h2 hA6 (by exact oqz [] [A] [(.il 1 Y0)] (.il 0 Y0) [11] rfl hA) (by exact oqz [] [] [] (.il 0 6) [1] rfl)
  exact ⟨HG hq (by exact oqz [] [A] [(.il 1 Y0)] (.il (0+1) Y0) [11] rfl hA),i1⟩
 ·intro hq
  have h2:-q<=6:=by have:=h.q0;exact oqz [] [q] [(.or (.an (.il 1 Y0) (.il Y0 6)) (.an (.il (.g 6) Y0) (.il Y0 (.g 1))))] (.il (.g Y0) 6) [11] rfl this
  have i1:=Int.mul_le_mul h2 hA6 (by exact oqz [] [A] [(.il 1 Y0)] (.il 0 Y0) [11] rfl hA) (by exact oqz [] [] [] (.il 0 6) [1] rfl)
  have i2:=HG (show 0 < -q by exact oqz [] [q] [(.il (Y0+1) 0)] (.il (0+1) (.g Y0)) [11] rfl hq) (show 0<A by exact oqz [] [A] [(.il 1 Y0)] (.il (0+1) Y0) [11] rfl hA)
  rw[Iy] at i1 i2
  exact oqz [] [q*A] [(.il (.g Y0) (.m 6 6)),(.il (0+1) (.g Y0))] (.an (.il (.g 36) Y0) (.il (Y0+1) 0)) [11,101] rfl i1 i2
section
variable {p q r:Int}{d:Nat}{row:List Int}{g A L U p1 q1 p2 q2:Int}
theorem QP.len(h:QP p q r d row g A L U p1 q1 p2 q2):row.length=3:=by
 have hl:=bJ (c:=g) (xs:=row)
 rw[h.e] at hl;exact hl.symm
theorem QP.ends(h:QP p q r d row g A L U p1 q1 p2 q2):rq L r<qal p q r d/\qal p q r d<rq U r/\Out (rq L r) (rq U r) (2*rq p r-qal p q r d):=by
 have hA:aW d<A:=to (by have:=h.qe.A1;exact oqz [] [A] [(.il 1 Y0)] (.il 0 Y0) [11] rfl this) h.qe.Ad
 rcases h.qe.or with ⟨hq,rfl,rfl⟩ | ⟨hq,rfl,rfl⟩
 ·exact h.qd.up hq hA
 ·exact h.qd.dn hq hA
theorem QP.LU(h:QP p q r d row g A L U p1 q1 p2 q2):(-1000036<=L/\U<=1000036)/\L<=U/\U-L<=36:=by
 have b1:=h.qd.p1
 have b2:=h.qd.p2
 obtain ⟨k1,k2⟩:=h.qd.qA h.qe.A1 h.qe.A6
 rcases h.qe.or with ⟨hq,rfl,rfl⟩ | ⟨hq,rfl,rfl⟩
 ·have:=k1 hq;exact oqz [] [L,q*A] [(.il (.g 1000000) Y0),(.il Y0 1000000),(.an (.il (0+1) Y1) (.il Y1 36))] (.an (.an (.il (.g 1000036) Y0) (.il (Y0+Y1) 1000036)) (.an (.il Y0 (Y0+Y1)) (.il (.s (Y0+Y1) Y0) 36))) [11,10101,1001,10001] rfl b1 b2 this
 ·have:=k2 hq;exact oqz [] [U,q*A] [(.il (.g 1000000) Y0),(.il Y0 1000000),(.an (.il (.g 36) Y1) (.il (Y1+1) 0))] (.an (.an (.il (.g 1000036) (Y0+Y1)) (.il Y0 1000036)) (.an (.il (Y0+Y1) Y0) (.il (.s Y0 (Y0+Y1)) 36))) [1011,101,10001,1001] rfl b1 b2 this
theorem QP.mkpd(h:QP p q r d row g A L U p1 q1 p2 q2){row':List Int}(rp:RP row' (rq L r) (rq U r) (qal p q r d))(tr:Tr row')(ln:row'.length<=4)(sm:AllSm 200 row'):PD row' r (qal p q r d) (rq L r) (rq U r) p1 q1 p2 q2 0:=by
 have r1:=h.qd.r1
 have r2:=h.qd.r2
 refine gf (h.LU) fun zq117 k3 k4=>?_;obtain ⟨k1,k2⟩:=zq117
 exact GE rp tr ln sm r1 (Il r2 (by decide)) (Il (by decide) k1) k3 (Il k2 (by decide)) (by exact om [] [U,L,r] [(.il 1 Y2),(.il (.s Y0 Y1) 36)] (.il (.s Y0 Y1) (.r Y2 64)) [[1,64,1]] rfl r1 k4) h.qe.l1 h.qe.e1 h.qe.l2 h.qe.e2
theorem QP.pd(h:QP p q r d row g A L U p1 q1 p2 q2):PD row r (qal p q r d) (rq L r) (rq U r) p1 q1 p2 q2 0:=by
 have hr:0<r:=by have:=h.qd.r1;exact oqz [] [r] [(.il 1 Y0)] (.il (0+1) Y0) [11] rfl this
 refine gf (h.ends) fun a1 a2 a3=>?_
 exact h.mkpd (zP hr h.hg h.e (gw hr) a1 a2 a3) h.tr (by rw[h.len];decide) (h.sm.mono (by decide))
end
section
variable {sub:Nat->Nat->Bool}{P:List Fn}{n:Nat}{H:Hp}{Q:V->Hp->Prop}{X:Nat->Hp->Prop}
theorem AG(zT:TT P){W:Nat->Prop}{NN:Loc->Hp->Prop}{R:V->Hp->Prop}{Y:Nat->Hp->Prop}{p q r A:Int}{d:Nat}{x:V}(h:QD p q r d)(hA:1<=A)(hA6:A<=6)(hd:(d:Int)<A*A)
  (hQ:∀L U p1 q1 p2 q2,QE p q r d A L U p1 q1 p2 q2->R (.tup [pt p1 q1,pt p2 q2]) H) :
  wpS sub (ag sub P (n+2)) W (pZ 37) [some (.int p),some (.int q),some (.int r),some x,some (.int A)] H NN R Y:=by
 obtain ⟨k1,k2⟩:=h.qA hA hA6
 have b1:=h.p1
 have b2:=h.p2
 have r1:=h.r1
 have c40:Sm 40 (2000000:Int):=by unfold Sm;decide
 have sp:Sm 40 p:=dE (by exact oqz [] [p] [(.il (.g 1000000) Y0)] (.il (.g 2000000) Y0) [11] rfl b1) (by exact oqz [] [p] [(.il Y0 1000000)] (.il Y0 2000000) [11] rfl b2) c40
 have sr:Sm 40 r:=dE (by exact oqz [] [r] [(.il 1 Y0)] (.il (.g 2000000) Y0) [11] rfl r1) (Il h.r2 (by decide)) c40
 have sA:Sm 64 A:=(dE (by exact oqz [] [A] [(.il 1 Y0)] (.il (.g 2000000) Y0) [11] rfl hA) (Il hA6 (by decide)) c40).mono (by decide)
 dsimp only[pZ,qS1,qS2,qS9,bC,qE1,qE5,qE8,br,aS,dW,aC,aD,b9,cD,kJ,aU,aa,ah]
 by_cases hq:0<q
 ·rw[decide_eq_true hq]
  have sU:Sm 40 (p+q*A):=by have:=k1 hq;exact dE (by exact oqz [] [p,q*A] [(.il (.g 1000000) Y0),(.an (.il (0+1) Y1) (.il Y1 36))] (.il (.g 2000000) (Y0+Y1)) [111] rfl b1 this) (by exact oqz [] [p,q*A] [(.il Y0 1000000),(.an (.il (0+1) Y1) (.il Y1 36))] (.il (Y0+Y1) 2000000) [1011] rfl b2 this) c40
  dsimp only[bw]
  refine zW zT (by exact oqz [] [r] [(.il 1 Y0)] (.il (0+1) Y0) [11] rfl r1) sp sr (by decide) fun p1 q1 l1 e1=>?_
  refine ⟨IntMulOk.right sA,?_⟩
  refine zW zT (by exact oqz [] [r] [(.il 1 Y0)] (.il (0+1) Y0) [11] rfl r1) sU sr (by decide) fun p2 q2 l2 e2=>?_
  exact hQ _ _ _ _ _ _ ⟨hA,hA6,hd,.inl ⟨hq,rfl,rfl⟩,l1,e1,l2,e2⟩
 ·rw[decide_eq_false hq]
  have hq':q<0:=by have:=h.q0;exact oqz [] [q] [(.no (.il (0+1) Y0)),(.or (.an (.il 1 Y0) (.il Y0 6)) (.an (.il (.g 6) Y0) (.il Y0 (.g 1))))] (.il (Y0+1) 0) [110,1001] rfl hq this
  have sU:Sm 40 (p+q*A):=by have:=k2 hq';exact dE (by exact oqz [] [p,q*A] [(.il (.g 1000000) Y0),(.an (.il (.g 36) Y1) (.il (Y1+1) 0))] (.il (.g 2000000) (Y0+Y1)) [111] rfl b1 this) (by exact oqz [] [p,q*A] [(.il Y0 1000000),(.an (.il (.g 36) Y1) (.il (Y1+1) 0))] (.il (Y0+Y1) 2000000) [1011] rfl b2 this) c40
  refine ⟨IntMulOk.right sA,?_⟩
  refine zW zT (by exact oqz [] [r] [(.il 1 Y0)] (.il (0+1) Y0) [11] rfl r1) sU sr (by decide) fun p1 q1 l1 e1=>?_
  refine zW zT (by exact oqz [] [r] [(.il 1 Y0)] (.il (0+1) Y0) [11] rfl r1) sp sr (by decide) fun p2 q2 l2 e2=>?_
  exact hQ _ _ _ _ _ _ ⟨hA,hA6,hd,.inr ⟨hq',rfl,rfl⟩,l1,e1,l2,e2⟩
noncomputable def uM(H:Hp)(a b c e:V)(n:Nat)(ρ:Loc)(H':Hp):Prop:=H'=H/\∃A:Int,(n:Int)+A=6/\1<=A/\ρ=[some a,some b,some c,some e,some (.int A)]
theorem E7(zT:TT P){p q r:Int}{d:Nat}(h:QD p q r d)
  (hQ:∀A L U p1 q1 p2 q2,QE p q r d A L U p1 q1 p2 q2->Q (.tup [pt p1 q1,pt p2 q2]) H):ag sub P (n+3) 52 [.int p,.int q,.int r,.int (d:Int)] H Q X:=by
 refine aj zT.a52 rfl ?_
 have fin:∀A,1<=A->A<=6->(d:Int)<A*A->wpS sub (ag sub P (n+2)) (fun m=>H.length<=m) (pZ 37) [some (.int p),some (.int q),some (.int r),some (.int (d:Int)),some (.int A)] H (fun _ H'=>Q .none H') Q X:=fun A h1 h2 h3=>AG zT h h1 h2 h3 fun L U p1 q1 p2 q2 o=>hQ A L U p1 q1 p2 q2 o
 dsimp only[zd]
 revert fin
 generalize pZ 37=T
 intro fin
 dsimp only[qS2,qS3,lr,qE1,aB,az,aw,av,aM,aA,au,aE,Nat.reduceSub]
 refine ⟨fun ρ H'=>∃n,uM H (.int p) (.int q) (.int r) (.int (d:Int)) n ρ H',muI (uM H (.int p) (.int q) (.int r) (.int (d:Int))),⟨5,rfl,1,rfl,by decide,rfl⟩,?_⟩
 intro ρ H' hex
 have hI:=nQ hex
 generalize muI (uM H (.int p) (.int q) (.int r) (.int (d:Int))) ρ H'=nn at *
 obtain ⟨rfl,A,hn,hA,rfl⟩:=hI
 dsimp only[CD,qE5,qE8,br,cD,vE,aU,aa,ah]
 have hA6:A<=6:=oqz [nn] [A] [(.ie (.a (.c Y0) Y0) 6)] (.il Y0 6) [11] rfl hn
 refine ⟨IntMulOk.left (dE (c:=6) (by exact oqz [] [A] [(.il 1 Y0)] (.il (.g 6) Y0) [11] rfl hA) hA6 (by unfold Sm;decide)),?_⟩
 by_cases hc:A*A<=(d:Int)
 ·rw[decide_eq_true hc]
  have hA5:A<=5:=JG.mp fun hl=>by
   have:=Int.mul_le_mul (show 6<=A by exact oqz [] [A] [(.il (5+1) Y0)] (.il 6 Y0) [11] rfl hl) (show 6<=A by exact oqz [] [A] [(.il (5+1) Y0)] (.il 6 Y0) [11] rfl hl) (by decide) (by exact oqz [] [A] [(.il 1 Y0)] (.il 0 Y0) [11] rfl hA)
   have:=h.d2
   (clear h hQ fin hn hA hex hA6 hl;omega)
  dsimp only[Cw,qS1,qS2,qS3,qE1,qE5,qE8,b9,bw,aa,ah,aE]
  have hN:uM H' (.int p) (.int q) (.int r) (.int (d:Int)) (nn-1) [some (.int p),some (.int q),some (.int r),some (.int (d:Int)),some (.int (A+1))] H':=⟨rfl,A+1,by exact oqz [nn-1,nn] [A] [(.ie (.a (.c Y1) Y0) 6),(.il Y0 5),(osb Y1 1 Y0)] (.ie (.a (.c Y0) (Y0+1)) 6) [100101,10101,1000011,101001] rfl hn hA5 (am (nn) (1)),by exact oqz [] [A] [(.il 1 Y0)] (.il 1 (Y0+1)) [11] rfl hA,rfl⟩
  exact ⟨⟨_,hN⟩,HT (n8 hN) (by exact oqz [nn-1,nn] [A] [(.ie (.a (.c Y1) Y0) 6),(.il Y0 5),(osb Y1 1 Y0)] (.le (Y0+1) Y1) [1000001,101101] rfl hn hA5 (am (nn) (1)))⟩
 ·rw[decide_eq_false hc]
  exact fin A hA hA6 (IT.mp hc)
theorem QD.sm64{p q r:Int}{d:Nat}(h:QD p q r d):Sm 64 p/\Sm 64 q/\Sm 64 r/\Sm 64 (d:Int):=by
 have c6:Sm 64 (1000000:Int):=by unfold Sm;decide
 have b1:=h.p1
 have b2:=h.p2
 have q0:=h.q0
 have d2:=h.d2
 have r1:=h.r1
 have r2:=h.r2
 exact ⟨dE b1 b2 c6,dE (by exact oqz [] [q] [(.or (.an (.il 1 Y0) (.il Y0 6)) (.an (.il (.g 6) Y0) (.il Y0 (.g 1))))] (.il (.g 1000000) Y0) [11] rfl q0) (by exact oqz [] [q] [(.or (.an (.il 1 Y0) (.il Y0 6)) (.an (.il (.g 6) Y0) (.il Y0 (.g 1))))] (.il Y0 1000000) [101] rfl q0) c6,dE (by exact oqz [] [r] [(.il 1 Y0)] (.il (.g 1000000) Y0) [11] rfl r1) (by exact oqz [] [r] [(.il Y0 7)] (.il Y0 1000000) [11] rfl r2) c6,dE (by exact oqz [d] [] [] (.il (.g 1000000) (.c Y0)) [1] rfl) (by exact oqz [d] [] [(.le Y0 30)] (.il (.c Y0) 1000000) [11] rfl d2) c6⟩
theorem QD.row_sm{p q r:Int}{d:Nat}(h:QD p q r d):AllSm 60 [p*p-q*q*d,-2*p*r,r*r]:=by
 have b1:=h.p1
 have b2:=h.p2
 have r1:=h.r1
 have r2:=h.r2
 have d2:=h.d2
 have q0:=h.q0
 have sp:Sm 20 p:=by
  unfold Sm;have:(2:Nat)^20=1048576:=by decide
  exact oqz [p.natAbs] [p] [(.il (.g 1000000) Y0),(.il Y0 1000000),(ona Y0 Y0)] (.le (Y0+1) 1048576) [10101,10011] rfl b1 b2 (bm (p))
 have sq:Sm 4 q:=by unfold Sm;exact oqz [q.natAbs] [q] [(.or (.an (.il 1 Y0) (.il Y0 6)) (.an (.il (.g 6) Y0) (.il Y0 (.g 1)))),(ona Y0 Y0)] (.le (Y0+1) 16) [10101,10011] rfl q0 (bm (q))
 have sr:Sm 4 r:=by unfold Sm;exact oqz [r.natAbs] [r] [(.il 1 Y0),(.il Y0 7),(ona Y0 Y0)] (.le (Y0+1) 16) [10101,10011] rfl r1 r2 (bm (r))
 have sd:Sm 5 (d:Int):=by unfold Sm;exact oqz [(↑d:Int).natAbs,d] [] [(.le Y1 30),(ona (.c Y1) Y0)] (.le (Y0+1) 32) [1011] rfl d2 (bm ((↑d:Int)))
 have s2:Sm 2 (-2:Int):=by unfold Sm;decide
 exact .cons ((Sm.sub ((sp.mul sp).mono (show 20+20<=50 by decide)) (((sq.mul sq).mul sd).mono (by decide))).mono (by decide)) (.cons (((s2.mul sp).mul sr).mono (by decide)) (.cons ((sr.mul sr).mono (by decide)) .nil))
theorem Fb{Φ:Call}(g:Int)(ρ:Loc)(H':Hp)(Z:V->Hp->Prop)(hg:ah ρ 1=some (.int g))(hz:Z (.int (-g)) H'):wpE sub Φ ngL ρ H' Z:=by
 dsimp only[ngL,qE1,qE5,qE8]
 refine ifSome.mk hg ?_
 show Z (.int (0-g)) H'
 rw[Int.zero_sub];exact hz
theorem yl(zT:TT P){p q r:Int}{d:Nat}(h:QD p q r d)
  (hQ:∀H' row g A L U p1 q1 p2 q2,H<+:H'->QP p q r d row g A L U p1 q1 p2 q2->Q (pvv row p1 q1 p2 q2) H'):ag sub P (n+4) 53 [.int p,.int q,.int r,.int (d:Int)] H Q X:=by
 refine aj zT.a53 rfl ?_
 dsimp only[yY,qS1,qS2,qS3,qS9,qE1,qE5,qE8,qE9,aS,bV,aV,dW,g7,aC,aD,cQ,cD,kj,aB,az,aw,av,aM,aA,au,aa,ah,aE,Nat.reduceSub]
 refine E7 zT h fun A L U p1 q1 p2 q2 qe=>?_
 refine cv (h.sm64) fun sp sq sr sd=>?_
 have r1:=h.r1
 refine ⟨IntMulOk.left sp,IntMulOk.left sq,IntMulOk.right sd,IntMulOk.right sp,IntMulOk.right sr,IntMulOk.left sr,?_⟩
 have hl:[p*p-q*q*(d:Int),-2*p*r,r*r].getLast?=some (r*r):=rfl
 have hr0:r*r≠0:=It (by exact oqz [] [r] [(.il 1 Y0)] (.no (.ie Y0 0)) [101] rfl r1) (by exact oqz [] [r] [(.il 1 Y0)] (.no (.ie Y0 0)) [101] rfl r1)
 have hmem:=HD hl
 refine jG (n:=n+2) (ng:=ngL) Fb zT.a38 (fun a b H' Z X' hz=>uQ zT hz) (v:=.lst H.length) (row:=[p*p-q*q*(d:Int),-2*p*r,r*r]) (ai _ _ _) hl hr0 (by simp) ?_
 dsimp only[bu,bT,d6]
 refine ifSome.mk (ai _ _ _) ?_
 exact hQ _ _ _ A L U _ _ _ _ (ad (af _ _) (af _ _)) ⟨h,qe,e7 hmem hr0,eE,qS hl hr0,fL hmem hr0 h.row_sm,eI hmem hr0,⟨_,bD hl,cM hmem hr0⟩⟩
end
end Mine
namespace Mine
open Re
noncomputable def evl:List Re->Re->Re
 | [],_=>0
 |c::r,t=>c+t*evl r t
theorem eF(c:Re)(r:List Re)(t:Re):evl (c::r) t=c+t*evl r t:=rfl
theorem zk:∀xs:List Re,PR xs.length (evl xs)
 | []=>fun _=>rfl
 |c::xs=>⟨c,evl xs,zk xs,fun _=>rfl⟩
theorem kl:∀ {n:Nat}{f:Re->Re}{rs:List Re},PR n f->rs.length=n->rs.Pairwise (·≠·)->(∀r∈rs,f r=0)->∀t,f t=0
 |0,f,rs,hf,_,_,_=>hf
 |n+1,f,[],_,hl,_,_=>nomatch hl
 |n+1,f,r::rs,hf,hl,hp,h=>fun t=>by
  refine ac (hf.fac r) fun g hg e=>?_
  have h0:=h r (.head _)
  have hp':=JK.mp hp
  have:=kl hg (IW hl) hp'.2 (fun x hx=>bE (x:=x-r) (by have:=e x;rw[h x (.tail _ hx),h0] at this;grind) (fun k=>hp'.1 x hx (by grind))) t
  rw[e,h0,this];grind
noncomputable def pts(n:Nat):List Re:=(List.range n).map fun (k:Nat)=>(((k:Int)+1:Int):Re)
theorem xJ(n:Nat):(pts n).Pairwise (·≠·):=by
 refine JA.mpr (List.nodup_range.imp fun h e=>h ?_)
 have:=ft e;exact oqz [_,_] [] [(.ie (.a (.c Y0) 1) (.a (.c Y1) 1))] (.eq Y0 Y1) [101,11] rfl this
theorem oT:∀ {xs:List Re},(∀n:Int,0<n->evl xs n=0)->∀x∈xs,x=0
 | [],_,_,hx=>nomatch hx
 |c::xs,h,x,hx=>by
  have h0:∀t,evl (c::xs) t=0:=kl (zk _) (by simp[pts]) (xJ (xs.length+1)) (fun r hr=>by
   refine ac (HP.mp hr) fun k _ zq142=>?_;subst zq142
   exact h _ (by exact oqz [k] [] [] (.il (0+1) (.a (.c Y0) 1)) [1] rfl))
  have hc:c=0:=by have:=h0 0;rw[eF] at this;grind
  rcases HM.mp hx with rfl|hx
  ·exact hc
  ·exact oT (fun n hn=>bE (x:=(n:Re)) (by have:=h n hn;rw[eF,hc] at this;grind) (ci hn)) x hx
noncomputable def iz(a b:Re):Re->List Re->List Re
 |c,[]=>[c]
 |c,x::r=>(c+x*a)::iz a b (x*b) r
theorem iG(a b c x:Re)(r:List Re):iz a b c (x::r)=(c+x*a)::iz a b (x*b) r:=rfl
theorem uA(a b c:Re):iz a b c []=[c]:=rfl
theorem pK(a b t:Re):∀ (xs:List Re) (c:Re),evl (iz a b c xs) t=c+(a+b*t)*evl xs t
 | [],c=>by show c+t*0=c+(a+b*t)*0;grind
 |x::r,c=>by rw[iG,eF,eF,pK a b t r];grind
theorem pR{a b:Re}:∀ {xs:List Re}{c:Re},(iz a b c xs).length=xs.length+1
 | [],_=>rfl
 |x::r,c=>by rw[iG,List.length_cons,List.length_cons,pR]
noncomputable def UpR(xs:List Re):Prop:=xs.Pairwise fun x y=>0<x->0<=y
theorem ll{x a:Re}(h:0<x*a)(ha:0<a):0<x:=by
 refine JI.mp fun hx=>?_
 have:=ae (show 0<=-x by grind) (Hu ha)
 grind
structure UpL (n:Nat)(m:Re)(M:List Re):Prop where
 up:UpR (m::M)
 m0:m<0
 la:∃z,M.getLast?=some z/\0<z
 ln:M.length=n+1
theorem Au:∀ {L:List Int}{M:List Re}{k:Re},L.length=M.length->(∀n:Int,0<n->evR L n=k*evl M n)->L.map (fun x:Int=>(x:Re))=M.map (k*·):=fun {L M k} hl h=>by
 have z:∀ (L:List Int) (M:List Re) (t:Re),L.length=M.length->evl (List.zipWith (fun (x:Int) m=>(x:Re)-k*m) L M) t=evR L t-k*evl M t:=by
  intro L
  induction L with
  |nil=>intro M t hl;cases M with
   |nil=>show (0:Re)=0-k*0;grind
   |cons _ _=>cases hl
  |cons x L ih=>intro M t hl;cases M with
   |nil=>cases hl
   |cons m M=>rw[List.zipWith_cons_cons,eF,eF,aO,ih M t (IW hl)];grind
 have z0:=oT (xs:=List.zipWith (fun (x:Int) m=>(x:Re)-k*m) L M) fun n hn=>by rw[z L M _ hl,h n hn];grind
 clear z h
 induction L generalizing M with
 |nil=>cases M with
  |nil=>rfl
  |cons _ _=>cases hl
 |cons x L ih=>cases M with
  |nil=>cases hl
  |cons m M =>
   rw[Hw,Hw,ih (IW hl) fun y hy=>z0 y (.tail _ hy)]
   have:=z0 _ (.head _)
   rw[show (x:Re)=k*m by grind]
theorem Dx{L:List Int}{n:Nat}{m k:Re}{M:List Re}(u:UpL n m M)(hk:0<k)(e:L.map (fun x:Int=>(x:Re))=(m::M).map (k*·)):tv 0 L=1:=by
 cases L with
 |nil=>cases e
 |cons x r =>
  rw[Hw,Hw] at e
  obtain ⟨e1,e2⟩:=Kn e
  have hx:x<0:=nx (by rw[e1,ax];have:=mul_pos hk (show 0 < -m by have:=u.m0;grind);grind)
  refine ac (u.la) fun z hz z0=>?_
  have hl:=congrArg List.getLast? e2
  rw[Ji,Ji,hz] at hl
  refine ac (Jl.mp hl) fun y hy ey=>?_
  have h0:0<y:=nx (by rw[ey,ax];exact mul_pos hk z0)
  have hu:Up r:=by
   have h1:UpR (M.map (k*·)):=JA.mpr ((JK.mp u.up).2.imp fun {a b} h g=>ae (Hu hk) (h (ll (x:=a) (a:=k) (by grind) hk)))
   rw[<- e2] at h1
   exact (JA.mp h1).imp fun {a b} h g=>ik (by rw[ax];exact h (by rw[<- ax];exact jy g))
  rw[lG,IL,if_neg (by decide),if_neg (by exact oqz [] [x] [(.il (Y0+1) 0)] (.no (.ie Y0 0)) [110] rfl hx),IK]
  exact lU hx hu hy h0
noncomputable def PX(f:Re->Re):Prop:=∃n,PR n f
theorem PR.mono{f:Re->Re}{n:Nat}(h:PR n f):∀k,PR (n+k) f
 |0=>h
 |k+1=>(PR.mono h k).up
theorem PX.lin{f g:Re->Re}(r:Re)(hf:PX f)(hg:PX g):PX fun t=>f t+r*g t:=by
 obtain ⟨n,hf⟩:=hf
 obtain ⟨m,hg⟩:=hg
 exact ⟨n+m,PR.lin r (hf.mono m) (IM m n ▸ hg.mono n)⟩
theorem PX.const(c:Re):PX fun _=>c:=⟨1,c,fun _=>0,fun _=>rfl,fun t=>by grind⟩
theorem PX.tmul{f:Re->Re}(h:PX f):PX fun t=>t*f t:=by
 obtain ⟨n,h⟩:=h
 exact ⟨n+1,0,f,h,fun t=>by grind⟩
theorem PX.of{f g:Re->Re}(h:PX f)(e:∀t,f t=g t):PX g:=(funext e:f=g) ▸ h
theorem PX.mulr{g:Re->Re}(hg:PX g):∀ {n:Nat}{f:Re->Re},PR n f->PX fun t=>f t*g t
 |0,f,hf=>(PX.const 0).of fun t=>by rw[hf t];grind
 |n+1,f,⟨c,k,hk,e⟩=>(PX.lin c (PX.mulr hg hk).tmul hg).of fun t=>by rw[e];grind
theorem PX.mul{f g:Re->Re}(hf:PX f)(hg:PX g):PX fun t=>f t*g t:=by
 obtain ⟨n,hf⟩:=hf
 exact PX.mulr hg hf
theorem PX.x(r:Re):PX fun t=>t-r:=(PX.lin (-r) (PX.const 1).tmul (PX.const 1)).of fun t=>by grind
theorem jM(xs:List Int):PX (evR xs):=⟨_,tL xs⟩
theorem PX.cut{f:Re->Re}{u:Re}(h:PX f)(h0:f u=0):∃g,PX g/\∀t,f t=(t-u)*g t:=by
 obtain ⟨n,h⟩:=h
 refine ac (h.up.fac u) fun g hg e=>?_
 exact ⟨g,⟨n,hg⟩,fun t=>by rw[e,h0];grind⟩
theorem PX.at{f g:Re->Re}{u:Re}(hf:PX f)(hg:PX g)(h:∀t,t≠u->f t=g t):f u=g u:=by
 obtain ⟨n,hd⟩:=PX.lin (-1) hf hg
 have:=kl (rs:=(pts n).map (u+·)) hd (by simp[pts]) (JA.mpr ((xJ n).imp fun h e=>h (by grind))) (fun r hr=>by
  refine ac (HP.mp hr) fun k hk zq144=>?_;subst zq144
  refine ac (HP.mp hk) fun j _ zq143=>?_;subst zq143
  have:=ci (show 0<(j:Int)+1 by exact oqz [j] [] [] (.il (0+1) (.a (.c Y0) 1)) [1] rfl)
  rw[h _ (fun e=>this (by grind))];grind) u
 grind
theorem PX.cancel{f g:Re->Re}{u:Re}(hf:PX f)(hg:PX g)(h:∀t,(t-u)*f t=(t-u)*g t):f u=g u:=
 hf.at hg fun t ht=>ig (a:=t-u) (fun e=>ht (by grind)) (h t)
noncomputable def dR:List Int->Re->Re
 | [],_=>0
 |_::r,t=>evR r t+t*dR r t
theorem jJ(x:Int)(r:List Int)(t:Re):dR (x::r) t=evR r t+t*dR r t:=rfl
theorem Cf(t:Re):dR [] t=0:=rfl
noncomputable def wR:List Int->Re->Re->Re
 | [],_,_=>0
 |_::r,u,t=>dR r u+t*wR r u t
theorem Cy(x:Int)(r:List Int)(u t:Re):wR (x::r) u t=dR r u+t*wR r u t:=rfl
theorem ze(u t:Re):∀xs:List Int,evR xs t=evR xs u+(t-u)*dR xs u+(t-u)*((t-u)*wR xs u t)
 | []=>by show (0:Re)=0+(t-u)*0+(t-u)*((t-u)*0);grind
 |c::xs=>by rw[aO,aO,jJ,Cy,ze u t xs];grind
theorem zj(t:Re):∀ (r:List Int) (k:Int),evR (sl k r) t=k*evR r t+t*dR r t
 | [],k=>by show (0:Re)=k*0+t*0;grind
 |x::r,k=>by rw[Gl,aO,aO,jJ,zj t r,aq,bq,show ((1:Int):Re)=1 from rfl];grind
theorem FJ:∀xs:List Int,PX (dR xs)
 | []=>PX.const 0
 |c::r=>(PX.lin 1 (jM r) (FJ r).tmul).of fun t=>by rw[jJ];grind
theorem BV(u:Re):∀xs:List Int,PX (wR xs u)
 | []=>PX.const 0
 |c::r=>(PX.lin 1 (PX.const (dR r u)) (BV u r).tmul).of fun t=>by rw[Cy];grind
noncomputable def R1(f:Re->Re)(u:Re):Prop:=∃c g,c≠0/\PX g/\g u≠0/\∀t,c*f t=(t-u)*g t
noncomputable def R2(f:Re->Re)(u:Re):Prop:=∃c g,c≠0/\PX g/\g u≠0/\∀t,c*f t=(t-u)*((t-u)*g t)
section
end
theorem EQ{xs:List Int}{rs:List Re}(h:Tr xs)(hp:rs.Pairwise (·≠·))(h0:∀r∈rs,evR xs r=0):rs.length+1<=xs.length:=by
 refine Nat.lt_of_not_le fun hle=>?_
 have z:=kl (rs:=rs.take xs.length) (tL xs) (by rw[Kk,J2 hle]) (hp.sublist (List.take_sublist ..)) (fun r hr=>h0 r (List.mem_of_mem_take hr))
 obtain ⟨t,ht⟩:=h.nz
 refine ht (ft ?_)
 cases xs with
 |nil=>exact absurd rfl h.ne
 |cons d w =>
  show ((bh t 1 (d::w):Int):Re)=_
  rw[gb (t:=(t:Re)) (show ((1:Int):Re)*(t:Re)=t by show (1:Re)*_=_;grind),z,ax];grind
noncomputable def wP:List Re->List Re
 | []=>[1]
 |r::rs=>iz (-r) 1 0 (wP rs)
theorem F6(r:Re)(rs:List Re):wP (r::rs)=iz (-r) 1 0 (wP rs):=rfl
theorem tG{a:Re}{B C:Int}(ha:ab a<=(B:Re))(hB:0<=B)(hC:0<=C):∀ {xs:List Re}{c:Re},ab c<=(C:Re)->(∀x∈xs,ab x<=(C:Re))->∀y∈iz a 1 c xs,ab y<=((C+C*B:Int):Re)
 | [],c,hc,_,y,hy=>by cases Iw.mp hy;exact gL hc (by have:=Int.mul_nonneg hC hB;exact oqz [] [C,C*B] [(.il 0 Y1)] (.il Y0 (Y0+Y1)) [11] rfl this)
 |x::r,c,hc,h,y,hy=>by
  have hx:=h x (.head _)
  rcases HM.mp hy with rfl|hy
  ·exact nN hc (jf hx ha)
  ·exact tG ha hB hC (by rw[show x*1=x by grind];exact hx) (fun z hz=>h z (.tail _ hz)) y hy
end Mine
namespace Mine
open PySem Re
section
end
end Mine
namespace Mine
open Re
section
end
section
end
end Mine
namespace Mine
open PySem Re
noncomputable def Pv(k:Nat)(x:Re)(v:V):Prop:=∃p q:Int,v=pt p q/\Low k p q/\(q:Re)*x=p
theorem wi{p1 q1 p2 q2 p q:Int}{x y:Re}(h1:0<q1)(h2:0<q2)(e1:(q1:Re)*x=p1)(e2:(q2:Re)*y=p2)(e:p*(q1*q2)=(p1*p2)*q):(q:Re)*(x*y)=p:=by
 have:=congrArg (fun n:Int=>(n:Re)) e
 simp only[aq] at this
 rw[<- e1,<- e2] at this
 exact ig (du (ci h1) (ci h2)) (by grind)
section
variable {H:Hp}{Q:V->Hp->Prop}
noncomputable def PvL(b:Nat->Nat)(x:Nat->Re)(m:Nat)(vs:List V):Prop:=vs.length=m/\∀i,i<m->∃v,vs[i]?=some v/\Pv (b i) (x i) v
theorem jT{vs:List V}{a:Nat}{k:Int}{v:V}{H:Hp}{Q:V->Prop}(ha:H[a]?=some vs)(hk:0<=k)(hv:vs[k.toNat]?=some v)(hQ:Q v):ifSome H[a]? fun xs=>ifSome (cf xs.length k) fun i=>ifSome xs[i]? fun v=>Q v:=by
 have hl:=(Hs.mp hv).1
 refine ifSome.mk ha (ifSome.mk (v:=k.toNat) ?_ (ifSome.mk hv hQ))
 unfold cf;rw[if_pos hk,if_pos (by exact oqz [vs.length,k.toNat] [k] [(.le (Y1+1) Y0),(.il Y0 (.c Y1))] (.il (Y0+1) (.c Y0)) [111] rfl hl (Int.self_le_toNat (k)))]
end
noncomputable def fb(i:Nat):Nat:=100*2^i
noncomputable def p2(a b:Re)(k:Nat):Re:=a^k+b^k
section
end
end Mine
namespace Mine
open PySem Re
noncomputable def v4(a b:Nat)(x0 x1 x2 x3:Int):Re:=((x0:Re)+x1*aW a)+(x2+x3*aW a)*aW b
noncomputable def L4(a b k:Nat)(H:Hp)(i:Nat)(x:Re):Prop:=∃x0 x1 x2 x3:Int,H[i]?=some [.int x0,.int x1,.int x2,.int x3]/\(Sm k x0/\Sm k x1/\Sm k x2/\Sm k x3)/\x=v4 a b x0 x1 x2 x3
theorem L4.keep{a b k i:Nat}{H H':Hp}{x:Re}(h:L4 a b k H i x)(hp:H<+:H'):L4 a b k H' i x:=by
 refine pV (h) fun x0 x1 x2 x3 h1 h2=>?_
 exact ⟨x0,x1,x2,x3,ao hp h1,h2⟩
theorem L4.mono{a b k l i:Nat}{H:Hp}{x:Re}(h:L4 a b k H i x)(hk:k<=l):L4 a b l H i x:=by
 refine dL (h) fun x0 x1 x2 x3 h1 zq138 h2=>?_;refine cv (zq138) fun s0 s1 s2 s3=>?_
 exact ⟨x0,x1,x2,x3,h1,⟨s0.mono hk,s1.mono hk,s2.mono hk,s3.mono hk⟩,h2⟩
theorem L4.eq{a b k i:Nat}{H:Hp}{x y:Re}(h:L4 a b k H i x)(e:x=y):L4 a b k H i y:=e ▸ h
noncomputable def hlf(b:Bool)(x0 x1 x2 x3:Int):Int × Int:=match b with|true=>(x0,x1) |false=>(x2,x3)
section
variable {sub:Nat->Nat->Bool}{P:List Fn}{n:Nat}{H:Hp}{Q:V->Hp->Prop}{X:Nat->Hp->Prop}{a b:Nat}
theorem BF{Φ:Call}{c:Bool}{i m:Nat}{ρ:Loc}{x0 x1 x2 x3:Int}(hi:ah ρ i=some (.lst m))(hm:H[m]?=some [.int x0,.int x1,.int x2,.int x3])(hQ:Q (.lst H.length) (H++[[.int (hlf c x0 x1 x2 x3).1,.int (hlf c x0 x1 x2 x3).2]])):wpE sub Φ (slx c i) ρ H Q:=by
 cases c <;> exact ifSome.mk hi (ifSome.mk hm hQ)
theorem sS(zT:TT P){c d:Bool}{i j:Nat}{o3 o4 o5 o6 o7:Option V}{k l:Nat}{x0 x1 x2 x3 y0 y1 y2 y3:Int}(hi:H[i]?=some [.int x0,.int x1,.int x2,.int x3])(hj:H[j]?=some [.int y0,.int y1,.int y2,.int y3])(sx:Sm k x0/\Sm k x1/\Sm k x2/\Sm k x3)(sy:Sm l y0/\Sm l y1/\Sm l y2/\Sm l y3)(hk:k<=1900000)(hl:l<=1900000)(sa:Sm 64 (a:Int))
  (hQ:∀H' m,H<+:H'->H'[m]?=some [.int ((hlf c x0 x1 x2 x3).1*(hlf d y0 y1 y2 y3).1+a*(hlf c x0 x1 x2 x3).2*(hlf d y0 y1 y2 y3).2),.int ((hlf c x0 x1 x2 x3).1*(hlf d y0 y1 y2 y3).2+(hlf c x0 x1 x2 x3).2*(hlf d y0 y1 y2 y3).1)]->Q (.lst m) H'):wpE sub (ag sub P (n+1)) (mlx 48 c d) [some (.lst i),some (.lst j),some (.int a),o3,o4,o5,o6,o7] H Q:=by
 have hx:Sm k (hlf c x0 x1 x2 x3).1/\Sm k (hlf c x0 x1 x2 x3).2:=by cases c <;> first|exact ⟨sx.2.2.1,sx.2.2.2⟩ |exact ⟨sx.1,sx.2.1⟩
 have hy:Sm l (hlf d y0 y1 y2 y3).1/\Sm l (hlf d y0 y1 y2 y3).2:=by cases d <;> first|exact ⟨sy.2.2.1,sy.2.2.2⟩ |exact ⟨sy.1,sy.2.1⟩
 dsimp only[mlx,aS,aC,aD]
 refine BF rfl hi ?_
 refine BF rfl (ao (af _ _) hj) ?_
 generalize hlf c x0 x1 x2 x3=u at *
 generalize hlf d y0 y1 y2 y3=v at *
 refine rn zT (ao (af _ _) (ai _ _ _)) (ai _ _ _) (hx.1.mono (by clear hQ;exact oqz [k] [] [(.le Y0 1900000)] (.le Y0 2000000) [11] rfl hk)) (hx.2.mono (by clear hQ;exact oqz [k] [] [(.le Y0 1900000)] (.le Y0 2000000) [11] rfl hk)) (hy.1.mono (by clear hQ;exact oqz [l] [] [(.le Y0 1900000)] (.le Y0 2000000) [11] rfl hl)) (hy.2.mono (by clear hQ;exact oqz [l] [] [(.le Y0 1900000)] (.le Y0 2000000) [11] rfl hl)) sa ?_
 exact hQ _ _ (ad (af _ _) (ad (af _ _) (af _ _))) (ai _ _ _)
theorem uP(zT:TT P){i j k l:Nat}{x y:Re}(hx:L4 a b k H i x)(hy:L4 a b l H j y)(hk:k<=1900000)(hl:l<=1900000)(sa:Sm 64 (a:Int))(sb:Sm 64 (b:Int))
  (hQ:∀H' m,H<+:H'->L4 a b (k+l+130) H' m (x*y)->Q (.lst m) H'):ag sub P (n+2) 49 [.lst i,.lst j,.int a,.int b] H Q X:=by
 refine dL (hx) fun x0 x1 x2 x3 hi sx zq137=>?_;subst zq137
 refine dL (hy) fun y0 y1 y2 y3 hj sy zq136=>?_;subst zq136
 refine aj zT.a49 rfl ?_
 dsimp only[qO,qS1,qS2,qS3,qS9,au,aB,az,aw,av,aM,aA,Nat.reduceSub]
 refine sS zT hi hj sx sy hk hl sa fun H1 m1 p1 g1=>?_
 refine sS zT (ao p1 hi) (ao p1 hj) sx sy hk hl sa fun H2 m2 p2 g2=>?_
 have p12:=ad p1 p2
 refine sS zT (ao p12 hi) (ao p12 hj) sx sy hk hl sa fun H3 m3 p3 g3=>?_
 have p13:=ad p12 p3
 refine sS zT (ao p13 hi) (ao p13 hj) sx sy hk hl sa fun H4 m4 p4 g4=>?_
 have h1:=ao (ad p2 (ad p3 p4)) g1
 have h2:=ao (ad p3 p4) g2
 have h3:=ao p4 g3
 dsimp only[hlf] at h1 h2 h3 g4
 dsimp only[qE1,qE5,qE8,aV,g7,aC,aD,bZ,aa,ah,aE]
 refine hO h1 ?_
 refine hO h2 ⟨IntMulOk.left sb,?_⟩
 refine hJ h1 ?_
 refine hJ h2 ⟨IntMulOk.left sb,?_⟩
 refine hO h3 ?_
 refine hO g4 ?_
 refine hJ h3 ?_
 refine hJ g4 ?_
 refine cv (sx) fun u0 u1 u2 u3=>?_
 refine cv (sy) fun w0 w1 w2 w3=>?_
 have m2:∀ {p q r s:Int},Sm k p->Sm l q->Sm k r->Sm l s->Sm (k+l+65) (p*q+a*r*s):=fun h1 h2 h3 h4=>Sm.add ((h1.mul h2).mono (by clear hQ;exact oqz [k,l] [] [] (.le (Y0+Y1) (Y0+Y1+64)) [1] rfl)) (((sa.mul h3).mul h4).mono (by clear hQ;exact oqz [k,l] [] [] (.le (64+Y0+Y1) (Y0+Y1+64)) [1] rfl))
 have m3:∀ {p q r s:Int},Sm k p->Sm l q->Sm k r->Sm l s->Sm (k+l+65) (p*q+r*s):=fun h1 h2 h3 h4=>(Sm.add (h1.mul h2) (h3.mul h4)).mono (by clear hQ;exact oqz [k,l] [] [] (.le (Y0+Y1+1) (Y0+Y1+65)) [1] rfl)
 have m4:∀ {p q:Int},Sm (k+l+65) p->Sm (k+l+65) q->Sm (k+l+130) (p+b*q):=fun h1 h2=>Sm.add (h1.mono (show _<=k+l+129 by clear hQ;exact oqz [k,l] [] [] (.le (Y0+Y1+65) (Y0+Y1+129)) [1] rfl)) ((sb.mul h2).mono (by clear hQ;exact oqz [k,l] [] [] (.le (64+(Y0+Y1+65)) (Y0+Y1+129)) [1] rfl))
 have m5:∀ {p q:Int},Sm (k+l+65) p->Sm (k+l+65) q->Sm (k+l+130) (p+q):=fun h1 h2=>(Sm.add h1 h2).mono (by clear hQ;exact oqz [k,l] [] [] (.le (Y0+Y1+65+1) (Y0+Y1+130)) [1] rfl)
 refine hQ _ _ (ad p13 (ad p4 (af _ _))) ⟨_,_,_,_,ai _ _ _,⟨m4 (m2 u0 w0 u1 w1) (m2 u2 w2 u3 w3),m4 (m3 u0 w1 u1 w0) (m3 u2 w3 u3 w2),m5 (m2 u0 w2 u1 w3) (m2 u2 w0 u3 w1),m5 (m3 u0 w3 u1 w2) (m3 u2 w1 u3 w0)⟩,?_⟩
 have ea:=kK a
 have eb:=kK b
 unfold v4
 simp only[bq,aq]
 rw[<- ea,<- eb]
 generalize aW a=A
 generalize aW b=B
 clear hQ
 grind
theorem iJ(zT:TT P){i k l:Nat}{c:Int}{x:Re}(hx:L4 a b k H i x)(sc:Sm l c)(hk:k<=1900000)(hl:l<=1900000)
  (hQ:∀H' m,H<+:H'->L4 a b (k+l) H' m ((c:Re)*x)->Q (.lst m) H'):ag sub P (n+1) 50 [.lst i,.int c] H Q X:=by
 refine dL (hx) fun x0 x1 x2 x3 hi zq134 zq135=>?_;refine cv (zq134) fun s0 s1 s2 s3=>?_;subst zq135
 have ok:∀ {y:Int},Sm k y->IntMulOk c y:=fun h=>IntMulOk.sm sc h (by clear hQ;exact oqz [l] [] [(.le Y0 1900000)] (.le Y0 67108864) [11] rfl hl) (by clear hQ;exact oqz [k] [] [(.le Y0 1900000)] (.le Y0 67108864) [11] rfl hk)
 have sm:∀ {y:Int},Sm k y->Sm (k+l) (c*y):=fun h=>(sc.mul h).mono (by clear hQ;exact oqz [l,k] [] [] (.le (Y0+Y1) (Y1+Y0)) [1] rfl)
 refine aj zT.a50 rfl ?_
 dsimp only[qE,qS1,qS2,qS9,qE5,qE8,ij,qO1,qI1,d6,cq,aB,az,aw,av,aA,au,bw,aa,ah,Nat.reduceSub]
 refine ifSome.mk hi ⟨show 4<=lim by decide,?_⟩
 dsimp only[dm]
 refine ⟨ok s0,ok s1,ok s2,ok s3,hQ _ _ (af _ _) ⟨_,_,_,_,ai _ _ _,⟨sm s0,sm s1,sm s2,sm s3⟩,?_⟩⟩
 unfold v4
 simp only[aq]
 clear hQ
 grind
theorem rS(zT:TT P){i j k:Nat}{x y:Re}(hx:L4 a b k H i x)(hy:L4 a b k H j y)
  (hQ:∀H' m,H<+:H'->L4 a b (k+1) H' m (x+y)->Q (.lst m) H'):ag sub P (n+1) 51 [.lst i,.lst j] H Q X:=by
 refine dL (hx) fun x0 x1 x2 x3 hi zq132 zq133=>?_;refine cv (zq132) fun s0 s1 s2 s3=>?_;subst zq133
 refine dL (hy) fun y0 y1 y2 y3 hj zq130 zq131=>?_;refine cv (zq130) fun t0 t1 t2 t3=>?_;subst zq131
 refine aj zT.a51 rfl ?_
 dsimp only[xN,qS1,qS2,qS9,qE1,qE5,qE8,aV,ij,aC,aD,qO1,qI3,cq,aB,az,aw,av,aA,au,bw,aa,ah,Nat.reduceSub]
 refine ⟨0,4,1,rfl,aH (by decide) (by decide),aH (by decide) (by decide),.inl rfl,by decide,?_⟩
 show dm _ [.int 0,.int 1,.int 2,.int 3] _ _
 dsimp only[dm]
 refine ix4 hi (.inl ⟨rfl,rfl⟩) (ix4 hj (.inl ⟨rfl,rfl⟩) ?_)
 refine ix4 hi (.inr (.inl ⟨rfl,rfl⟩)) (ix4 hj (.inr (.inl ⟨rfl,rfl⟩)) ?_)
 refine ix4 hi (.inr (.inr (.inl ⟨rfl,rfl⟩))) (ix4 hj (.inr (.inr (.inl ⟨rfl,rfl⟩))) ?_)
 refine ix4 hi (.inr (.inr (.inr ⟨rfl,rfl⟩))) (ix4 hj (.inr (.inr (.inr ⟨rfl,rfl⟩))) ?_)
 refine hQ _ _ (af _ _) ⟨_,_,_,_,ai _ _ _,⟨Sm.add s0 t0,Sm.add s1 t1,Sm.add s2 t2,Sm.add s3 t3⟩,?_⟩
 unfold v4
 simp only[bq]
 clear hQ
 grind
theorem j8(zT:TT P){i k:Nat}{x:Re}(hx:L4 a b k H i x)(hk:k<=2000000)(ha:0<a)(hb:0<b)(sa:Sm 64 (a:Int))(sb:Sm 64 (b:Int))
  (hQ:∀H',H<+:H'->Q (.int (rsg x)) H'):ag sub P (n+3) 47 [.lst i,.int a,.int b] H Q X:=by
 refine dL (hx) fun x0 x1 x2 x3 hi zq128 zq129=>?_;refine cv (zq128) fun s0 s1 s2 s3=>?_;subst zq129
 have:=wL x0 x1 x2 x3 ha hb
 exact DU zT hi (s0.mono hk) (s1.mono hk) (s2.mono hk) (s3.mono hk) sa sb (I4.mpr hb) (by rw[this];exact hQ)
end
end Mine
namespace Mine
section
variable {S:Type}[Lean.Grind.CommRing S]
noncomputable abbrev zS (n:Int):S:=@Int.cast S Lean.Grind.Ring.intCast n
theorem zS0:zS (S:=S) 0=0:=by grind
theorem zS1:zS (S:=S) 1=1:=by grind
theorem fK(a b:Int):zS (S:=S) (a+b)=zS a+zS b:=by grind
theorem jx(a:Int):zS (S:=S) (-a)=-zS a:=by grind
theorem bY(a b:Int):zS (S:=S) (a*b)=zS a*zS b:=by grind
noncomputable def bM(f:Nat->S):Nat->S
 |0=>0
 |n+1=>bM f n+f n
theorem bQ(f:Nat->S):bM f 0=0:=rfl
theorem aT(f:Nat->S)(n:Nat):bM f (n+1)=bM f n+f n:=rfl
noncomputable def eS:List S->Nat->S
 | [],0=>1
 | [],_+1=>0
 |_::_,0=>1
 |x::r,k+1=>eS r (k+1)-x*eS r k
theorem eS0:∀xs:List S,eS xs 0=1
 | []=>rfl
 |_::_=>rfl
theorem eSN(k:Nat):eS ([]:List S) (k+1)=0:=rfl
theorem eSC(x:S)(r:List S)(k:Nat):eS (x::r) (k+1)=eS r (k+1)-x*eS r k:=rfl
theorem iN:∀ (xs:List S) (k:Nat),xs.length<k->eS xs k=0
 | [],0,h=>absurd h (Nat.lt_irrefl 0)
 | [],k+1,_=>rfl
 |x::r,0,h=>absurd h (Nat.not_lt_zero _)
 |x::r,k+1,h=>by
  have h':r.length<k:=J8 h
  rw[eSC,iN r (k+1) (Nat.lt_succ_of_lt h'),iN r k h'];grind
noncomputable def pS:List S->Nat->S
 | [],_=>0
 |x::r,k=>x^k+pS r k
theorem pSN(k:Nat):pS ([]:List S) k=0:=rfl
theorem pSC(x:S)(r:List S)(k:Nat):pS (x::r) k=x^k+pS r k:=rfl
theorem bN{f g:Nat->S}:∀ {n:Nat},(∀j,j<n->f j=g j)->bM f n=bM g n
 |0,_=>rfl
 |n+1,h=>by rw[aT,aT,bN (fun j hj=>h j (Nat.lt_succ_of_lt hj)),h n (IA n)]
theorem iZ(f g:Nat->S):∀n:Nat,bM (fun j=>f j+g j) n=bM f n+bM g n
 |0=>by rw[bQ,bQ,bQ];grind
 |n+1=>by rw[aT,aT,aT,iZ f g n];grind
theorem fX(c:S)(f:Nat->S):∀n:Nat,bM (fun j=>c*f j) n=c*bM f n
 |0=>by rw[bQ,bQ];grind
 |n+1=>by rw[aT,aT,fX c f n];grind
theorem iU:∀n:Nat,bM (fun _=>(0:S)) n=0
 |0=>rfl
 |n+1=>by rw[aT,iU n];grind
theorem je(f:Nat->S):∀n:Nat,bM f (n+1)=f 0+bM (fun j=>f (j+1)) n
 |0=>by rw[aT,bQ,bQ];grind
 |n+1=>by rw[aT,je f n,aT];grind
theorem mX(x:S)(r:List S)(g:Nat->S):∀n:Nat,bM (fun j=>eS (x::r) j*g j) (n+1)=bM (fun j=>eS r j*g j) (n+1)-x*bM (fun j=>eS r j*g (j+1)) n
 |0=>by rw[aT,aT,bQ,bQ,bQ,eS0,eS0];grind
 |n+1=>by rw[aT,mX x r g n,aT _ (n+1),aT _ n,aT (fun j=>eS r j*g (j+1)) n,eSC];grind
theorem zb(x:S)(r:List S)(k:Nat):bM (fun j=>eS r j*x^(k+1-j)) (k+1)-x*bM (fun j=>eS r j*x^(k+1-(j+1))) k=eS r k*x:=by
 have h:bM (fun j=>eS r j*x^(k+1-j)) k=x*bM (fun j=>eS r j*x^(k+1-(j+1))) k:=by
  rw[<- fX]
  refine bN fun j hj=>?_
  rw[Js,Nat.sub_add_comm (JJ hj),Hn]
  grind
 rw[aT,h,IB,show x^1=x by grind]
 grind
theorem kg:∀ (xs:List S) (k:Nat),bM (fun j=>eS xs j*pS xs (k+1-j)) (k+1)+zS ((k:Int)+1)*eS xs (k+1)=0
 | [],k=>by
  rw[eSN,show (fun j=>eS ([]:List S) j*pS [] (k+1-j))=fun _=>0 from funext fun j=>by rw[pSN];grind,iU]
  grind
 |x::r,k=>by
  have h1:=kg r k
  have h2:bM (fun j=>eS r j*pS r (k+1-(j+1))) k+zS (k:Int)*eS r k=0:=by
   cases k with
   |zero=>rw[bQ,show ((0:Nat):Int)=0 from rfl,zS0];grind
   |succ k =>
    have:=kg r k
    rw[<- this,show ((k+1:Nat):Int)=(k:Int)+1 from rfl]
    congr 1
    exact bN fun j _=>by rw[Js]
  have h3:=zb x r k
  have h4:(fun j=>eS (x::r) j*pS (x::r) (k+1-j))=fun j=>eS (x::r) j*x^(k+1-j)+eS (x::r) j*pS r (k+1-j):=funext fun j=>by rw[pSC];grind
  rw[h4,iZ,mX x r (fun j=>x^(k+1-j)),mX x r (fun j=>pS r (k+1-j)),h3,eSC,fK,zS1]
  rw[fK,zS1] at h1
  clear h3 h4
  grind
theorem yv(xs ys:List S)(k:Nat):pS (xs++ys) k=pS xs k+pS ys k:=by
 induction xs with
 |nil=>rw[List.nil_append,pSN];grind
 |cons x r ih=>rw[List.cons_append,pSC,pSC,ih];grind
theorem uG(x:S)(k:Nat):∀ys:List S,pS (ys.map (x*·)) k=x^k*pS ys k
 | []=>by rw[List.map_nil,pSN];grind
 |y::ys=>by rw[Hw,pSC,pSC,uG x k ys,Ju];grind
noncomputable def yh(xs ys:List S):List S:=xs.flatMap fun x=>ys.map (x*·)
noncomputable def x9(xs ys:List S):List S:=xs.flatMap fun x=>ys.map (x+·)
theorem sI(ys:List S)(k:Nat):∀xs:List S,pS (yh xs ys) k=pS xs k*pS ys k
 | []=>by show pS [] k=_;rw[pSN];grind
 |x::xs=>by
  have:=sI ys k xs
  unfold yh at *
  rw[List.flatMap_cons,yv,this,pSC,uG];grind
noncomputable def bnm:Nat->Nat->Int
 |_,0=>1
 |0,_+1=>0
 |n+1,k+1=>bnm n k+bnm n (k+1)
theorem jP:∀n:Nat,bnm n 0=1
 |0=>rfl
 |_+1=>rfl
theorem Bd(k:Nat):bnm 0 (k+1)=0:=rfl
theorem lK(n k:Nat):bnm (n+1) (k+1)=bnm n k+bnm n (k+1):=rfl
theorem eV:∀ {n k:Nat},n<k->bnm n k=0
 |_,0,h=>absurd h (Nat.not_lt_zero _)
 |0,_+1,_=>rfl
 |n+1,k+1,h=>by rw[lK,eV (J8 h),eV (Nat.lt_succ_of_lt (J8 h))];rfl
theorem GD(x y:S):∀k:Nat,(x+y)^k=bM (fun j=>zS (bnm k j)*(x^j*y^(k-j))) (k+1)
 |0=>by rw[aT,bQ,jP,zS1,Kf];grind
 |k+1=>by
  have h1:bM (fun j=>zS (bnm k (j+1))*(x^(j+1)*y^(k-j))) (k+1)+y^(k+1)=y*bM (fun j=>zS (bnm k j)*(x^j*y^(k-j))) (k+1):=by
   rw[je (fun j=>zS (bnm k j)*(x^j*y^(k-j))) k,aT,eV (IA k),zS0,jP,zS1,Nat.sub_zero]
   have:bM (fun j=>zS (bnm k (j+1))*(x^(j+1)*y^(k-j))) k=y*bM (fun j=>zS (bnm k (j+1))*(x^(j+1)*y^(k-(j+1)))) k:=by
    rw[<- fX]
    refine bN fun j hj=>?_
    rw[show k-j=(k-(j+1))+1 by exact oqz [k-j,k,j,k-(j+1)] [] [(.le (Y2+1) Y1),(osb Y1 Y2 Y0),(osb Y1 (Y2+1) Y3)] (.eq Y0 (Y3+1)) [10001001,1001011,110,1010001,110001] rfl hj (am (k) (j)) (am (k) (j+1)),Hn y];grind
   rw[this,Hn y];grind
  have h2:(fun j=>zS (bnm (k+1) (j+1))*(x^(j+1)*y^(k+1-(j+1))))=fun j=>x*(zS (bnm k j)*(x^j*y^(k-j)))+zS (bnm k (j+1))*(x^(j+1)*y^(k-j)):=funext fun j=>by
   rw[lK,fK,Js,Hn x];grind
  rw[je _ (k+1),h2,iZ,fX,jP,zS1,Nat.sub_zero,Hn (x+y),GD x y k]
  grind
theorem sT(x:S)(k:Nat):∀ys:List S,pS (ys.map (x+·)) k=bM (fun j=>zS (bnm k j)*(x^j*pS ys (k-j))) (k+1)
 | []=>by rw[List.map_nil,pSN,show (fun j=>zS (bnm k j)*(x^j*pS ([]:List S) (k-j)))=fun _=>0 from funext fun j=>by rw[pSN];grind,iU]
 |y::ys=>by
  rw[Hw,pSC,sT x k ys,GD,<- iZ]
  exact bN fun j _=>by rw[pSC];grind
theorem te(ys:List S)(k:Nat):∀xs:List S,pS (x9 xs ys) k=bM (fun j=>zS (bnm k j)*(pS xs j*pS ys (k-j))) (k+1)
 | []=>by show pS [] k=_;rw[pSN,show (fun j=>zS (bnm k j)*(pS ([]:List S) j*pS ys (k-j)))=fun _=>0 from funext fun j=>by rw[pSN];grind,iU]
 |x::xs=>by
  have:=te ys k xs
  unfold x9 at *
  rw[List.flatMap_cons,yv,this,sT,<- iZ]
  exact bN fun j _=>by rw[pSC];grind
end
noncomputable def sd(m:Int):List Int->List Int
 | []=>[]
 | [_]=>[]
 |_::d::r=>ev (d::r) m::sd m (d::r)
theorem sd2(m c d:Int)(r:List Int):sd m (c::d::r)=ev (d::r) m::sd m (d::r):=rfl
theorem sd1(m c:Int):sd m [c]=[]:=rfl
theorem Cg(m t:Int):∀xs:List Int,ev xs t=ev xs m+(t-m)*ev (sd m xs) t
 | []=>by rw[bz,bz];show 0=0+(t-m)*ev [] t;rw[bz,HS];rfl
 | [c]=>by rw[aF,aF,bz,bz,sd1,bz,HS,HS,HS];exact oqz [] [c] [] (.ie (Y0+0) (Y0+0+0)) [1] rfl
 |c::d::r=>by
  rw[sd2,aF c,aF c,aF (ev (d::r) m),Cg m t (d::r)];grind
theorem v6(m:Int):∀ {xs:List Int}{n:Nat},xs.length<=n+1->(sd m xs).length<=n
 | [],_,_=>HQ _
 | [_],_,_=>HQ _
 |c::d::r,0,h=>by simp at h
 |c::d::r,n+1,h=>by rw[sd2,List.length_cons];exact Nat.succ_le_succ (v6 m (I0 h))
theorem ny{a b c:Int}(h:a=b-c):a.natAbs<=b.natAbs+c.natAbs:=oqz [a.natAbs,b.natAbs,c.natAbs] [a,b,c] [(.ie Y0 (.s Y1 Y2)),(.an (.il Y1 (.c Y1)) (.il (.g Y1) (.c Y1))),(.an (.il Y2 (.c Y2)) (.il (.g Y2) (.c Y2))),(ona Y0 Y0)] (.le Y0 (Y1+Y2)) [101001011,100110101] rfl h (bo (b)) (bo (c)) (bm (a))
theorem BQ{m:Int}{T B M:Nat}(hm:m.natAbs<=T):∀ {xs:List Int},(ev xs m).natAbs<=B->(∀q∈sd m xs,q.natAbs<=M)->M<=B->∀x∈xs,x.natAbs<=B+T*M
 | [],_,_,_,x,hx=>nomatch hx
 | [c],h,_,_,x,hx=>by
  rw[Iw.mp hx]
  rw[aF,bz,HS,HO] at h
  exact oqz [c.natAbs,B,T*M] [] [(.le Y0 Y1)] (.le Y0 (Y1+Y2)) [11] rfl h
 |c::d::r,h,hq,hMB,x,hx=>by
  rw[sd2] at hq
  have h1:=hq _ Hy
  rcases HM.mp hx with g|g
  ·subst g
   have e:=aF x (d::r) m
   have k:=ny (show x=ev (x::d::r) m-m*ev (d::r) m by exact oqz [] [x,ev (x::d::r) m,m*ev (d::r) m] [(.ie Y1 (Y0+Y2))] (.ie Y0 (.s Y1 Y2)) [11,101] rfl e)
   rw[HV] at k
   have:=Iv hm h1
   exact oqz [x.natAbs,B,T*M,(ev (x::d::r) m).natAbs,m.natAbs*(ev (d::r) m).natAbs] [] [(.le Y3 Y1),(.le Y0 (Y3+Y4)),(.le Y4 Y2)] (.le Y0 (Y1+Y2)) [1111] rfl h k this
  ·exact BQ hm (Hj h1 hMB) (fun q hq'=>hq q (Hz _ hq')) hMB x g
theorem AA{m n:Int}{B:Nat}{xs:List Int}(hne:n≠m)(h1:(ev xs m).natAbs<=B)(h2:(ev xs n).natAbs<=B):(ev (sd m xs) n).natAbs<=2*B:=by
 have e:=Cg m n xs
 have k:=ny (show (n-m)*ev (sd m xs) n=ev xs n-ev xs m by exact oqz [] [(n-m)*ev (sd m xs) n,ev xs n,ev xs m] [(.ie Y1 (Y2+Y0))] (.ie Y0 (.s Y1 Y2)) [11,101] rfl e)
 rw[HV] at k
 have:=J9 (ev (sd m xs) n).natAbs (show 0<(n-m).natAbs by exact oqz [(n-m).natAbs] [n,m] [(.an (.il (.s Y0 Y1) (.c Y0)) (.il (.g (.s Y0 Y1)) (.c Y0))),(.no (.ie Y0 Y1))] (.le (0+1) Y0) [1101,1011] rfl (bo (n-m)) hne)
 exact oqz [(ev (sd m xs) n).natAbs,B,(ev xs m).natAbs,(ev xs n).natAbs,(n-m).natAbs*(ev (sd m xs) n).natAbs] [] [(.le Y2 Y1),(.le Y3 Y1),(.le Y4 (Y3+Y2)),(.le Y0 Y4)] (.le Y0 (.m 2 Y1)) [11111] rfl h1 h2 k this
theorem yH{T:Nat}:∀ {ms xs:List Int}{B:Nat},xs.length<=ms.length->ms.Pairwise (·≠·)->(∀m∈ms,m.natAbs<=T)->(∀m∈ms,(ev xs m).natAbs<=B)->∀x∈xs,x.natAbs<=B*(2*T+2)^ms.length
 | [],[],_,_,_,_,_,x,hx=>nomatch hx
 | [],_::_,_,h,_,_,_,_,_=>nomatch h
 |m::ms,xs,B,hl,hp,hT,hB,x,hx=>by
  obtain ⟨p1,p2⟩:=JK.mp hp
  have ih:=yH (T:=T) (ms:=ms) (xs:=sd m xs) (B:=2*B) (v6 m hl) p2 (fun k hk=>hT k (Hz _ hk)) (fun k hk=>AA (fun h=>p1 k hk h.symm) (hB m Hy) (hB k (Hz _ hk)))
  have hP:1<=(2*T+2)^ms.length:=Nat.pow_pos (by exact oqz [T] [] [] (.le (0+1) (.a (.m 2 Y0) 2)) [1] rfl)
  have h1:B<=2*B*(2*T+2)^ms.length:=Hj (by exact oqz [B] [] [] (.le Y0 (.m 2 Y0)) [1] rfl) (Ie (2*B) hP)
  refine Hj (BQ (hT m Hy) (Hj (hB m Hy) h1) ih (Ht _) x hx) ?_
  rw[List.length_cons,Jx]
  generalize (2*T+2)^ms.length=Z
  have:2*B*Z+T*(2*B*Z)=B*(Z*(2*T+2)):=by grind
  exact oqz [2*B*Z,T*(2*B*Z),B*(Z*(2*T+2))] [] [(.eq (Y0+Y1) Y2)] (.le (Y0+Y1) Y2) [11] rfl this
theorem nM{α:Type}(p:α->Bool):∀X:List α,X.length=(X.filter p).length+(X.filter fun x=>!p x).length
 | []=>rfl
 |x::r=>by
  have:=nM p r
  cases h:p x
  ·rw[List.filter_cons_of_neg (by rw[h];decide),List.filter_cons_of_pos (by rw[h];rfl),List.length_cons,List.length_cons];exact oqz [r.length,(List.filter p r).length,(List.filter (fun x=>!p x) r).length] [] [(.eq Y0 (Y1+Y2))] (.eq (Y0+1) (Y1+(Y2+1))) [101,11] rfl this
  ·rw[List.filter_cons_of_pos h,List.filter_cons_of_neg (by rw[h];decide),List.length_cons,List.length_cons];exact oqz [r.length,(List.filter p r).length,(List.filter (fun x=>!p x) r).length] [] [(.eq Y0 (Y1+Y2))] (.eq (Y0+1) (Y1+1+Y2)) [101,11] rfl this
theorem Fs{α:Type}{f:α->Nat}{L:Nat}:∀ {Q:Nat}{X:List α},(∀x∈X,f x<Q)->Q*L<X.length->∃c,L<(X.filter fun x=>f x == c).length
 |0,X,hf,hl=>by
  cases X with
  |nil=>simp at hl
  |cons x r=>exact absurd (hf x Hy) (Nat.not_lt_zero _)
 |Q+1,X,hf,hl=>by
  by_cases h:L<(X.filter fun x=>f x == Q).length
  ·exact ⟨Q,h⟩
  ·have hs:=nM (fun x=>f x == Q) X
   obtain ⟨c,hc⟩:=Fs (f:=f) (L:=L) (Q:=Q) (X:=X.filter fun x=>!(f x == Q)) (fun x hx=>by
    obtain ⟨h1,h2⟩:=J4.mp hx
    have h3:=hf x h1
    have h4:¬ f x=Q:=by simpa using h2
    exact oqz [f x,Q] [] [(.le (Y0+1) (Y1+1)),(.no (.eq Y0 Y1))] (.le (Y0+1) Y1) [101,110] rfl h3 h4) (by rw[Jo] at hl;exact oqz [Q*L,(List.filter (fun x=>!f x == Q) X).length,L,X.length,(List.filter (fun x=>f x == Q) X).length] [] [(.le (Y0+Y2+1) Y3),(.no (.le (Y2+1) Y4)),(.eq Y3 (Y4+Y1))] (.le (Y0+1) Y1) [1111] rfl hl h hs)
   refine ⟨c,J3 hc ?_⟩
   exact (List.Sublist.filter _ Kt).length_le
theorem FQ{α:Type}{Q:Nat}:∀ {fs:List (α->Nat)}{X:List α},X.Pairwise (·≠·)->(∀f∈fs,∀x∈X,f x<Q)->Q^fs.length<X.length->∃x y,x∈X/\y∈X/\x≠y/\∀f∈fs,f x=f y
 | [],X,hp,_,hl=>by
  rcases X with _ | ⟨x,_ | ⟨y,r⟩⟩
  ·simp at hl
  ·simp at hl
  ·obtain ⟨h1,_⟩:=JK.mp hp
   exact ⟨x,y,by simp,by simp,h1 y (by simp),fun f hf=>nomatch hf⟩
 |f::fs,X,hp,hf,hl=>by
  rw[List.length_cons,Jx,Jp] at hl
  obtain ⟨c,hc⟩:=Fs (hf f Hy) hl
  refine lB (FQ (fs:=fs) (hp.sublist (Kt)) (fun g hg x hx=>hf g (Hz _ hg) x (J4.mp hx).1) hc) fun x y hx hy hne he=>?_
  obtain ⟨x1,x2⟩:=J4.mp hx
  obtain ⟨y1,y2⟩:=J4.mp hy
  refine ⟨x,y,x1,y1,hne,fun g hg=>?_⟩
  rcases HM.mp hg with rfl|h
  ·have h1:g x=c:=by simpa using x2
   have h2:g y=c:=by simpa using y2
   rw[h1,h2]
  ·exact he g h
theorem tY{b:Nat}:∀ {n x y:Nat},x<b^n->y<b^n->(∀i,i<n->x / b^i % b=y / b^i % b)->x=y
 |0,x,y,hx,hy,_=>by rw[Nat.pow_zero] at hx hy;exact oqz [x,y] [] [(.le (Y0+1) 1),(.le (Y1+1) 1)] (.eq Y0 Y1) [101,11] rfl hx hy
 |n+1,x,y,hx,hy,h=>by
  rw[Jx] at hx hy
  have h0:=h 0 (JW n)
  rw[Nat.pow_zero,Nat.div_one,Nat.div_one] at h0
  have:=tY (n:=n) (Nat.div_lt_of_lt_mul (Jp (b^n) b ▸ hx)) (Nat.div_lt_of_lt_mul (Jp (b^n) b ▸ hy)) fun i hi=>by
   have:=h (i+1) (Nat.succ_lt_succ hi)
   rw[Jx,Jp (b^i) b] at this
   rw[Nat.div_div_eq_div_mul,Nat.div_div_eq_div_mul];exact this
  rw[<- Nat.div_add_mod x b,<- Nat.div_add_mod y b,this,h0]
structure Frm (n C:Nat)(φ:(Nat->Int)->Int):Prop where
 sub:∀v w,φ (fun i=>v i-w i)=φ v-φ w
 bd:∀ (m:Nat) v,(∀i,i<n->(v i).natAbs<=m)->(φ v).natAbs<=C*m
theorem D6{C n:Nat}:(2*(C*(2*C+1)^n)+1)^n<((2*C+1)^n+1)^(n+1):=by
 generalize hM:(2*C+1)^n=M
 have hM1:1<=M:=by rw[<- hM];exact Nat.pow_pos (by exact oqz [C] [] [] (.le (0+1) (.a (.m 2 Y0) 1)) [1] rfl)
 have h1:2*(C*M)+1<=(2*C+1)*M:=by
  have:(2*C+1)*M=2*(C*M)+M:=by grind
  exact oqz [C*M,(2*C+1)*M,M] [] [(.le 1 Y2),(.eq Y1 (.a (.m 2 Y0) Y2))] (.le (.a (.m 2 Y0) 1) Y1) [1011] rfl hM1 this
 have h2:=Jk h1 n
 rw[Nat.mul_pow,hM,Jp M,<- Jx] at h2
 exact HT h2 (Nat.pow_lt_pow_left (IA M) (Kl n))
theorem EH{n C:Nat}{φs:List ((Nat->Int)->Int)}(hl:φs.length=n)(hφ:∀φ∈φs,Frm (n+1) C φ) :
  ∃w:Nat->Int,(∃i,i<n+1/\w i≠0)/\(∀i,(w i).natAbs<=(2*C+1)^n)/\∀φ∈φs,φ w=0:=by
 have hb:0<(2*C+1)^n+1:=JW _
 have hP:=D6 (C:=C) (n:=n)
 generalize (2*C+1)^n=M at *
 have hd:∀x i:Nat,(((x / (M+1)^i % (M+1):Nat):Int)).natAbs<=M:=fun x i=>by
  have:=Nat.mod_lt (x / (M+1)^i) hb
  exact oqz [(↑(x / (M+1)^i % (M+1)):Int).natAbs,x / (M+1)^i % (M+1),M] [] [(.le (Y1+1) (Y2+1)),(ona (.c Y1) Y0)] (.le Y0 Y2) [1011] rfl this (bm ((↑(x / (M+1)^i % (M+1)):Int)))
 have hv:∀φ∈φs,∀x:Nat,(φ fun i=>((x / (M+1)^i % (M+1):Nat):Int)).natAbs<=C*M:=fun φ h x=>(hφ φ h).bd M _ fun i _=>hd x i
 obtain ⟨x,y,hx,hy,hne,he⟩:=FQ (Q:=2*(C*M)+1) (fs:=φs.map fun φ (x:Nat)=>((φ fun i=>((x / (M+1)^i % (M+1):Nat):Int))+((C*M:Nat):Int)).toNat) (X:=List.range ((M+1)^(n+1))) List.nodup_range (fun f hf x _=>by
  refine ac (HP.mp hf) fun φ h1 zq8=>?_;subst zq8
  have:=hv φ h1 x
  dsimp only
  exact oqz [((φ fun i=>(↑(x / (M+1)^i % (M+1)):Int))+(↑(C*M):Int)).toNat,C*M,(φ fun i=>(↑(x / (M+1)^i % (M+1)):Int)).natAbs] [φ fun i=>(↑(x / (M+1)^i % (M+1)):Int)] [(.le Y2 Y1),(.an (.il Y0 (.c Y2)) (.il (.g Y0) (.c Y2))),(otn (.a Y0 (.c Y1)) Y0)] (.le (Y0+1) (.a (.m 2 Y1) 1)) [100111,100001] rfl this (bo (φ fun i=>(↑(x / (M+1)^i % (M+1)):Int))) (aR ((φ fun i=>(↑(x / (M+1)^i % (M+1)):Int))+(↑(C*M):Int)))) (by rw[Hi,hl,JB];exact hP)
 refine ⟨fun i=>((x / (M+1)^i % (M+1):Nat):Int)-((y / (M+1)^i % (M+1):Nat):Int),HW fun hn=>hne (tY (JE.mp hx) (JE.mp hy) fun i hi=>?_),fun i=>?_,fun φ h=>?_⟩
 ·refine HW fun hi'=>hn ⟨i,hi,fun h0=>hi' ?_⟩
  exact Int.ofNat_inj.mp (Int.sub_eq_zero.mp h0)
 ·have h1:=hd x i
  have h2:=hd y i
  dsimp only
  exact oqz [((↑(x / (M+1)^i % (M+1)):Int)-(↑(y / (M+1)^i % (M+1)):Int)).natAbs,x / (M+1)^i % (M+1),y / (M+1)^i % (M+1),M,(↑(x / (M+1)^i % (M+1)):Int).natAbs,(↑(y / (M+1)^i % (M+1)):Int).natAbs] [] [(.le Y4 Y3),(.le Y5 Y3),(.an (.il (.c Y1) (.c Y4)) (.il (.g (.c Y1)) (.c Y4))),(.an (.il (.c Y2) (.c Y5)) (.il (.g (.c Y2)) (.c Y5))),(ona (.s (.c Y1) (.c Y2)) Y0)] (.le Y0 Y3) [100001011,100100101] rfl h1 h2 (bo ((↑(x / (M+1)^i % (M+1)):Int))) (bo ((↑(y / (M+1)^i % (M+1)):Int))) (bm ((↑(x / (M+1)^i % (M+1)):Int)-(↑(y / (M+1)^i % (M+1)):Int)))
 ·have h3:=he _ (HP.mpr ⟨φ,h,rfl⟩)
  have h1:=hv φ h x
  have h2:=hv φ h y
  rw[(hφ φ h).sub]
  exact oqz [((φ fun i=>(↑(x / (M+1)^i % (M+1)):Int))+(↑(C*M):Int)).toNat,C*M,((φ fun i=>(↑(y / (M+1)^i % (M+1)):Int))+(↑(C*M):Int)).toNat,(φ fun i=>(↑(x / (M+1)^i % (M+1)):Int)).natAbs,(φ fun i=>(↑(y / (M+1)^i % (M+1)):Int)).natAbs] [φ fun i=>(↑(x / (M+1)^i % (M+1)):Int),φ fun i=>(↑(y / (M+1)^i % (M+1)):Int)] [(.eq Y0 Y2),(.le Y3 Y1),(.le Y4 Y1),(.an (.il Y0 (.c Y3)) (.il (.g Y0) (.c Y3))),(.an (.il Y1 (.c Y4)) (.il (.g Y1) (.c Y4))),(otn (.a Y0 (.c Y1)) Y0),(otn (.a Y1 (.c Y1)) Y2)] (.ie (.s Y0 Y1) 0) [100010000000101,100010001001101,1000001001001,10100000000011,10100100010011,1100010001] rfl h3 h1 h2 (bo (φ fun i=>(↑(x / (M+1)^i % (M+1)):Int))) (bo (φ fun i=>(↑(y / (M+1)^i % (M+1)):Int))) (aR ((φ fun i=>(↑(x / (M+1)^i % (M+1)):Int))+(↑(C*M):Int))) (aR ((φ fun i=>(↑(y / (M+1)^i % (M+1)):Int))+(↑(C*M):Int)))
end Mine
namespace Mine
open Re
noncomputable def vF:Nat->(Nat->Int)->Re->Re
 |0,_,_=>0
 |n+1,v,g=>vF n v g+(v n:Re)*g^n
theorem vFC(n:Nat)(v:Nat->Int)(g:Re):vF (n+1) v g=vF n v g+(v n:Re)*g^n:=rfl
theorem rP(a b:Int)(v w:Nat->Int)(g:Re):∀n,vF n (fun i=>a*v i-b*w i) g=a*vF n v g-b*vF n w g
 |0=>by show (0:Re)=a*0-b*0;grind
 |n+1=>by rw[vFC,vFC,vFC,rP a b v w g n,eO,aq,aq];grind
noncomputable def shF(v:Nat->Int):Nat->Int
 |0=>0
 |j+1=>v j
theorem Cs(v:Nat->Int)(g:Re):∀n,vF (n+1) (shF v) g=g*vF n v g
 |0=>by show 0+((0:Int):Re)*g^0=g*0;rw[ax];grind
 |n+1=>by rw[vFC,Cs v g n,vFC n v];show _+((v n:Int):Re)*g^(n+1)=_;rw[Hn];grind
noncomputable def stp(l:Int)(k:Nat->Int)(n:Nat)(v:Nat->Int):Nat->Int:=fun i=>l*shF v i-v n*k i
theorem DE{l:Int}{k:Nat->Int}{n:Nat}{g:Re}(h:vF (n+1) k g+(l:Re)*g^(n+1)=0)(v:Nat->Int):vF (n+1) (stp l k n v) g=l*(g*vF (n+1) v g):=by
 unfold stp
 rw[rP l (v n) (shF v) k g (n+1),Cs,vFC n v,show vF (n+1) k g=-((l:Re)*g^(n+1)) by grind,Hn]
 grind
noncomputable def hor(l:Int)(k:Nat->Int)(n:Nat)(v:Nat->Int):List Int->Nat->Int
 | []=>fun _=>0
 |p::r=>fun i=>stp l k n (hor l k n v r) i+l^r.length*p*v i
theorem zg(l:Int)(k:Nat->Int)(n:Nat)(v:Nat->Int)(p:Int)(r:List Int)(i:Nat):hor l k n v (p::r) i=stp l k n (hor l k n v r) i+l^r.length*p*v i:=rfl
theorem tZ(g:Re):∀n,vF n (fun _=>0) g=0
 |0=>rfl
 |n+1=>by rw[vFC,tZ g n,ax];grind
theorem sW{l:Int}{k:Nat->Int}{n:Nat}{g:Re}(h:vF (n+1) k g+(l:Re)*g^(n+1)=0)(v:Nat->Int):∀P:List Int,(l:Re)*vF (n+1) (hor l k n v P) g=(l:Re)^P.length*(evR P g*vF (n+1) v g)
 | []=>by rw[show hor l k n v []=fun _=>0 from rfl,tZ,d3];grind
 |p::r=>by
  have ih:=sW h v r
  have e:hor l k n v (p::r)=fun i=>1*stp l k n (hor l k n v r) i-(-(l^r.length*p))*v i:=funext fun i=>by rw[zg,Ip,Iy,Int.sub_neg]
  rw[e,rP,DE h,aO,List.length_cons,Hn,ch,aq,jr,show ((1:Int):Re)=1 from rfl]
  generalize vF (n+1) (hor l k n v r) g=x at *
  generalize vF (n+1) v g=y at *
  generalize (l:Re)^r.length=z at *
  generalize (l:Re)=m at *
  clear e h
  grind
theorem Bp(v w:Nat->Int)(i:Nat):shF (fun i=>v i-w i) i=shF v i-shF w i:=by cases i <;> rfl
theorem tH(l:Int)(k:Nat->Int)(n:Nat)(v w:Nat->Int):∀ (P:List Int) (i:Nat),hor l k n (fun i=>v i-w i) P i=hor l k n v P i-hor l k n w P i
 | [],i=>rfl
 |p::r,i=>by
  rw[zg,zg,zg]
  unfold stp
  rw[show hor l k n (fun i=>v i-w i) r=fun i=>hor l k n v r i-hor l k n w r i from funext (tH l k n v w r),Bp]
  grind
theorem wz{l:Int}{k:Nat->Int}{n B m:Nat}{v:Nat->Int}(hB:1<=B)(hl:l.natAbs<=B)(hk:∀i,i<=n->(k i).natAbs<=B)(hv:∀i,i<n+1->(v i).natAbs<=m):∀ {P:List Int},(∀p∈P,p.natAbs<=B)->∀i,i<n+1->(hor l k n v P i).natAbs<=(3*B)^P.length*m
 | [],_,i,_=>HQ _
 |p::r,hP,i,hi=>by
  have ih:=wz (P:=r) hB hl hk hv fun q hq=>hP q (Hz _ hq)
  have h1:(stp l k n (hor l k n v r) i).natAbs<=B*((3*B)^r.length*m)+B*((3*B)^r.length*m):=by
   refine Hj (ny rfl) ?_
   rw[HV,HV]
   refine Nat.add_le_add (Iv hl ?_) ?_
   ·cases i with
    |zero=>exact HQ _
    |succ j=>exact ih j (by exact oqz [j,n] [] [(.le (Y0+1+1) (Y1+1))] (.le (Y0+1) (Y1+1)) [11] rfl hi)
   ·rw[Jp];exact Iv (hk i (by exact oqz [i,n] [] [(.le (Y0+1) (Y1+1))] (.le Y0 Y1) [11] rfl hi)) (ih n (IA n))
  have h2:(l^r.length*p*v i).natAbs<=B*((3*B)^r.length*m):=by
   rw[HV,HV,Int.natAbs_pow,Jp _ p.natAbs,Nat.mul_assoc]
   refine Iv (hP p Hy) (Iv (Hj (Jk hl _) (Jk (by exact oqz [B] [] [] (.le Y0 (.m 3 Y0)) [1] rfl) _)) (hv i hi))
  rw[zg,List.length_cons,Jx]
  have h3:=Int.natAbs_add_le (stp l k n (hor l k n v r) i) (l^r.length*p*v i)
  generalize (3*B)^r.length=Z at *
  have:Z*(3*B)*m=B*(Z*m)+B*(Z*m)+B*(Z*m):=by grind
  exact oqz [(stp l k n (hor l k n v r) i+l^r.length*p*v i).natAbs,Z*(3*B)*m,(stp l k n (hor l k n v r) i).natAbs,(l^r.length*p*v i).natAbs,B*(Z*m)] [] [(.le Y0 (Y2+Y3)),(.le Y2 (Y4+Y4)),(.le Y3 Y4),(.eq Y1 (Y4+Y4+Y4))] (.le Y0 Y1) [101111] rfl h3 h1 h2 this
theorem Ct(g:Re):∀ (n:Nat) (v:Nat->Int),vF n v g=evR ((List.range n).map v) g:=by
 intro n
 induction n with
 |zero=>intro v;rfl
 |succ n ih =>
  intro v
  have h2:vF (n+1) v g=(v 0:Re)+g*vF n (fun i=>v (i+1)) g:=by
   clear ih
   induction n with
   |zero=>rw[vFC];show 0+_*g^0=_+g*0;rw[Hr];grind
   |succ n ih=>rw[vFC,ih,vFC,Hn];grind
  rw[h2,ih,Ka,Hw,Ia,aO];rfl
theorem yP{g:Re}{v:Nat->Int}{n:Nat}(h:∀i,1<=i->i<n+1->v i=0):vF (n+1) v g=(v 0:Re):=by
 induction n with
 |zero=>rw[vFC];show 0+_*g^0=_;rw[Hr];grind
 |succ n ih=>rw[vFC,ih fun i h1 h2=>h i h1 (by exact oqz [i,n] [] [(.le (Y0+1) (Y1+1))] (.le (Y0+1) (Y1+1+1)) [11] rfl h2),h (n+1) (by exact oqz [n] [] [] (.le 1 (Y0+1)) [1] rfl) (by exact oqz [n] [] [] (.le (Y0+1+1) (Y0+1+1)) [1] rfl),ax];grind
theorem BM{g:Re}{v:Nat->Int}{M R:Nat}(hR:1<=R)(hg:ab g<=((R:Int):Re))(hv:∀i,(v i).natAbs<=M):∀n,ab (vF n v g)<=(((n*(M*R^n):Nat):Int):Re)
 |0=>by show ab 0<=_;rw[Nat.zero_mul];exact dN (n:=0) (by decide) (by decide)
 |n+1=>by
  rw[vFC]
  have hp:∀n:Nat,ab (g^n)<=(((R^n:Nat):Int):Re):=fun n=>by
   induction n with
   |zero=>rw[Hr,Nat.pow_zero];exact dN (n:=1) (by decide) (by decide)
   |succ n ih=>rw[Hn,Jx,Ij];exact jf ih hg
  have h1:=BM hR hg hv n
  have h2:=jf (dN (n:=v n) (c:=(M:Int)) (by have:=hv n;exact oqz [M,(v n).natAbs] [v n] [(.le Y1 Y0),(.an (.il Y0 (.c Y1)) (.il (.g Y0) (.c Y1)))] (.il (.g (.c Y0)) Y0) [1011] rfl this (bo (v n))) (by have:=hv n;exact oqz [M,(v n).natAbs] [v n] [(.le Y1 Y0),(.an (.il Y0 (.c Y1)) (.il (.g Y0) (.c Y1)))] (.il Y0 (.c Y0)) [111] rfl this (bo (v n)))) (hp n)
  refine gL (nN h1 h2) ?_
  rw[<- Ij,<- Int.natCast_add]
  refine IO.mpr ?_
  have:R^n<=R^(n+1):=Ib hR (IZ n)
  have:=HK M this
  have:=HK n this
  rw[Jo]
  omega
theorem GR{l:Int}{k:Nat->Int}{n B R:Nat}{g:Re}{P:List Int}(h:vF (n+1) k g+(l:Re)*g^(n+1)=0)(l0:l≠0)(hmin:∀xs:List Int,xs.length<=n+1->evR xs g=0->∀x∈xs,x=0)
  (hB:1<=B) (hl:l.natAbs<=B) (hk:∀i,i<=n->(k i).natAbs<=B) (hP:∀p∈P,p.natAbs<=B) (hR:1<=R) (hg:ab g<=((R:Int):Re)) (h0:evR P g≠0) :
  1<=(((B^P.length*((n+1)*((2*(3*B)^P.length+1)^n*R^(n+1))):Nat):Int):Re)*ab (evR P g):=by
 obtain ⟨w,⟨i,hi,hwi⟩,hw,hz⟩:=EH (n:=n) (C:=(3*B)^P.length) (φs:=(List.range n).map fun j v=>hor l k n v P (j+1)) (by rw[Hi,JB]) (fun φ hφ=>by
  refine ac (HP.mp hφ) fun j hj zq9=>?_;subst zq9
  have:=JE.mp hj
  exact ⟨fun v w=>tH l k n v w P (j+1),fun m v hv=>wz hB hl hk hv hP (j+1) (by exact oqz [j,n] [] [(.le (Y0+1) Y1)] (.le (Y0+1+1) (Y1+1)) [11] rfl this)⟩)
 have hw0:vF (n+1) w g≠0:=fun e=>hwi (hmin ((List.range (n+1)).map w) (by rw[Hi,JB];exact Ht _) (by rw[<- Ct];exact e) _ (HP.mpr ⟨i,JE.mpr hi,rfl⟩))
 have hv:=sW h w P
 rw[yP (v:=hor l k n w P) fun j h1 h2=>by
  obtain ⟨j',rfl⟩:∃j',j=j'+1:=⟨j-1,by exact oqz [j,j-1] [] [(.le 1 Y0),(osb Y0 1 Y1)] (.eq Y0 (Y1+1)) [10001,1011,1001,101] rfl h1 (am (j) (1))⟩
  exact hz _ (HP.mpr ⟨j',JE.mpr (by exact oqz [j',n] [] [(.le (Y0+1+1) (Y1+1))] (.le (Y0+1) Y1) [11] rfl h2),rfl⟩)] at hv
 have hl':=fv l0
 have hne:l*hor l k n w P 0≠0:=fun e=>by
  rw[<- aq,e,ax] at hv
  have hpow:∀d:Nat,(l:Re)^d≠0:=fun d=>by
   induction d with
   |zero=>rw[Hr];exact jd
   |succ d ih=>rw[Hn];exact du ih hl'
  exact du (hpow _) (du h0 hw0) hv.symm
 have k1:=kz hne
 rw[aq,hv,dk,dk] at k1
 have k2:=BM hR hg hw (n+1)
 have k3:ab ((l:Re)^P.length)<=(((B^P.length:Nat):Int):Re):=by
  rw[<- jr]
  have:(l^P.length).natAbs<=B^P.length:=by rw[Int.natAbs_pow];exact Jk hl _
  exact dN (by exact oqz [B^P.length,(l^P.length).natAbs] [l^P.length] [(.le Y1 Y0),(.an (.il Y0 (.c Y1)) (.il (.g Y0) (.c Y1)))] (.il (.g (.c Y0)) Y0) [1011] rfl this (bo (l^P.length))) (by exact oqz [B^P.length,(l^P.length).natAbs] [l^P.length] [(.le Y1 Y0),(.an (.il Y0 (.c Y1)) (.il (.g Y0) (.c Y1)))] (.il Y0 (.c Y0)) [111] rfl this (bo (l^P.length)))
 have n1:=aI (evR P g)
 have n2:=aI (vF (n+1) w g)
 have n3:=aI ((l:Re)^P.length)
 rw[Ij,aq]
 generalize ab (evR P g)=x at *
 generalize ab (vF (n+1) w g)=y at *
 generalize ab ((l:Re)^P.length)=z at *
 generalize (((B^P.length:Nat):Int):Re)=b at *
 generalize ((((n+1)*((2*(3*B)^P.length+1)^n*R^(n+1)):Nat):Int):Re)=c at *
 clear hv hw0 hne hl' hw hz h h0 hg
 have a1:=ae (ae n1 n2) (show 0<=b-z by grind)
 have a2:=ae (ae n1 (show 0<=b by grind)) (show 0<=c-y by grind)
 grind
theorem G5{B:List Int}{s:Int}(hs:B.getLast?=some s)(s0:s≠0):∀ (n:Nat) (A:List Int),A.length<=n->∃ (c:Int) (q R:List Int),c≠0/\R.length<B.length/\∀t,c*ev A t=ev q t*ev B t+ev R t:=by
 have hB:0<B.length:=by cases B with|nil=>cases hs|cons _ _=>simp
 intro n
 induction n with
 |zero =>
  intro A hA
  exact ⟨1,[],A,by decide,by exact oqz [A.length,B.length] [] [(.le (0+1) Y1),(.le Y0 0)] (.le (Y0+1) Y1) [111] rfl hB hA,fun t=>by rw[bz];exact oqz [] [ev A t,ev B t] [] (.ie (.m 1 Y0) (.a (.m 0 Y1) Y0)) [1] rfl⟩
 |succ n ih =>
  intro A hA
  by_cases hl:A.length<B.length
  ·exact ⟨1,[],A,by decide,hl,fun t=>by rw[bz];exact oqz [] [ev A t,ev B t] [] (.ie (.m 1 Y0) (.a (.m 0 Y1) Y0)) [1] rfl⟩
  ·refine ay (kY (xs:=A) (n:=B.length) (by exact oqz [B.length,A.length] [] [(.no (.le (Y1+1) Y0))] (.le Y0 Y1) [11] rfl hl)) fun l0 l1 zq13 h1 h2=>?_;subst zq13
   have hne:l1≠[]:=fun h=>by rw[h] at h1;simp at h1;exact oqz [B.length] [] [(.le (0+1) Y0),(.eq 0 Y0)] .ff [101] rfl hB h1
   obtain ⟨m,hm⟩:∃m,l1.getLast?=some m:=by
    cases hh:l1.getLast? with
    |none=>exact absurd (List.getLast?_eq_none_iff.mp hh) hne
    |some m=>exact ⟨m,rfl⟩
   have eD:=fun t=>qV (s:=s) (m:=m) (l0:=l0) h1 t
   have lD:(wlo s m l0 l1 B).getLast?=some 0:=by
    have:=iI (s:=s) (m:=m) h1 hm hs
    rw[wlo,JT,this,Int.sub_self];rfl
   have nD:=j7 (s:=s) (m:=m) (l0:=l0) h1
   generalize wlo s m l0 l1 B=D at *
   obtain ⟨D0,rfl⟩:=List.getLast?_eq_some_iff.mp lD
   rw[Hl] at nD hA
   refine cV (ih D0 (by rw[HE] at nD;exact oqz [D0.length,n,B.length,l0.length,l1.length] [] [(.le (Y3+Y4) (Y1+1)),(.eq Y4 Y2),(.eq (Y0+1) (Y3+Y2))] (.le Y0 Y1) [11011] rfl hA h1 nD)) fun c q R hc hR e=>?_
   obtain ⟨q2,hq2⟩:=((PF.ev q).add ((q8 l0.length).smul (c*m)))
   refine ⟨c*s,q2,R,It hc s0,hR,fun t=>?_⟩
   have h3:=e t
   have h4:=eD t
   rw[lO] at h4
   rw[h4] at h3
   rw[<- hq2]
   grind
theorem Bq{F:List Int}{g:Re}(tF:Tr F)(hg:evR F g=0):∃K:List Int,Tr K/\evR K g=0/\∀xs:List Int,xs.length<K.length->evR xs g=0->∀x∈xs,x=0:=by
 refine ac (oz (P:=fun n=>∃K:List Int,Tr K/\evR K g=0/\K.length=n) ⟨_,F,tF,hg,rfl⟩) fun n zq12 hmin=>?_;obtain ⟨K,tK,hK,rfl⟩:=zq12
 refine ⟨K,tK,hK,fun xs hl h0=>?_⟩
 refine cw (oI xs) fun ys hy e ly=>?_
 rcases hy with rfl|ty
 ·exact nS fun t=>by rw[e,bz]
 ·have:=hmin _ ⟨ys,ty,by rw[<- jV e,h0],rfl⟩
  omega
theorem Be{F K:List Int}{g:Re}{s:Int}(hs:K.getLast?=some s)(s0:s≠0)(hg:evR F g=0)(hK:evR K g=0)(hmin:∀xs:List Int,xs.length<K.length->evR xs g=0->∀x∈xs,x=0):Dv (ev K) (ev F):=by
 refine cV (G5 hs s0 F.length F (Ht _)) fun c q R hc hR e=>?_
 have eR:=jV (xs:=smul c F) (ys:=eZ (cn q K) R) (fun t=>by rw[bU,e,e5,c8]) g
 rw[bX,gz,fy,hg,hK] at eR
 have z:=hmin R hR (by grind)
 have zR:∀t,ev R t=0:=by
  intro t
  clear e eR hR
  induction R with
  |nil=>exact bz t
  |cons x r ih=>rw[aF,z x Hy,ih fun y hy=>z y (Hz _ hy),HS];rfl
 exact ⟨c,ev q,hc,PF.ev q,fun t=>by rw[e,zR,HO,Ir]⟩
theorem nc(xs:List Int)(t:Int):((ev xs t:Int):Re)=evR xs (t:Re):=by
 cases xs with
 |nil=>rw[bz,ax];rfl
 |cons c r=>unfold ev;rw[gb (t:=(t:Re)) (show ((1:Int):Re)*(t:Re)=t by show (1:Re)*_=_;grind)];show (1:Re)^_*_=_;rw[Lean.Grind.Semiring.one_pow];grind
theorem D8{F:List Int}(tF:Tr F):∃ms:List Int,ms.length=F.length/\ms.Pairwise (·≠·)/\∀m∈ms,m.natAbs<=2*F.length/\ev F m≠0:=by
 have hp:((List.range (2*F.length)).map fun (k:Nat)=>(k:Int)).Pairwise (·≠·):=JA.mpr (List.nodup_range.imp fun h e=>h (Int.ofNat_inj.mp e))
 have hb:∀m∈(List.range (2*F.length)).map (fun (k:Nat)=>(k:Int)),m.natAbs<=2*F.length:=fun m hm=>by
  refine ac (HP.mp hm) fun k hk zq11=>?_;subst zq11
  have:=JE.mp hk
  exact oqz [(↑k:Int).natAbs,k,F.length] [] [(.le (Y1+1) (.m 2 Y2)),(ona (.c Y1) Y0)] (.le Y0 (.m 2 Y2)) [1011] rfl this (bm ((↑k:Int)))
 have hl:((List.range (2*F.length)).map fun (k:Nat)=>(k:Int)).length=2*F.length:=by rw[Hi,JB]
 generalize (List.range (2*F.length)).map (fun (k:Nat)=>(k:Int))=X at *
 have hs:=nM (fun m=>ev F m == 0) X
 have h1:=EQ (rs:=(X.filter fun m=>ev F m == 0).map fun (m:Int)=>(m:Re)) tF (JA.mpr ((hp.sublist Kt).imp fun h e=>h (ft e))) (fun r hr=>by
  refine ac (HP.mp hr) fun m hm zq10=>?_;subst zq10
  have h0:ev F m=0:=by simpa using (J4.mp hm).2
  rw[<- nc,h0,ax])
 rw[Hi] at h1
 refine ⟨(X.filter fun m=>!(ev F m == 0)).take F.length,by rw[Kk];exact oqz [min F.length (List.filter (fun m=>!ev F m == 0) X).length,F.length,(List.filter (fun m=>!ev F m == 0) X).length,X.length,(List.filter (fun m=>ev F m == 0) X).length] [] [(.eq Y3 (.m 2 Y1)),(.eq Y3 (Y4+Y2)),(.le (Y4+1) Y1),(.or (.an (.le Y1 Y2) (.eq Y0 Y1)) (.an (.le Y2 Y1) (.eq Y0 Y2)))] (.eq Y0 Y1) [100000001,100101101,10000001,11000001] rfl hl hs h1 (Mine.oh (F.length) ((List.filter (fun m=>!ev F m == 0) X).length)),(hp.sublist Kt).sublist (List.take_sublist ..),fun m hm=>?_⟩
 obtain ⟨a,b⟩:=J4.mp (List.mem_of_mem_take hm)
 exact ⟨hb m a,by simpa using b⟩
theorem xu{F A h:List Int}{K:Nat}(tF:Tr F)(hl:F.length<=13)(sF:AllSm K F)(hA:A.length<=F.length)(e:∀t,ev F t=ev A t*ev h t):AllSm (K+172) A:=by
 refine cw (D8 tF) fun ms m1 m2 m3=>?_
 have hT:∀m∈ms,m.natAbs<=26:=fun m hm=>Hj (m3 m hm).1 (by exact oqz [F.length] [] [(.le Y0 13)] (.le (.m 2 Y0) 26) [21] rfl hl)
 have:=yH (T:=26) (ms:=ms) (xs:=A) (B:=2^(K+92)) (by rw[m1];exact hA) m2 hT (fun m hm=>by
  have s5:Sm 5 m:=HT (hT m hm) (by decide)
  have hv:Sm (K+1+F.length*7) (ev F m):=j0 s5 (by unfold Sm;decide) sF
  have hv2:(ev F m).natAbs<=2^(K+92):=JJ (hv.mono (l:=K+92) (by exact oqz [K,F.length] [] [(.le Y1 13)] (.le (.a (Y0+1) (.r Y1 7)) (Y0+92)) [71] rfl hl))
  have h0:=(m3 m hm).2
  rw[e] at h0 hv2
  rw[HV] at hv2
  exact Hj (Ie _ (Je.mpr fun g=>h0 (by rw[g,HS]))) hv2)
 intro x hx
 refine HT (this x hx) ?_
 have h1:(2*26+2)^ms.length<=2^78:=Hj (Ib (by decide) (show ms.length<=13 by exact oqz [ms.length,F.length] [] [(.le Y1 13),(.eq Y0 Y1)] (.le Y0 13) [111] rfl hl m1)) (by decide)
 refine HT (HK _ h1) ?_
 rw[<- Jn]
 exact Nat.pow_lt_pow_right (by decide) (by exact oqz [K] [] [] (.le (Y0+92+78+1) (Y0+172)) [1] rfl)
noncomputable def jp:List Int->Re->List Re
 | [],_=>[]
 |c::r,g=>iz g 1 (c:Re) (jp r g)
theorem E6(c:Int)(r:List Int)(g:Re):jp (c::r) g=iz g 1 (c:Re) (jp r g):=rfl
theorem rN(g z:Re):∀xs:List Int,evl (jp xs g) z=evR xs (g+z)
 | []=>rfl
 |c::r=>by rw[E6,pK,rN g z r,aO];grind
theorem jX(g:Re):∀xs:List Int,(jp xs g).length=xs.length
 | []=>rfl
 |c::r=>by rw[E6,pR,jX g r,List.length_cons]
theorem uD(g:Re):∀ (r:List Int) (c d:Int),∃r2,jp (c::d::r) g=evR (c::d::r) g::dR (c::d::r) g::r2
 | [],c,d=>⟨[],by
  show iz g 1 (c:Re) (iz g 1 (d:Re) [])=_
  rw[uA,iG,uA,aO,aO,d3,jJ,aO,d3,jJ,d3,Cf]
  congr 1
  ·grind
  ·congr 1;grind⟩
 |x::r,c,d=>by
  obtain ⟨r2,e⟩:=uD g r d x
  refine ⟨iz g 1 (dR (d::x::r) g*1) r2,?_⟩
  rw[E6,e,iG,iG,aO c,jJ c]
  congr 1
  ·grind
  ·congr 1;grind
theorem yi{g:Re}{b:Nat}{B:Int}(hg:ab g<=(B:Re))(hB:0<=B):∀ {xs:List Int},AllSm b xs->∀y∈jp xs g,ab y<=((2^b*(1+B)^xs.length:Int):Re)
 | [],_,y,hy=>nomatch hy
 |c::r,h,y,hy=>by
  have p1:(1:Int)<=(1+B)^r.length:=Iq (by exact oqz [] [B] [(.il 0 Y0)] (.il (0+1) (1+Y0)) [11] rfl hB)
  have p2:(1:Int)<=2^b:=Iq (by decide)
  have hc:=h.hd
  unfold Sm at hc
  have e2:((2^b:Nat):Int)=(2:Int)^b:=I6 2 b
  have q:=Kb p1 (show (0:Int)<=2^b by exact oqz [] [2^b] [(.il 1 Y0)] (.il 0 Y0) [11] rfl p2)
  have:=tG (a:=g) (C:=2^b*(1+B)^r.length) hg hB (by exact oqz [] [2^b*(1+B)^r.length,2^b] [(.il 1 Y1),(.il (.r Y1 1) Y0)] (.il 0 Y0) [111] rfl p2 q) (xs:=jp r g) (c:=(c:Re)) (dN (by exact oqz [c.natAbs,2^b] [2^b*(1+B)^r.length,c,2^b] [(.le (Y0+1) Y1),(.ie (.c Y1) Y2),(.il (.r Y2 1) Y0),(.an (.il Y1 (.c Y0)) (.il (.g Y1) (.c Y0)))] (.il (.g Y0) Y1) [1010111] rfl hc e2 q (bo (c))) (by exact oqz [c.natAbs,2^b] [c,2^b*(1+B)^r.length,2^b] [(.le (Y0+1) Y1),(.ie (.c Y1) Y2),(.il (.r Y2 1) Y1),(.an (.il Y0 (.c Y0)) (.il (.g Y0) (.c Y0)))] (.il Y0 Y1) [110111] rfl hc e2 q (bo (c)))) (yi hg hB h.tl) y hy
  refine gL this (Int.le_of_eq ?_)
  rw[List.length_cons,Ig];grind
noncomputable def pF:Nat->(Nat->Re)->Re->Re
 |0,_,_=>0
 |m+1,X,t=>pF m X t+X m*t^m
theorem pFC(m:Nat)(X:Nat->Re)(t:Re):pF (m+1) X t=pF m X t+X m*t^m:=rfl
noncomputable def pre(X:Nat->Re):Nat->Re
 |0=>0
 |k+1=>X k
noncomputable def stF(u v:Re)(X:Nat->Re):Nat->Re:=fun k=>v*pre X k-u*X k
theorem rE(X:Nat->Re)(t:Re):∀m,pF (m+1) (pre X) t=t*pF m X t
 |0=>by show 0+0*t^0=t*0;grind
 |m+1=>by rw[pFC,rE X t m,pFC m X];show _+X m*t^(m+1)=_;rw[Hn];grind
theorem lL(a b:Re)(X Y:Nat->Re)(t:Re):∀m,pF m (fun k=>a*X k+b*Y k) t=a*pF m X t+b*pF m Y t
 |0=>by show (0:Re)=a*0+b*0;grind
 |m+1=>by rw[pFC,pFC,pFC,lL a b X Y t m];grind
theorem Gx(u v:Re)(X:Nat->Re)(t:Re){m:Nat}(h:X m=0):pF (m+1) (stF u v X) t=(v*t-u)*pF m X t:=by
 have e:stF u v X=fun k=>v*pre X k+(-u)*X k:=funext fun k=>by unfold stF;grind
 rw[e,lL,rE,pFC,h];grind
noncomputable def bR(m k:Nat):Re:=((bnm m k:Int):Re)
theorem jU(m:Nat):bR (m+1)=fun k=>1*pre (bR m) k+1*bR m k:=funext fun k=>by
 cases k with
 |zero=>unfold bR;show ((bnm (m+1) 0:Int):Re)=1*0+1*((bnm m 0:Int):Re);rw[jP,jP];grind
 |succ k=>show ((bnm (m+1) (k+1):Int):Re)=1*((bnm m k:Int):Re)+1*((bnm m (k+1):Int):Re);rw[lK,bq];grind
theorem Ar(m:Nat):bR m (m+1)=0:=by unfold bR;rw[eV (IA m),ax]
theorem Cp(t:Re):∀m,pF (m+1) (bR m) t=(1+t)^m
 |0=>by rw[pFC];show 0+((bnm 0 0:Int):Re)*t^0=_;rw[jP];show 0+(1:Re)*t^0=_;rw[Hr,Hr];grind
 |m+1=>by rw[jU,lL,rE,pFC (m+1) (bR m),Ar,Cp t m,Hn];grind
noncomputable def sF(u v:Re):List Re->Nat->Re
 | []=>fun _=>0
 |c::r=>fun k=>c*bR r.length k+stF u v (sF u v r) k
theorem sFC(u v c:Re)(r:List Re):sF u v (c::r)=fun k=>c*bR r.length k+1*stF u v (sF u v r) k:=funext fun k=>by show c*_+stF u v (sF u v r) k=_;grind
theorem kq(u v:Re):∀ (r:List Re) (k:Nat),r.length<=k->sF u v r k=0
 | [],k,_=>rfl
 |c::r,k,h=>by
  rw[List.length_cons] at h
  obtain ⟨j,rfl⟩:∃j,k=j+1:=⟨k-1,by exact oqz [k,k-1,r.length] [] [(.le (Y2+1) Y0),(osb Y0 1 Y1)] (.eq Y0 (Y1+1)) [10001,1011,1001,101] rfl h (am (k) (1))⟩
  rw[sFC]
  show c*bR r.length (j+1)+1*(v*sF u v r j-u*sF u v r (j+1))=0
  rw[kq u v r j (by exact oqz [r.length,j] [] [(.le (Y0+1) (Y1+1))] (.le Y0 Y1) [11] rfl h),kq u v r (j+1) (by exact oqz [r.length,j] [] [(.le (Y0+1) (Y1+1))] (.le Y0 (Y1+1)) [11] rfl h)]
  unfold bR
  rw[eV (by exact oqz [r.length,j] [] [(.le (Y0+1) (Y1+1))] (.le (Y0+1) (Y1+1)) [11] rfl h),ax];grind
theorem w6{u v t z:Re}(hz:(1+t)*z=v*t-u):∀r:List Re,(1+t)*pF r.length (sF u v r) t=(1+t)^r.length*evl r z
 | []=>by show (1+t)*0=_*0;grind
 |c::r=>by
  rw[List.length_cons,sFC,lL,Cp,Gx u v _ t (kq u v r _ (Ht _)),eF,Hn]
  have ih:=w6 hz r
  generalize pF r.length (sF u v r) t=x at *
  generalize evl r z=y at *
  generalize (1+t)^r.length=p at *
  rw[<- hz]
  clear hz
  grind
noncomputable def zz(w:Re):List Re->Re
 | []=>0
 |c::r=>ab c+w*zz w r
theorem zzC(w c:Re)(r:List Re):zz w (c::r)=ab c+w*zz w r:=rfl
theorem pb{w:Re}(hw:0<=w):∀r:List Re,0<=zz w r
 | []=>IH _
 |c::r=>by rw[zzC];have:=aI c;have:=ae hw (pb hw r);grind
theorem yc(m k:Nat):0<=bR m k:=by
 have h:0<=bnm m k:=by
  induction m generalizing k with
  |zero=>cases k with
   |zero=>decide
   |succ k=>rw[Bd];decide
  |succ m ih=>cases k with
   |zero=>rw[jP];decide
   |succ k=>rw[lK];exact Int.add_nonneg (ih k) (ih (k+1))
 unfold bR;rw[<- ax];exact aZ h
theorem qN(x y:Re):ab (x+y)<=ab x+ab y:=by have:=d7 x;have:=d7 y;exact iF (by grind) (by grind)
theorem EK{x y u v w a b:Re}(hu:0<=u)(hv:0<=v)(hu':u<=w)(hv':v<=w)(hx:ab x<=a)(hy:ab y<=b):ab (v*x-u*y)<=w*(a+b):=by
 have a1:=d7 x;have a2:=d7 y
 have n1:=aI x;have n2:=aI y
 have k1:=ae hv (show 0<=a-x by grind)
 have k2:=ae hv (show 0<=a+x by grind)
 have k3:=ae hu (show 0<=b-y by grind)
 have k4:=ae hu (show 0<=b+y by grind)
 have k5:=ae (show 0<=w-v by grind) (show 0<=a by grind)
 have k6:=ae (show 0<=w-u by grind) (show 0<=b by grind)
 clear hx hy hu' hv' hu hv a1 a2 n1 n2
 exact iF (by grind) (by grind)
theorem q9{u v w Z:Re}{X:Nat->Re}{m:Nat}(hu:0<=u)(hv:0<=v)(hu':u<=w)(hv':v<=w)(h:∀k,ab (X k)<=Z*bR m k)(k:Nat):ab (stF u v X k)<=(w*Z)*bR (m+1) k:=by
 have e:=congrFun (jU m) k
 have hp:ab (pre X k)<=Z*pre (bR m) k:=by
  cases k with
  |zero=>show ab 0<=Z*0;rw[show ab 0=0 by unfold ab;rw[if_pos (IH _)]];grind
  |succ j=>exact h j
 have:=EK hu hv hu' hv' hp (h k)
 unfold stF
 rw[e]
 clear e h hp
 grind
theorem wM{u v w:Re}(hu:0<=u)(hv:0<=v)(hu':u<=w)(hv':v<=w)(hw:0<=w):∀ (r:List Re) (c:Re) (k:Nat),ab (sF u v (c::r) k)<=zz w (c::r)*bR r.length k
 | [],c,k=>by
  rw[sFC,zzC]
  show ab (c*bR 0 k+1*(v*pre (fun _=>0) k-u*0))<=(ab c+w*0)*bR 0 k
  rw[show pre (fun _=>(0:Re)) k=0 by cases k <;> rfl,show c*bR 0 k+1*(v*0-u*0)=c*bR 0 k by grind,dk]
  have:ab (bR 0 k)=bR 0 k:=by unfold ab;rw[if_pos (yc 0 k)]
  rw[this];grind
 |d::r,c,k=>by
  have ih:=q9 (m:=r.length) hu hv hu' hv' (wM hu hv hu' hv' hw r d) k
  rw[sFC,zzC,List.length_cons]
  dsimp only
  have h1:ab (c*bR (r.length+1) k)=ab c*bR (r.length+1) k:=by
   rw[dk];congr 1;unfold ab;rw[if_pos (yc _ k)]
  have:=qN (c*bR (r.length+1) k) (1*stF u v (sF u v (d::r)) k)
  rw[h1,show 1*stF u v (sF u v (d::r)) k=stF u v (sF u v (d::r)) k by grind] at this
  rw[show 1*stF u v (sF u v (d::r)) k=stF u v (sF u v (d::r)) k by grind]
  clear h1
  grind
theorem ka:∀n k:Nat,((k:Int)+1)*bnm (n+1) (k+1)=((n:Int)+1)*bnm n k
 |0,0=>by decide
 |0,k+1=>by rw[lK,Bd,Bd];grind
 |n+1,0=>by
  have:=ka n 0
  rw[jP] at this
  rw[lK,jP,show ((n+1:Nat):Int)=(n:Int)+1 from rfl];grind
 |n+1,k+1=>by
  have h1:=ka n (k+1)
  have h2:=ka n k
  rw[lK (n+1) (k+1),show ((n+1:Nat):Int)=(n:Int)+1 from rfl,show ((k+1:Nat):Int)=(k:Int)+1 from rfl] at *
  have h3:=lK n k
  grind
theorem DJ(n:Nat):∀k:Nat,(((k:Int):Int):Re)*bR (n+1) k=(((n:Int)+1:Int):Re)*pre (bR n) k
 |0=>by show ((0:Int):Re)*_=_*0;rw[ax];grind
 |k+1=>by
  have:=congrArg (fun z:Int=>(z:Re)) (ka n k)
  rw[aq,aq] at this
  exact this
theorem mU:∀ {n k:Nat},k<=n->0<bR n k
 |n,0,_=>by unfold bR;rw[jP];exact rA
 |0,k+1,h=>absurd h (Nat.not_succ_le_zero k)
 |n+1,k+1,h=>by
  rw[congrFun (jU n) (k+1)]
  have h1:=mU (I0 h)
  have h2:=yc n (k+1)
  show 0<1*bR n k+1*bR n (k+1)
  grind
theorem xY(u v:Re)(n k:Nat):(((n:Int)+1:Int):Re)*stF u v (bR n) k=bR (n+1) k*((u+v)*((k:Int):Re)-u*(((n:Int)+1:Int):Re)):=by
 have h1:=DJ n k
 have h2:=congrFun (jU n) k
 unfold stF
 generalize pre (bR n) k=x at *
 generalize bR n k=y at *
 generalize bR (n+1) k=z at *
 generalize (((n:Int)+1:Int):Re)=N at *
 generalize ((k:Int):Re)=K at *
 grind
section
variable {u v θ:Re}{r:List Re}
theorem zi(u v θ:Re)(r:List Re)(k:Nat):sF u v (0::θ::r) k=θ*stF u v (bR r.length) k+stF u v (stF u v (sF u v r)) k:=by
 have e:sF u v (θ::r)=fun k=>θ*bR r.length k+stF u v (sF u v r) k:=rfl
 show 0*_+stF u v (sF u v (θ::r)) k=_
 rw[e]
 cases k with
 |zero=>show 0*_+(v*0-u*_)=θ*(v*0-u*_)+(v*0-u*_);grind
 |succ k=>show 0*_+(v*(θ*bR r.length k+stF u v (sF u v r) k)-u*_)=θ*(v*bR r.length k-u*_)+(v*stF u v (sF u v r) k-u*_);grind
theorem BI(hu:0<=u)(hv:0<=v)(k:Nat):ab (stF u v (sF u v r) k)<=(u+v)*zz (u+v) r*bR r.length k:=by
 have hw:0<=u+v:=by grind
 cases r with
 |nil =>
  rw[show stF u v (sF u v []) k=0 by show v*pre (fun _=>0) k-u*0=0;rw[show pre (fun _=>(0:Re)) k=0 by cases k <;> rfl];grind]
  show ab 0<=(u+v)*0*_
  rw[show ab 0=0 by unfold ab;rw[if_pos (IH _)]];grind
 |cons c r=>exact q9 hu hv (by grind) (by grind) (wM hu hv (by grind) (by grind) hw r c) k
theorem xe(hu:0<=u)(hv:0<=v)(k:Nat):ab (stF u v (stF u v (sF u v r)) k)<=((u+v)*((u+v)*zz (u+v) r))*bR (r.length+1) k:=q9 hu hv (by grind) (by grind) (BI hu hv) k
theorem Ax{x y N b b' m m' e e' W T:Re}(hN:0<N)(hb:0<b)(hb':0<b')(h1:N*x=b*m+N*e)(h2:N*y=b'*m'+N*e')(he:ab e<=W*b)(he':ab e'<=W*b')(hx:0<x)(hm:m+T<=m')(hT:N*W+N*W<T):0<y:=by
 have k1:=d7 e;have k2:=d7 e'
 have p1:=mul_pos hN hx
 have p2:=ae (Hu hN) (show 0<=W*b-e by grind)
 have p3:=ae (Hu hN) (show 0<=W*b'+e' by grind)
 have p4:0<b*(m+N*W):=by grind
 have p5:0<m+N*W:=ll (by rw[Jq];exact p4) hb
 have p6:=mul_pos hb' (show 0<m'-N*W by grind)
 have p7:0<y*N:=by grind
 exact ll p7 hN
theorem vi{x W b θ:Re}(hb:0<b)(he:ab x<=W*b)(hW:W<θ):0<θ*b+x:=by
 have k:=d7 x
 have:=mul_pos hb (g8 hW)
 grind
theorem Eh(hu:0<u)(hv:0<v)(h:(((r.length:Int)+1:Int):Re)*((u+v)*zz (u+v) r)+(((r.length:Int)+1:Int):Re)*((u+v)*zz (u+v) r)<θ) :
  ∃m M,UpL r.length m M/\(List.range (r.length+2)).map (sF u v (0::θ::r))=m::M:=by
 have w0:0<u+v:=by grind
 have hN:0<(((r.length:Int)+1:Int):Re):=aP (by exact oqz [r.length] [] [] (.il (0+1) (.a (.c Y0) 1)) [1] rfl)
 have hN1:(1:Re)<=(((r.length:Int)+1:Int):Re):=aZ (show (1:Int)<=(r.length:Int)+1 by exact oqz [r.length] [] [] (.il 1 (.a (.c Y0) 1)) [1] rfl)
 have zn:=ae (Hu w0) (pb (Hu w0) r)
 have hW:(u+v)*zz (u+v) r<θ:=by
  have:=ae zn (show 0<=(((r.length:Int)+1:Int):Re)-1 by grind)
  generalize (u+v)*zz (u+v) r=W at *
  have:=ae zn (Hu hN)
  grind
 have e1:=fun k=>BI (r:=r) (Hu hu) (Hu hv) k
 have ps:∀k,k<=r.length->0<sF u v (θ::r) k:=fun k hk=>vi (mU hk) (e1 k) hW
 have c0:sF u v (0::θ::r) 0=-(u*sF u v (θ::r) 0):=by show 0*_+(v*0-u*_)=_;grind
 have cN:sF u v (0::θ::r) (r.length+1)=v*sF u v (θ::r) r.length:=by
  show 0*_+(v*sF u v (θ::r) r.length-u*sF u v (θ::r) (r.length+1))=_
  rw[kq u v (θ::r) (r.length+1) (Ht _)];grind
 have hup:∀j k,j<k->k<=r.length+1->0<sF u v (0::θ::r) j->0<sF u v (0::θ::r) k:=fun j k hjk hk hx=>by
  have m1:=xY u v r.length j
  have m2:=xY u v r.length k
  have t1:=zi u v θ r j
  have t2:=zi u v θ r k
  have d1:=xe (r:=r) (Hu hu) (Hu hv) j
  have d2:=xe (r:=r) (Hu hu) (Hu hv) k
  have hjk':(((j:Int):Re))+1<=((k:Int):Re):=by have:=aZ (show (j:Int)+1<=(k:Int) by exact oqz [j,k] [] [(.le (Y0+1) Y1)] (.il (.a (.c Y0) 1) (.c Y1)) [11] rfl hjk);rw[bq] at this;exact this
  have θ0:0<θ:=qf zn hW
  refine Ax (N:=(((r.length:Int)+1:Int):Re)) (b:=bR (r.length+1) j) (b':=bR (r.length+1) k) (m:=θ*((u+v)*((j:Int):Re)-u*(((r.length:Int)+1:Int):Re))) (m':=θ*((u+v)*((k:Int):Re)-u*(((r.length:Int)+1:Int):Re))) (W:=(u+v)*((u+v)*zz (u+v) r)) (T:=θ*(u+v)) hN (mU (by exact oqz [j,r.length,k] [] [(.le (Y0+1) Y2),(.le Y2 (Y1+1))] (.le Y0 (Y1+1)) [111] rfl hjk hk)) (mU hk) (by rw[t1];clear t1 t2 d1 d2 m2;grind) (by rw[t2];clear t1 t2 d1 d2 m1;grind) d1 d2 hx ?_ ?_
  ·have:=ae (ae (Hu θ0) (Hu w0)) (dH hjk')
   clear m1 m2 t1 t2 d1 d2
   grind
  ·have:=mul_pos w0 (g8 h)
   clear m1 m2 t1 t2 d1 d2
   grind
 have hl:(List.range (r.length+2)).map (sF u v (0::θ::r))=sF u v (0::θ::r) 0::(List.range (r.length+1)).map fun k=>sF u v (0::θ::r) (k+1):=by
  rw[show List.range (r.length+2)=0::(List.range (r.length+1)).map Nat.succ from Ka,Hw,Ia];rfl
 refine ⟨sF u v (0::θ::r) 0,(List.range (r.length+1)).map fun k=>sF u v (0::θ::r) (k+1),⟨?_,?_,⟨sF u v (0::θ::r) (r.length+1),?_,?_⟩,by rw[Hi,JB]⟩,?_⟩
 ·rw[<- hl]
  refine JA.mpr (List.pairwise_lt_range.imp_of_mem fun {j k} hj hk hjk hx=>Hu (hup j k hjk ?_ hx))
  have:=JE.mp hk
  exact oqz [k,r.length] [] [(.le (Y0+1) (Y1+2))] (.le Y0 (Y1+1)) [11] rfl this
 ·rw[c0];have:=mul_pos hu (ps 0 (HQ _));grind
 ·rw[List.range_succ,HF,JT];rfl
 ·rw[cN];exact mul_pos hv (ps _ (Ht _))
 ·exact hl
end
theorem AW(X:Nat->Re)(t:Re):∀n:Nat,evl ((List.range n).map X) t=pF n X t:=by
 intro n
 induction n generalizing X with
 |zero=>rfl
 |succ n ih =>
  have h2:pF (n+1) X t=X 0+t*pF n (fun i=>X (i+1)) t:=by
   clear ih
   induction n with
   |zero=>rw[pFC];show 0+_*t^0=_+t*0;rw[Hr];grind
   |succ n ih=>rw[pFC,ih,pFC,Hn];grind
  rw[h2,<- ih,Ka,Hw,Ia,eF];rfl
theorem xS{σ:Re}(h:ab σ=1)(w:Re):∀r:List Re,zz w (r.map (σ*·))=zz w r
 | []=>rfl
 |c::r=>by rw[Hw,zzC,zzC,xS h w r,dk,h];grind
theorem yC{w z:Re}(h1:ab z<=w):∀r:List Re,ab (evl r z)<=zz w r
 | []=>by show ab 0<=0;rw[show ab 0=0 by unfold ab;rw[if_pos (IH _)]];exact IH _
 |c::r=>by
  rw[eF,zzC]
  have k1:=qN c (z*evl r z)
  have k2:=yC h1 r
  rw[dk] at k1
  have:=ae (aI z) (dH k2)
  have:=ae (dH h1) (show 0<=zz w r by have:=aI (evl r z);grind)
  grind
theorem xE{K:List Int}{g lo hi:Re}{p1 q1 p2 q2:Int}{n:Int}(hK:K≠[])(h1:0<q1)(h2:0<q2)(e1:(q1:Re)*lo=p1)(e2:(q2:Re)*hi=p2)(hn:0<n) :
  evR (hs (p1*q2) (p2*q1) (q1*q2) K) n=((q1*q2:Int):Re)^(K.length-1)*pF K.length (sF (g-lo) (hi-g) (jp K g)) n:=by
 have s0:=aP (HG h1 h2)
 have eb:((p1*q2:Int):Re)=((q1*q2:Int):Re)*lo:=by rw[aq,aq,<- e1];grind
 have ee:((p2*q1:Int):Re)=((q1*q2:Int):Re)*hi:=by rw[aq,aq,<- e2];grind
 cases K with
 |nil=>exact absurd rfl hK
 |cons d r =>
  have hQ:0<q1*q2+q1*q2*n:=by have:=HG h1 h2;have:=HG this hn;omega
  have v1:=ue n 1 (p1*q2) (p2*q1) (q1*q2) (q1*q2) (xs:=d::r)
  rw[Id,Id,<- BH] at v1
  have hy:=bI (p:=p1*q2+p2*q1*n) (Ho hQ)
  have v2:=gb hy r d
  have v3:=nc (hs (p1*q2) (p2*q1) (q1*q2) (d::r)) n
  unfold ev at v3
  rw[<- v3,v1,v2,List.length_cons,Nat.add_sub_cancel]
  generalize rq (p1*q2+p2*q1*n) (q1*q2+q1*q2*n)=y at *
  rw[bq,bq,aq (p2*q1),aq (q1*q2) n,eb,ee] at hy
  rw[bq,aq (q1*q2) n]
  have n0:0<1+(n:Re):=by have:=aP hn;have:=rA;grind
  have hz:(1+(n:Re))*(y-g)=(hi-g)*(n:Re)-(g-lo):=by
   refine ig (Ds s0) ?_
   generalize ((q1*q2:Int):Re)=s at *
   clear v1 v2 v3 eb ee e1 e2
   grind
  have k:=w6 hz (jp (d::r) g)
  rw[rN,jX,List.length_cons,Hn,show g+(y-g)=y by grind] at k
  have k2:pF (r.length+1) (sF (g-lo) (hi-g) (jp (d::r) g)) n=(1+(n:Re))^r.length*evR (d::r) y:=ig (Ds n0) (by rw[k];grind)
  rw[k2,show ((q1*q2:Int):Re)+((q1*q2:Int):Re)*n=((q1*q2:Int):Re)*(1+n) by grind,Ju]
  grind
noncomputable def Aln(row:List Int)(p1 q1 p2 q2:Int):Prop:=bh p1 q1 row≠0/\bh p2 q2 row≠0/\tv 0 (hs (p1*q2) (p2*q1) (q1*q2) row)=1
theorem B5{K:List Int}{g θ x w:Re}{r:List Re}(hK:jp K g=0::θ::r)(hw:ab (x-g)<=w)(hx:x≠g)(h:w*zz w r<ab θ):evR K x≠0:=fun h0=>by
 have e:=rN g (x-g) K
 rw[show g+(x-g)=x by grind,h0,hK,eF,eF] at e
 have d0:x-g≠0:=fun k=>hx (by grind)
 have k1:θ+(x-g)*evl r (x-g)=0:=bE (x:=x-g) (by rw[<- e];grind) d0
 have k2:=yC hw r
 have k3:ab θ=ab ((x-g)*evl r (x-g)):=by rw[<- oc];congr 1;grind
 rw[dk] at k3
 have:=ae (aI (x-g)) (dH k2)
 have:=ae (dH hw) (show 0<=zz w r by have:=aI (evl r (x-g));grind)
 grind
theorem yM(u v σ:Re):∀ (X:List Re) (k:Nat),sF u v (X.map (σ*·)) k=σ*sF u v X k
 | [],k=>by show (0:Re)=σ*0;grind
 |c::X,k=>by
  have e:sF u v (X.map (σ*·))=fun k=>σ*sF u v X k:=funext (yM u v σ X)
  rw[Hw,sFC,sFC,Hi,e]
  cases k with
  |zero=>show σ*c*bR X.length 0+1*(v*0-u*(σ*sF u v X 0))=σ*(c*bR X.length 0+1*(v*0-u*sF u v X 0));grind
  |succ k=>show σ*c*bR X.length (k+1)+1*(v*(σ*sF u v X k)-u*(σ*sF u v X (k+1)))=σ*(c*bR X.length (k+1)+1*(v*sF u v X k-u*sF u v X (k+1)));grind
theorem jz{K:List Int}{g lo hi θ:Re}{σ p1 q1 p2 q2:Int}{r:List Re}(hσ:σ=1\/σ=-1)(hK:jp K g=0::θ::r)(h1:0<q1)(h2:0<q2)(e1:(q1:Re)*lo=p1)(e2:(q2:Re)*hi=p2)(lt:lo<g)(gt:g<hi)
  (h:(((r.length:Int)+1:Int):Re)*((hi-lo)*zz (hi-lo) r)+(((r.length:Int)+1:Int):Re)*((hi-lo)*zz (hi-lo) r)<(σ:Re)*θ):Aln K p1 q1 p2 q2:=by
 have hne:K≠[]:=fun k=>by rw[k] at hK;cases hK
 have hab:ab (σ:Re)=1:=by
  rcases hσ with rfl|rfl
  ·show ab 1=1;unfold ab;rw[if_pos (Hu rA)]
  ·show ab (-1)=1;rw[oc];unfold ab;rw[if_pos (Hu rA)]
 have w0:0<hi-lo:=by grind
 have hW:(hi-lo)*zz (hi-lo) r<ab θ:=by
  have k1:(σ:Re)*θ<=ab θ:=by have:=(d7 ((σ:Re)*θ)).1;rw[dk,hab] at this;grind
  have zn:=ae (Hu w0) (pb (Hu w0) r)
  have hN1:(1:Re)<=(((r.length:Int)+1:Int):Re):=aZ (show (1:Int)<=(r.length:Int)+1 by exact oqz [r.length] [] [] (.il 1 (.a (.c Y0) 1)) [1] rfl)
  have:=ae zn (dH hN1)
  generalize (hi-lo)*zz (hi-lo) r=W at *
  clear hK hab
  grind
 refine ⟨fun h0=>?_,fun h0=>?_,?_⟩
 ·have k:=jb hne h1 e1
  rw[h0] at k
  exact B5 hK (x:=lo) (iF (by grind) (by grind)) (GT lt) hW (rsg_is0.mp (by rw[<- k];rfl))
 ·have k:=jb hne h2 e2
  rw[h0] at k
  exact B5 hK (x:=hi) (iF (by grind) (by grind)) (Ds gt) hW (rsg_is0.mp (by rw[<- k];rfl))
 ·have hlr:K.length=r.length+2:=by rw[<- jX g K,hK];rfl
  have h':=h
  rw[<- xS hab (hi-lo) r,show hi-lo=(g-lo)+(hi-g) by grind,<- Hi ((σ:Re)*·)] at h'
  refine cU (Eh (r:=r.map ((σ:Re)*·)) (θ:=(σ:Re)*θ) (g8 lt) (g8 gt) h') fun m M up eM=>?_
  have hs0:=aP (HG h1 h2)
  have pw:∀k:Nat,0<((q1*q2:Int):Re)^k:=fun k=>by
   induction k with
   |zero=>rw[Hr];exact rA
   |succ k ih=>rw[Hn];exact mul_pos ih hs0
  have hσ0:σ≠0:=by rcases hσ with rfl|rfl <;> decide
  have ht:=sK hσ0 (hs (p1*q2) (p2*q1) (q1*q2) K) 0
  rw[HS] at ht
  rw[<- ht]
  refine Dx up (pw (K.length-1)) (Au ?_ fun n hn=>?_)
  ·rw[bJ,gx,<- eM,Hi,JB,Hi,hlr]
  ·rw[bX,xE (g:=g) hne h1 h2 e1 e2 hn,<- eM,AW,Hi,<- hlr,hK]
   have eq:sF (g-lo) (hi-g) (0::(σ:Re)*θ::r.map ((σ:Re)*·))=fun k=>(σ:Re)*sF (g-lo) (hi-g) (0::θ::r) k+0*sF (g-lo) (hi-g) (0::θ::r) k:=funext fun k=>by
    have:=yM (g-lo) (hi-g) (σ:Re) (0::θ::r) k
    rw[Hw,Hw,show (σ:Re)*0=0 by grind] at this
    rw[this];grind
   rw[eq,lL];grind
noncomputable def Dr(f f':Re->Re):Prop:=∃w:Re->Re->Re,(∀t,PX fun s=>w t s)/\∀t s,f s=f t+(s-t)*(f' t+(s-t)*w t s)
theorem Dr.uniq{f f1 f2:Re->Re}(h1:Dr f f1)(h2:Dr f f2)(t:Re):f1 t=f2 t:=by
 refine ac (h1) fun w pw e=>?_
 refine ac (h2) fun v pv g=>?_
 have:=PX.cancel (u:=t) (f:=fun s=>f1 t+(s-t)*w t s) (g:=fun s=>f2 t+(s-t)*v t s) ((PX.lin 1 (PX.const (f1 t)) ((PX.x t).mul (pw t))).of fun s=>by grind) ((PX.lin 1 (PX.const (f2 t)) ((PX.x t).mul (pv t))).of fun s=>by grind) fun s=>by
  have:=e t s
  have:=g t s
  grind
 grind
theorem Dr.mul{f f' g g':Re->Re}(h1:Dr f f')(h2:Dr g g'):Dr (fun t=>f t*g t) fun t=>f' t*g t+f t*g' t:=by
 refine ac (h1) fun w pw e=>?_
 refine ac (h2) fun v pv k=>?_
 refine ⟨fun t s=>w t s*g t+f t*v t s+(f' t+(s-t)*w t s)*(g' t+(s-t)*v t s),fun t=>?_,fun t s=>by dsimp only;rw[e t s,k t s];grind⟩
 have p1:PX fun s=>f' t+(s-t)*w t s:=(PX.lin 1 (PX.const (f' t)) ((PX.x t).mul (pw t))).of fun s=>by grind
 have p2:PX fun s=>g' t+(s-t)*v t s:=(PX.lin 1 (PX.const (g' t)) ((PX.x t).mul (pv t))).of fun s=>by grind
 exact (PX.lin 1 (PX.lin (f t) ((pw t).mul (PX.const (g t))) (pv t)) (p1.mul p2)).of fun s=>by grind
theorem io(xs:List Int):Dr (evR xs) (dR xs):=⟨fun t s=>wR xs t s,fun t=>BV t xs,fun t s=>by rw[ze t s xs];grind⟩
theorem C4(u:Re):Dr (fun t=>t-u) fun _=>1:=⟨fun _ _=>0,fun _=>PX.const 0,fun t s=>by grind⟩
theorem Dr.of{f f' g g':Re->Re}(h:Dr f f')(e:∀t,f t=g t)(e':∀t,f' t=g' t):Dr g g':=(funext e:f=g) ▸ (funext e':f'=g') ▸ h
theorem BY:∀ {n:Nat}{f:Re->Re},PR n f->∃f',PX f'/\Dr f f'
 |0,f,hf=>⟨fun _=>0,PX.const 0,fun _ _=>0,fun _=>PX.const 0,fun t s=>by rw[hf,hf];grind⟩
 |n+1,f,⟨c,k,hk,e⟩=>by
  refine tI (BY hk) fun k' pk' w pw ek=>?_
  refine ⟨fun t=>k t+t*k' t,(PX.lin 1 ⟨n,hk⟩ pk'.tmul).of fun t=>by grind,fun t s=>k' t+s*w t s,fun t=>?_,fun t s=>by rw[e t,e s,ek t s];grind⟩
  exact (PX.lin 1 (PX.const (k' t)) (pw t).tmul).of fun s=>by grind
theorem xB{f:Re->Re}(h:PX f):∃f',PX f'/\Dr f f':=by obtain ⟨n,h⟩:=h;exact BY h
theorem fI(x:Re):1*x=x:=by grind
theorem nV{u:Re}:∀ {n:Nat}{f:Re->Re},PR n f->(∃t,f t≠0)->∃ (s:Nat) (g:Re->Re),PX g/\g u≠0/\∀t,f t=(t-u)^s*g t
 |0,f,hf,⟨t,ht⟩=>absurd (hf t) ht
 |n+1,f,hf,hne=>by
  by_cases h0:f u=0
  ·refine ac (hf.fac u) fun g hg e=>?_
   have e':∀t,f t=(t-u)*g t:=fun t=>by rw[e,h0];grind
   obtain ⟨t,ht⟩:=hne
   refine ay (nV (u:=u) hg ⟨t,fun h=>ht (by rw[e',h];grind)⟩) fun s k pk k0 ek=>?_
   exact ⟨s+1,k,pk,k0,fun t=>by rw[e',ek,Hn];grind⟩
  ·exact ⟨0,f,⟨n+1,hf⟩,h0,fun t=>by rw[Hr];grind⟩
theorem sG(u:Re):∀s:Nat,Dr (fun t=>(t-u)^(s+1)) fun t=>(((s:Int)+1:Int):Re)*(t-u)^s
 |0=>(C4 u).of (fun t=>by grind) fun t=>by rw[Hr];show (1:Re)=(1:Re)*1;grind
 |s+1=>((sG u s).mul (C4 u)).of (fun t=>by rw[<- Hn]) fun t=>by
  rw[show (((s+1:Nat):Int)+1:Int)=((s:Int)+1)+1 from rfl,bq ((s:Int)+1) 1,show ((1:Int):Re)=1 from rfl,Hn (t-u) s];grind
theorem iw{u:Re}{f g:Re->Re}(hf:PX f)(hg:PX g){s:Nat}(h:∀t,(t-u)^s*f t=(t-u)^s*g t):f u=g u:=
 hf.at hg fun t ht=>by
  have hn:∀s:Nat,(t-u)^s≠0:=fun s=>by
   induction s with
   |zero=>rw[Hr];exact jd
   |succ s ih=>rw[Hn];exact du ih fun e=>ht (by grind)
  exact ig (hn s) (h t)
theorem He{a b c g g' h h' E k:Re}(e:c*((k*a*g+a*b*g')*h+a*b*g*h')=a*b*g*E):a*(c*(k*g+b*g')*h)=a*(b*(g*(E-c*h'))):=by grind
theorem Hd{a b c D g g' D' h h' E:Re}(eD:D=a*g)(e:c*(D'*(b*(b*h))+D*h')=D*E)(e':D'*b=a*g'):a*(c*(b*(g'*h)))=a*(g*(E-c*h')):=by grind
theorem G3{g g' h:Re->Re}(pg:PX g)(pg':PX g')(ph:PX h)(c k u:Re):PX fun t=>c*(k*g t+(t-u)*g' t)*h t:=
 (((PX.const c).mul (PX.lin 1 ((PX.const k).mul pg) ((PX.x u).mul pg'))).mul ph).of fun t=>by grind
theorem Fh{g E h':Re->Re}(pg:PX g)(pE:PX E)(ph':PX h')(c:Re):PX fun t=>g t*(E t-c*h' t):=(pg.mul (PX.lin (-c) pE ph')).of fun t=>by grind
theorem Aa{D D' g:Re->Re}{u:Re}{s:Nat}(pg:PX g)(dD:Dr D D')(eg:∀t,D t=(t-u)^s*g t):∃g',PX g'/\∀t,D' t*(t-u)=(t-u)^s*g' t:=by
 refine ac (xB pg) fun g' pg' dg=>?_
 cases s with
 |zero =>
  have e:∀t,D' t=g' t:=fun t=>Dr.uniq dD (dg.of (fun t=>by rw[eg,Hr,fI]) fun t=>rfl) t
  exact ⟨fun t=>g' t*(t-u),pg'.mul (PX.x u),fun t=>by rw[e,Hr,fI]⟩
 |succ s =>
  have e:=fun t=>Dr.uniq dD (((sG u s).mul dg).of (fun t=>(eg t).symm) fun t=>rfl) t
  refine ⟨fun t=>(((s:Int)+1:Int):Re)*g t+(t-u)*g' t,(PX.lin 1 ((PX.const _).mul pg) ((PX.x u).mul pg')).of fun t=>by rw[fI ((t-u)*g' t)],fun t=>?_⟩
  rw[e,Hn]
  generalize (((s:Int)+1:Int):Re)=k
  clear e dD dg eg
  grind
section
variable {D h E U W:Re->Re}{D' h':Re->Re}{c2 c3 u:Re}
theorem vJ(pD:PX D)(ph:PX h)(pE:PX E)(ph':PX h')(hD:∃t,D t≠0)(dD:Dr D D')(dh:Dr h h')(e1:∀t,c2*(D' t*h t+D t*h' t)=D t*E t)(c20:c2≠0)(c30:c3≠0)
  (e2:∀t,c3*c2=c2*(U t*h t)+W t*E t) (h0:D u*h u=0):h u=0/\h' u≠0:=by
 obtain ⟨n,pn⟩:=id pD
 refine ay (nV (u:=u) pn hD) fun s g pg g0 eg=>?_
 have hu:h u=0:=by
  refine HW fun hn=>?_
  have D0:D u=0:=bE (x:=h u) (by rw[<- h0,Jq]) hn
  cases s with
  |zero=>exact g0 (by rw[<- D0,eg,Hr,fI])
  |succ s =>
   refine ac (xB pg) fun g' pg' dg=>?_
   have dD2:=fun t=>Dr.uniq dD (((sG u s).mul dg).of (fun t=>(eg t).symm) fun t=>rfl) t
   have k:=iw (u:=u) (s:=s) (G3 pg pg' ph c2 (((s:Int)+1:Int):Re) u) ((PX.x u).mul (Fh pg pE ph' c2)) fun t=>He (by
    have:=e1 t
    rw[dD2,eg,Hn] at this
    exact this)
   have c0:=du (du c20 (du (ci (show 0<(s:Int)+1 by exact oqz [s] [] [] (.il (0+1) (.a (.c Y0) 1)) [1] rfl)) g0)) hn
   generalize (((s:Int)+1:Int):Re)=m at *
   clear e1 e2 eg dD2 dD dg dh hD
   exact c0 (by grind)
 refine ⟨hu,fun hd=>?_⟩
 have hE:E u≠0:=fun h=>du c30 c20 (by rw[e2 u,hu,h];clear e1 e2 eg;grind)
 refine ac (ph.cut hu) fun h1 p1 eh1=>?_
 refine ac (xB p1) fun h1' p1' dh1=>?_
 have z1:h1 u=0:=by
  have:=Dr.uniq dh (((C4 u).mul dh1).of (fun t=>(eh1 t).symm) fun t=>rfl) u
  rw[hd] at this
  clear e1 e2 eg eh1
  grind
 refine ac (p1.cut z1) fun h2 p2 eh2=>?_
 refine ac (Aa pg dD eg) fun g' pg' eg'=>?_
 have k:=iw (u:=u) (s:=s) ((PX.const c2).mul ((PX.x u).mul (pg'.mul p2))) (Fh pg pE ph' c2) fun t=>Hd (eg t) (by have:=e1 t;rw[eh1 t,eh2 t] at this;exact this) (eg' t)
 rw[hd] at k
 have:=du g0 hE
 clear e1 e2 eg eg' eh1 eh2 dD dh dh1 hD
 exact this (by grind)
end
end Mine
namespace Mine
open PySem
theorem Ea{c d q a b y z lb l T:Int}(h3:c*a=q*b+d*y)(h4:z=lb*y-l*T*b):c*lb*a=(q*lb+d*(l*T))*b+d*z:=by grind
structure RsI (A B:List Int)(K L i:Nat)(ys:List Int):Prop where
 ty:ys=[]\/Tr ys
 hi:i+ys.length<=A.length
 hb:i<=A.length-B.length+1
 sy:AllSm (K+i*(L+1)) ys
 eq:∃ (c d:Int) (q:Int->Int),c≠0/\d≠0/\PF q/\∀t,c*ev A t=q t*ev B t+d*ev ys t
section
variable {A B zs l0 l1:List Int}{K L i k:Nat}{lb l lz:Int}
theorem uy(h1:l1.length=B.length)(hlb:B.getLast?=some lb)(hl:(l0++l1).getLast?=some l):(wlo lb l l0 l1 B).getLast?=some 0:=by
 have hne:l1≠[]:=fun h=>by
  rw[h] at h1
  cases B with
  |nil=>cases hlb
  |cons _ _=>cases h1
 have:=iI (s:=lb) (m:=l) h1 (oW hne hl) hlb
 rw[wlo,JT,this,show l*lb-l*lb=0 from Int.sub_self _];rfl
theorem RsI.step(h:RsI A B K L i (l0++l1))(h1:l1.length=B.length)(hlb:B.getLast?=some lb)(h0:lb≠0)(sB:AllSm L B)(hl:(l0++l1).getLast?=some l)(hz:wlo lb l l0 l1 B=zs++bO k)(tz:zs=[]\/Tr zs):RsI A B K L (i+1) zs:=by
 have lD:=uy h1 hlb hl
 have nD:(wlo lb l l0 l1 B).length=(l0++l1).length:=by rw[j7 h1,Hl,h1]
 have hlt:=qw hz tz lD
 have slb:=sB lb (HD hlb)
 have sl:=h.sy l (HD hl)
 have sD:=Ex (l0:=l0) (l1:=l1) slb sl (fun x hx=>h.sy x (JR _ hx)) (fun x hx=>h.sy x (List.mem_append_right _ hx)) sB
 refine bH (h.eq) fun c d q hc hd pq heq=>?_
 have pq':PF (fun t=>q t*lb+d*(l*t^l0.length)):=(pq.mul (.const lb)).add (((PF.const l).mul (q8 l0.length)).smul d)
 have hi:=h.hi
 refine ⟨tz,by rw[nD] at hlt;exact oqz [i,zs.length,A.length,(l0++l1).length] [] [(.le (Y1+1) Y3),(.le (Y0+Y3) Y2)] (.le (Y0+1+Y1) Y2) [111] rfl hlt hi,by have:=Hl (as:=l0) (bs:=l1);exact oqz [i,A.length-B.length,A.length,B.length,l1.length,(l0++l1).length,l0.length] [] [(.eq Y4 Y3),(.le (Y0+Y5) Y2),(.eq Y5 (Y6+Y4)),(.an (.le Y2 (Y1+Y3)) (.le Y1 Y2))] (.le (Y0+1) (Y1+1)) [1101101] rfl h1 hi this (aX (A.length) (B.length)),(Bl hz sD).mono (by rw[HH];exact oqz [K,i*(L+1),L] [] [] (.le (Y0+Y1+Y2+1) (.a Y0 (.a Y1 (.m 1 (Y2+1))))) [1] rfl),c*lb,d,_,It hc h0,hd,pq',fun t=>Ea (heq t) ?_⟩
 rw[<- ur hz t]
 exact qV h1 t
theorem RsI.red(h:RsI A B K L i zs)(hlz:zs.getLast?=some lz)(z0:lz≠0):RsI A B K L i (cE zs lz):=by
 have hmem:=HD hlz
 refine bH (h.eq) fun c d q hc hd pq heq=>?_
 refine ⟨.inr (qS hlz z0),by rw[dX];exact h.hi,h.hb,fL hmem z0 h.sy,c,d*gOf zs lz,q,hc,It hd (e7 hmem z0),pq,fun t=>?_⟩
 rw[II,<- kQ];exact heq t
noncomputable def pl(x y:Nat):Nat->Nat
 |0=>y
 |d+1=>pl y (x+(y+1)+(y+1)) d
theorem plC(x y d:Nat):pl x y (d+1)=pl y (x+(y+1)+(y+1)) d:=rfl
theorem wf:∀ {d x y:Nat},y<=pl x y d
 |0,_,_=>Ht _
 |d+1,x,y=>Hj (by exact oqz [y,x] [] [] (.le Y0 (Y1+(Y0+1)+(Y0+1))) [1] rfl) (wf (d:=d))
theorem ud:∀ (e d x y:Nat),e<=d->∃x' y',y<=x'/\x'<=y'/\x+(e+2)*(y+1)<=y'/\pl x y (d+1)=pl x' y' (d-e)
 |0,d,x,y,_=>⟨y,x+(y+1)+(y+1),Ht _,by exact oqz [y,x] [] [] (.le Y0 (Y1+(Y0+1)+(Y0+1))) [1] rfl,by exact oqz [x,y] [] [] (.le (.a Y0 (.m 2 (Y1+1))) (Y0+(Y1+1)+(Y1+1))) [1] rfl,rfl⟩
 |e+1,d,x,y,h=>by
  refine lB (ud e d x y (by exact oqz [e,d] [] [(.le (Y0+1) Y1)] (.le Y0 Y1) [11] rfl h)) fun x' y' h1 h2 h3 h4=>?_
  refine ⟨y',x'+(y'+1)+(y'+1),by exact oqz [y,y',x'] [] [(.le Y0 Y2),(.le Y2 Y1)] (.le Y0 Y1) [111] rfl h1 h2,by exact oqz [y',x'] [] [] (.le Y0 (Y1+(Y0+1)+(Y0+1))) [1] rfl,?_,?_⟩
  ·have:(e+1+2)*(y+1)=(e+2)*(y+1)+(y+1):=by rw[Jo (e+2)]
   exact oqz [x,(e+1+2)*(y+1),x',y',y,(e+2)*(y+1)] [] [(.le Y4 Y2),(.le (Y0+Y5) Y3),(.eq Y1 (Y5+(Y4+1)))] (.le (Y0+Y1) (Y2+(Y3+1)+(Y3+1))) [1111] rfl h1 h3 this
  ·rw[h4,show d-e=(d-(e+1))+1 by exact oqz [d-e,d,e,d-(e+1)] [] [(.le (Y2+1) Y1),(osb Y1 Y2 Y0),(osb Y1 (Y2+1) Y3)] (.eq Y0 (Y3+1)) [10001001,1001011,110,1010001,110001] rfl h (am (d) (e)) (am (d) (e+1)),plC]
end
section
variable {sub:Nat->Nat->Bool}{P:List Fn}{n tr:Nat}{H:Hp}{Q:V->Hp->Prop}{X:Nat->Hp->Prop}
theorem FZ{a b:Nat}(h:b<=a):decide (((b:Nat):Int)<=((a:Nat):Int))=true:=decide_eq_true (IO.mpr h)
theorem DY{a b:Nat}(h:¬ b<=a):decide (((b:Nat):Int)<=((a:Nat):Int))=false:=decide_eq_false fun g=>h (IO.mp g)
theorem tQ{row:List Int}{l:Int}{H:Hp}{v:V}{Q:V->Prop}(hv:items H v=some (row.map .int))(hl:row.getLast?=some l)(hQ:Q (.int l)):ifSome (items H v) fun xs=>ifSome (cf xs.length (-1)) fun i=>ifSome xs[i]? fun v=>Q v:=by
 have h1:1<=row.length:=by cases row with|nil=>cases hl|cons _ _=>simp
 refine ix3 (v:=.int l) hv (dq (by rw[Hi];exact h1)) ?_ hQ
 rw[Hi,HL,<- IP,hl];rfl
theorem zU(zT:TT P){W:Nat->Prop}{NN:Loc->Hp->Prop}{R:V->Hp->Prop}{Y:Nat->Hp->Prop}
  {w:V}{o:Option V}{A B ys:List Int}{lb:Int}{K L i a:Nat} (I:RsI A B K L i ys) (ha:H[a]?=some (ys.map .int)) (hw:items H w=some (B.map .int)) (hlb:B.getLast?=some lb) (h0:lb≠0) (hge:B.length<=ys.length) (hA:A.length<=600) (sB:AllSm L B) (hK:K+i*(L+1)+L<=134217728)
  (hN:∀ (zs:List Int) (k:Nat) H',H<+:H'->H'[k]?=some (zs.map .int)->RsI A B K L (i+1) zs->zs.length<ys.length->NN [o,some w,some (.lst k)] H') :
  wpS sub (ag sub P (n+2)) W (uK 7 10 8) [o,some w,some (.lst a)] H NN R Y:=by
 refine ay (kY hge) fun l0 l1 zq14 h1 h2=>?_;subst zq14
 have hne:l0++l1≠[]:=fun h=>by
  rw[h,List.length_nil] at hge
  cases B with
  |nil=>cases hlb
  |cons _ _=>exact absurd hge (by simp)
 refine ac (I.ty.resolve_left hne) fun l hl _=>?_
 have sl:=I.sy l (HD hl)
 have slb:=sB lb (HD hlb)
 have lD:=uy h1 hlb hl
 have nD:(wlo lb l l0 l1 B).length=(l0++l1).length:=by rw[j7 h1,Hl,h1]
 have hn:=I.hi
 have S:=fun {zs:List Int}{k:Nat}=>I.step (zs:=zs) (k:=k) h1 hlb h0 sB hl
 dsimp only[uK,qS1,qS2,qS3,bC,qE1,qE5,qE9,aS,aV,aC,aD,d6,aa,ah,aE,jm]
 refine tQ (v:=.lst a) ha hl ?_
 refine tQ hw hlb ?_
 refine Fk zT ha hw h1 (by exact oqz [(l0++l1).length,A.length,i] [] [(.le Y1 600),(.le (Y2+Y0) Y1)] (.le Y0 900) [111] rfl hA hn) (fun x hx=>IntMulOk.sum (I.sy x hx) slb hK) (fun y hy=>IntMulOk.sum sl (sB y hy) hK) ?_
 generalize wlo lb l l0 l1 B=D at *
 refine qR zT (v:=.lst H.length) (ai _ _ _) fun zs k hz tz=>?_
 have I':=S hz tz
 have hlt:=qw hz tz lD
 rw[nD] at hlt
 have hp1:H<+:H++[D.map V.int]++[zs.map V.int]:=ad (af _ _) (af _ _)
 have hzg:(H++[D.map V.int]++[zs.map V.int])[(H++[D.map V.int]).length]?=some (zs.map V.int):=ai _ _ _
 generalize (H++[D.map V.int]).length=b at *
 generalize H++[D.map V.int]++[zs.map V.int]=H1 at *
 refine ifSome.mk (jE (x:=.lst b) hzg) ?_
 rcases tz with rfl | ⟨lz,hlz,z0⟩
 ·exact hN [] b H1 hp1 hzg I' hlt
 ·have hne':(!(zs.map V.int).isEmpty)=true:=by
   cases zs with
   |nil=>cases hlz
   |cons _ _=>rfl
  rw[hne']
  dsimp only[bw]
  refine jG (n:=n+1) (ng:=ngQ) md zT.a8 (fun a b H' Z X' hz=>fS zT hz) (v:=.lst b) hzg hlz z0 (by exact oqz [zs.length,A.length,(l0++l1).length,i] [] [(.le Y1 600),(.le (Y3+Y2) Y1),(.le (Y0+1) Y2)] (.le Y0 1000) [1111] rfl hA hn hlt) ?_
  exact hN _ _ _ (ad hp1 (af _ _)) (ai _ _ _) (I'.red hlz z0) (by rw[dX];exact hlt)
inductive RsW (H:Hp) (v w:V) (A B:List Int) (K L:Nat) (ρ:Loc) (H':Hp):Prop
 |mk (a:Nat) (ys:List Int) (i:Nat) (c0:ρ=[some v,some w,some (.lst a)]) (c1:H<+:H') (c2:H'[a]?=some (ys.map .int)) (c3:RsI A B K L i ys)
theorem zt(zT:TT P)
  {v w:V}{A B:List Int}{lb:Int}{K L:Nat} (hv:items H v=some (A.map .int)) (hw:items H w=some (B.map .int)) (tA:A=[]\/Tr A) (hlb:B.getLast?=some lb) (h0:lb≠0) (hA:A.length<=600) (sA:AllSm K A) (sB:AllSm L B) (hK:K+(A.length-B.length+1)*(L+1)+L<=134217728)
  (hQ:∀H' k r,H<+:H'->H'[k]?=some (r.map .int)->Rst A B r->AllSm (K+(A.length-B.length+1)*(L+1)) r->Q (.lst k) H'):ag sub P (n+3) 11 [v,w] H Q X:=by
 refine aj zT.a11 rfl ?_
 dsimp only[xb]
 generalize hL:uK 7 10 8=LB
 dsimp only[qS1,qS2,qS3,qS9,lr,qE5,bV,aC,aD,i8,aB,az,aw,av,aM,aA,au,aa,ah,aE,Nat.reduceSub]
 refine ifSome.mk hv ?_
 subst hL
 refine ⟨RsW H v w A B K L,fun ρ H'=>lY H' (ah ρ 2),
  ⟨H.length,A,0,rfl,af _ _,ai _ _ _,tA,IE (IF _),HQ _,sA.mono (Ja _ _),1,1,fun _=>0,by decide,by decide,.const 0,fun t=>by dsimp only;exact oqz [] [ev A t,ev B t] [] (.ie (.m 1 Y0) (.a (.m 0 Y1) (.m 1 Y0))) [1] rfl⟩,?_⟩
 rintro ρ H' ⟨a,ys,i,rfl,hp,ha,I⟩
 dsimp only[tR,qE5,br,bV,aC,aD,l9,aU,d6,aa,ah,xR]
 refine ifSome.mk ha (ifSome.mk (cr hp hw) ?_)
 rw[Hi,Hi]
 have hmul:∀ {j},j<=A.length-B.length+1->j*(L+1)<=(A.length-B.length+1)*(L+1):=fun hj=>IV _ hj
 by_cases hge:B.length<=ys.length
 ·rw[FZ hge]
  have:=hmul I.hb
  refine zU zT (n:=n) I ha (cr hp hw) hlb h0 hge hA sB (by exact oqz [K,i*(L+1),L,(A.length-B.length+1)*(L+1)] [] [(.le (Y0+Y3+Y2) 134217728),(.le Y1 Y3)] (.le (Y0+Y1+Y2) 134217728) [111] rfl hK this) fun zs k H2 hp2 hk I' hlt=>⟨⟨k,zs,i+1,rfl,ad hp hp2,hk,I'⟩,?_⟩
  show lY H2 (some (V.lst k))<lY H' (some (V.lst a))
  rw[gW (x:=.lst k) hk,gW (x:=.lst a) ha,Hi,Hi];exact hlt
 ·rw[DY hge]
  exact hQ _ _ _ hp ha ⟨I.ty,Nat.lt_of_not_le hge,I.eq⟩ (I.sy.mono (I2 (hmul I.hb) _))
theorem sb1{a b:Nat}(h:b<a)(h1:0<b):a-2-(a-b-1)=b-1:=by omega
inductive CmI (A B:List Int) (Z:Nat) (H:Hp) (ρ:Loc) (H':Hp):Prop
 |mk (v1 w1:V) (A1 B1:List Int) (x y:Nat) (o:Option V) (e:ρ=[some v1,some w1,o]) (hp:H<+:H') (hv:items H' v1=some (A1.map .int)) (hw:items H' w1=some (B1.map .int)) (tA:Tr A1) (tB:B1=[]\/Tr B1) (hl:B1.length<A1.length/\A1.length<=A.length)
  (sm:AllSm x A1/\AllSm y B1/\x<=y) (hz:pl x y (A1.length-1)<=Z) (back:∀h,Dv h (ev A1)->Dv h (ev B1)->Dv h (ev A)/\Dv h (ev B)) (cA:Comb A B A1) (cB:Comb A B B1)
theorem vH(zT:TT P)
  {v w:V}{A B:List Int}{K L Z:Nat} (hv:items H v=some (A.map .int)) (hw:items H w=some (B.map .int)) (tA:Tr A) (tB:B=[]\/Tr B) (hAB:B.length<A.length) (hA:A.length<=600) (sA:AllSm K A) (sB:AllSm L B) (hKL:K<=L) (hZ:pl K L (A.length-1)<=Z) (hZ':Z+Z<=134217728)
  (hQ:∀H' k x l,H<+:H'->H'[k]?=some (x.map .int)->Gcd A B x l->AllSm Z x->Q (.lst k) H'):ag sub P (n+4) 12 [v,w] H Q X:=by
 refine aj zT.a12 rfl ?_
 dsimp only[oo,uj]
 dsimp only[qS1,qS2,qS3,qS9,lr,qE5,aS,aC,aD,aB,az,aw,av,aM,aA,au,Nat.reduceSub]
 refine ⟨CmI A B Z H,fun ρ H'=>lY H' (ah ρ 1),⟨v,w,A,B,K,L,none,rfl,JV _,hv,hw,tA,tB,⟨hAB,Ht _⟩,⟨sA,sB,hKL⟩,hZ,fun h h1 h2=>⟨h1,h2⟩,?_,?_⟩,?_⟩
 ·exact ⟨1,fun _=>1,fun _=>0,by decide,.const 1,.const 0,fun t=>by dsimp only;exact oqz [] [ev A t,ev B t] [] (.ie (.m 1 Y0) (.a (.m 1 Y0) (.m 0 Y1))) [1] rfl⟩
 ·exact ⟨1,fun _=>0,fun _=>1,by decide,.const 0,.const 1,fun t=>by dsimp only;exact oqz [] [ev B t,ev A t] [] (.ie (.m 1 Y0) (.a (.m 0 Y1) (.m 1 Y0))) [1] rfl⟩
 rintro ρ H' ⟨v1,w1,A1,B1,x,y,o,rfl,hp,hv1,hw1,tA1,tB1,⟨hlt,hle⟩,⟨sA1,sB1,hxy⟩,hz,back,cA,cB⟩
 dsimp only[aa,ah,aE]
 refine ifSome.mk (jE hw1) ?_
 have hyZ:y<=Z:=Hj wf hz
 rcases tB1 with rfl|tB1
 ·refine (if_neg (show ¬ (!(([]:List Int).map V.int).isEmpty)=true by decide)).mpr ?_
  refine ac (tA1) fun l hl hl0=>?_
  have hmem:=HD hl
  refine jG (n:=n+2) (ng:=ngQ) md zT.a8 (fun a b H' Z X' hz=>fS zT hz) hv1 hl hl0 (by exact oqz [A1.length,A.length] [] [(.le Y1 600),(.le Y0 Y1)] (.le Y0 1000) [111] rfl hA hle) ?_
  have hg:Dv (ev (cE A1 l)) (ev A1):=⟨1,fun _=>gOf A1 l,by decide,.const _,fun t=>by rw[Ip,kQ (r:=A1) (l:=l) t,Ir]⟩
  obtain ⟨b1,b2⟩:=back _ hg (Dv.zero _)
  refine hQ _ _ _ _ (ad hp (af _ _)) (ai _ _ _) ⟨bD hl,cM hmem hl0,eI hmem hl0,b1,b2,?_⟩ (fL hmem hl0 (sA1.mono (Hj hxy hyZ)))
  refine bH (cA) fun c u v hc pu pv ee=>?_
  exact ⟨c*gOf A1 l,u,v,It hc (e7 hmem hl0),pu,pv,fun t=>by rw[<- ee,kQ (r:=A1) (l:=l) t,II]⟩
 ·have hne:(!(B1.map V.int).isEmpty)=true:=by
   cases B1 with
   |nil=>exact absurd rfl tB1.ne
   |cons _ _=>rfl
  rw[hne]
  refine ac (id tB1) fun lb hlb hlb0=>?_
  have hb1:=Ii.mpr tB1.ne
  refine lB (ud (A1.length-B1.length-1) (A1.length-2) x y (by exact oqz [A1.length-B1.length-1,A1.length-B1.length,A1.length,B1.length,A1.length-2] [] [(.le (0+1) Y3),(.an (.le Y2 (Y4+2)) (.le Y4 Y2)),(osb Y2 Y3 Y1),(osb Y1 1 Y0)] (.le Y0 Y4) [1001000111,100000001,1000100001] rfl hb1 (aX (A1.length) (2)) (am (A1.length) (B1.length)) (am (A1.length-B1.length) (1)))) fun x' y' s1 s2 s3 s4=>?_
  rw[show A1.length-2+1=A1.length-1 by exact oqz [A1.length-2,A1.length,A1.length-1,B1.length] [] [(.le (Y3+1) Y1),(.le (0+1) Y3),(osb Y1 2 Y0),(osb Y1 1 Y2)] (.eq (Y0+1) Y2) [100010001,100001001,10100001,10010111,1000110] rfl hlt hb1 (am (A1.length) (2)) (am (A1.length) (1))] at s4
  rw[s4,show A1.length-2-(A1.length-B1.length-1)=B1.length-1 from sb1 hlt hb1] at hz
  rw[show A1.length-B1.length-1+2=A1.length-B1.length+1 by exact oqz [A1.length-B1.length-1,A1.length-B1.length,A1.length,B1.length] [] [(.le (Y3+1) Y2),(.an (.le Y2 (Y1+Y3)) (.le Y1 Y2)),(osb Y1 1 Y0)] (.eq (Y0+2) (Y1+1)) [100001,10001,1000001,100111] rfl hlt (aX (A1.length) (B1.length)) (am (A1.length-B1.length) (1))] at s3
  have hyZ':y'<=Z:=Hj wf hz
  dsimp only[bw]
  refine zt zT (A:=A1) hv1 hw1 (.inr tA1) hlb hlb0 (by exact oqz [A1.length,A.length] [] [(.le Y1 600),(.le Y0 Y1)] (.le Y0 600) [111] rfl hA hle) sA1 sB1 (by exact oqz [x,(A1.length-B1.length+1)*(y+1),y,Z,B1.length,x',y'] [] [(.le (Y3+Y3) 134217728),(.le (0+1) Y4),(.le Y2 Y5),(.le Y5 Y6),(.le (Y0+Y1) Y6),(.le Y6 Y3)] (.le (Y0+Y1+Y2) 134217728) [2111011] rfl hZ' hb1 s1 s2 s3 hyZ') fun H2 k r hp2 hr R sr=>?_
  refine ⟨⟨w1,.lst k,B1,r,x',y',_,rfl,ad hp hp2,cr hp2 hw1,hr,tB1,R.tr,⟨R.len,by exact oqz [B1.length,A.length,A1.length] [] [(.le (Y0+1) Y2),(.le Y2 Y1)] (.le Y0 Y1) [111] rfl hlt hle⟩,⟨sB1.mono s1,sr.mono s3,s2⟩,hz,fun h h1 h2=>back h (R.back h1 h2) h1,cB,cA.rest cB R⟩,?_⟩
  show lY H2 (some (V.lst k))<lY H' (some w1)
  rw[gW (x:=.lst k) hr,gW hw1,Hi,Hi];exact R.len
end
end Mine
namespace Mine
open PySem Re
structure PlG (K n:Nat)(g:Re)(R:List Int):Prop where
 la:∃l,R.getLast?=some l/\0<l
 one:bn R 0=1
 ln:R.length<=n
 sm:AllSm K R
 rt:evR R g=0
 d0:dR R g≠0
theorem xZ{c:Int}{r:List Int}(t:Re):evR (sl 1 r) t=dR (c::r) t:=by rw[zj,jJ,show ((1:Int):Re)=1 from rfl];grind
theorem Bf(t:Re){F x h:List Int}(e:∀t,evR F t=evR x t*evR h t):dR F t=dR x t*evR h t+evR x t*dR h t:=
 Dr.uniq (io F) (((io x).mul (io h)).of (fun t=>(e t).symm) fun _=>rfl) t
theorem r7{c lx:Int}{r x h:List Int}{g:Re}(hG:Gcd (c::r) (sl 1 r) x lx)(em:∀t,evR (c::r) t=evR x t*evR h t)(hg:evR (c::r) g=0):evR h g=0/\dR h g≠0:=by
 have lx0:lx≠0:=Ho hG.pos
 have tx:Tr x:=⟨lx,hG.last,lx0⟩
 have hx:∃t,evR x t≠0:=by
  obtain ⟨t,ht⟩:=tx.nz
  exact ⟨t,fun h=>ht (ft (by rw[nc,h,ax]))⟩
 refine cU (zH hG.d2) fun c2 E hc2 e2=>?_
 refine iQ (vO hG.cb) fun c3 U W hc3 e3=>?_
 have k1:∀t,(c2:Re)*(dR x t*evR h t+evR x t*dR h t)=evR x t*evR E t:=fun t=>by rw[<- Bf t em,<- xZ,e2]
 refine vJ (D:=evR x) (h:=evR h) (E:=evR E) (U:=evR U) (W:=evR W) (D':=dR x) (h':=dR h) (c2:=(c2:Re)) (c3:=(c3:Re)) (jM x) (jM h) (jM E) (FJ h) hx (io x) (io h) k1 (fv hc2) (fv hc3) ?_ (by rw[<- em,hg])
 have pz:PX fun t=>(c2:Re)*(evR U t*evR h t)+evR W t*evR E t:=(PX.lin 1 ((PX.const (c2:Re)).mul ((jM U).mul (jM h))) ((jM W).mul (jM E))).of fun t=>by rw[fI]
 have key:∀t,evR x t*((c3:Re)*c2)=evR x t*((c2:Re)*(evR U t*evR h t)+evR W t*evR E t):=fun t=>by
  have a1:=e3 t
  have a2:=e2 t
  rw[em] at a1
  generalize evR x t=X at *
  generalize evR (sl 1 r) t=S at *
  clear e2 e3 k1 em
  grind
 intro t
 -- off the roots of x,hence everywhere
 refine ay (nV (u:=t) (tL x) hx) fun s k pk k0 ek=>?_
 exact iw (u:=t) (s:=s) (f:=fun s=>k s*((c3:Re)*c2)) (g:=fun s=>k s*((c2:Re)*(evR U s*evR h s)+evR W s*evR E s)) (pk.mul (PX.const _)) (pk.mul pz) (fun s'=>by
  have:=key s'
  rw[ek] at this
  rw[JC,JC] at this;exact this) |> ig k0
section
variable {sub:Nat->Nat->Bool}{P:List Fn}{n:Nat}{H:Hp}{Q:V->Hp->Prop}{X:Nat->Hp->Prop}
theorem tD:∀ {d x y x' y':Nat},x<=x'->y<=y'->pl x y d<=pl x' y' d
 |0,_,_,_,_,_,h=>h
 |d+1,x,y,x',y',h1,h2=>by rw[plC,plC];exact tD h2 (by exact oqz [x,y,x',y'] [] [(.le Y0 Y2),(.le Y1 Y3)] (.le (Y0+(Y1+1)+(Y1+1)) (Y2+(Y3+1)+(Y3+1))) [211] rfl h1 h2)
theorem w8:∀ {d x y:Nat},x<=y->pl x y d<=pl x y (d+1)
 |0,x,y,h=>by rw[plC];show y<=x+(y+1)+(y+1);exact oqz [y,x] [] [] (.le Y0 (Y1+(Y0+1)+(Y0+1))) [1] rfl
 |d+1,x,y,h=>by rw[plC,plC x y (d+1)];exact w8 (by exact oqz [y,x] [] [] (.le Y0 (Y1+(Y0+1)+(Y0+1))) [1] rfl)
theorem DB{K n:Nat}(hn:n<=12)(hK:K<=1000):pl K (64+K) n<=60000000:=by
 have h1:∀k,pl K (64+K) n<=pl K (64+K) (n+k):=fun k=>by
  induction k with
  |zero=>exact Ht _
  |succ k ih=>exact Hj ih (w8 (by exact oqz [K] [] [] (.le Y0 (64+Y0)) [1] rfl))
 have h2:=h1 (12-n)
 rw[show n+(12-n)=12 by exact oqz [n,12-n] [] [(.le Y0 12),(osb 12 Y0 Y1)] (.eq (Y0+Y1) 12) [1001,101,10001,1011] rfl hn (am (12) (n))] at h2
 exact Hj h2 (Hj (tD hK (show 64+K<=1064 by exact oqz [K] [] [(.le Y0 1000)] (.le (64+Y0) 1064) [11] rfl hK)) (by decide))
theorem yW{K:Nat}:∀ (r:List Int) (k:Int),0<=k->k+r.length<=1000->AllSm K r->AllSm (64+K) (sl k r)
 | [],_,_,_,_=>.nil
 |y::w,k,h0,h1,h2=>by
  rw[List.length_cons] at h1
  exact .cons ((fw ⟨h0,by exact oqz [w.length] [k] [(.il (.a Y0 (.c (Y0+1))) 1000)] (.il Y0 1000000) [11] rfl h1⟩).mul h2.hd) (yW w (k+1) (by exact oqz [] [k] [(.il 0 Y0)] (.il 0 (Y0+1)) [11] rfl h0) (by exact oqz [w.length] [k] [(.il (.a Y0 (.c (Y0+1))) 1000)] (.il (.a (Y0+1) (.c Y0)) 1000) [11] rfl h1) h2.tl)
theorem y4(zT:TT P)
  {v:V}{row:List Int}{l:Int}{g:Re}{K:Nat} (hv:items H v=some (row.map .int)) (la:row.getLast?=some l) (l0:l≠0) (sm:AllSm K row) (hn:2<=row.length) (h5:row.length<=13) (hg:evR row g=0) (hK:K<=1000)
  (hQ:∀H' i R F,H<+:H'->H'[i]?=some (R.map .int)->PlG (K+172) row.length g R->(Tr F/\bn F 0=1/\F.length<=13/\AllSm K F/\evR F g=0)->Q (.lst i) H'):ag sub P (n+5) 14 [v] H Q X:=by
 have hmem:=HD la
 refine aj zT.a14 rfl ?_
 dsimp only[rG]
 generalize hT:qQ 8 13 12 9=T
 dsimp only[qS1,qS2,qS3,bC,vl,qE1,qE5,br,aS,bV,aC,aD,aB,az,aw,av,aM,aA,au,aa,ah,aE,Nat.reduceSub]
 refine qR zT hv fun ys j' hz ty=>?_
 have hys:ys=row:=i9 ty (.inr ⟨l,la,l0⟩) fun t=>(ur hz t).symm
 clear hz
 subst hys
 refine ifSome.mk (ai _ _ _) ?_
 dsimp only[fJ,aU,aa]
 rw[Hi,decide_eq_false (by exact oqz [ys.length] [] [(.le 2 Y0)] (.no (.il (.a (.c Y0) 1) 2)) [11] rfl hn)]
 subst hT
 dsimp only[qQ,qS1,qS2,qS3,qS9,qE5,aS,aC,aD,bK,aa,ah,aE]
 refine jG (n:=n+3) (ng:=ngQ) md zT.a8 (fun a b H' Z X' hz=>fS zT hz) (v:=.lst H.length) (ai _ _ _) la l0 (by exact owk (by decide) h5) ?_
 generalize hH1:H++[ys.map V.int]=H1
 have hp1:H<+:H1:=by rw[<- hH1];exact af _ _
 clear hH1
 have g0:=fv (e7 hmem l0)
 have hgF:evR (cE ys l) g=0:=bE (x:=((gOf ys l:Int):Re)) (by rw[<- bX,eE,hg]) g0
 have la':=bD la
 have l0':=cM hmem l0
 have one':=eI hmem l0
 have sm':=fL hmem l0 sm
 have ln':=@dX ys l
 generalize cE ys l=F at *
 generalize l.fdiv (gOf ys l)=lF at *
 clear la l0 sm hv hmem g0 ty hg
 cases F with
 |nil=>cases la'
 |cons c r =>
  have tF:Tr (c::r):=⟨lF,la',Ho l0'⟩
  have tr':Tr r:=by
   cases r with
   |nil=>rw[HE] at ln';omega
   |cons y w=>exact tF.tl
  have hrl:r.length<=12:=by rw[List.length_cons] at ln';exact oqz [r.length,ys.length] [] [(.le Y1 13),(.eq (Y0+1) Y1)] (.le Y0 12) [111] rfl h5 ln'
  refine Bs zT (c:=c) (r:=r) (ai _ _ _) (by exact owk (by decide) hrl) ?_
  generalize hH2:H1++[(c::r).map V.int]=H2
  have hk1:H2[H1.length]?=some ((c::r).map V.int):=by rw[<- hH2];exact ai _ _ _
  have hp2:H1<+:H2:=by rw[<- hH2];exact af _ _
  clear hH2
  have ssl:AllSm (64+K) (sl 1 r):=yW r 1 (by decide) (by exact oqz [r.length] [] [(.le Y0 12)] (.il (.a 1 (.c Y0)) 1000) [11] rfl hrl) sm'.tl
  have tsl:=Cj (k:=1) (by decide) tr'
  have hlen:(c::r).length=r.length+1:=rfl
  refine vH zT (A:=c::r) (B:=sl 1 r) (K:=K) (L:=64+K) (Z:=60000000) (v:=.lst H1.length) (w:=.lst H2.length) (ao (af _ _) hk1) (ai _ _ _) tF (.inr tsl) (by rw[qI];exact IA _) (by exact oqz [r.length] [] [(.le Y0 12)] (.le (Y0+1) 600) [11] rfl hrl) sm' ssl (by exact oqz [K] [] [] (.le Y0 (64+Y0)) [1] rfl) (DB hrl hK) (by decide) fun H3 i x lx hp3 hi hx sx=>?_
  refine ac (mE hx.one one' hx.last la' (Ho hx.pos) (Ho l0') hx.d1) fun h th eh=>?_
  have tx:Tr x:=⟨lx,hx.last,Ho hx.pos⟩
  have em:c::r=cn x h:=i9 (.inr tF) (.inr (oj tx th)) fun t=>by rw[eh,c8]
  have eR:∀s,evR (c::r) s=evR x s*evR h s:=fun s=>by rw[em,fy]
  have q1:=eY tx.ne th.ne
  rw[<- em] at q1
  have hx1:=Ii.mpr tx.ne
  obtain ⟨r1,r2⟩:=r7 hx eR hgF
  have sh:=xu (A:=h) (h:=x) tF (by exact oqz [r.length] [] [(.le Y0 12)] (.le (Y0+1) 13) [11] rfl hrl) sm' (by exact oqz [h.length,r.length,x.length] [] [(.eq (Y1+1+1) (Y2+Y0)),(.le (0+1) Y2)] (.le Y0 (Y1+1)) [1101] rfl q1 hx1) fun t=>by rw[eh,Ir]
  have hk3:H3[H1.length]?=some ((c::r).map V.int):=ao hp3 (ao (af _ _) hk1)
  refine ac (id th) fun lh lah lh0=>?_
  have mh:=HD lah
  refine CL zT (v:=.lst H1.length) (w:=.lst i) hk3 hi hx.last (Ho hx.pos) eh q1 (by exact oqz [r.length] [] [(.le Y0 12)] (.le (Y0+1) 800) [11] rfl hrl) sx sh (by exact oqz [K] [] [(.le Y0 1000)] (.le (Y0+172+60000000) 134217728) [11] rfl hK) fun H4 i4 hp4 hi4=>?_
  refine jG (n:=n+3) (ng:=ngQ) md zT.a8 (fun a b H' Z X' hz=>fS zT hz) (v:=.lst i4) hi4 lah lh0 (by exact oqz [h.length,r.length,x.length] [] [(.le Y1 12),(.eq (Y1+1+1) (Y2+Y0))] (.le Y0 1000) [1011] rfl hrl q1) ?_
  have hpp:H<+:H4:=ad hp1 (ad hp2 (ad (af _ _) (ad hp3 hp4)))
  have gh:=fv (e7 mh lh0)
  have he:∀t,evR h t=((gOf h lh:Int):Re)*evR (cE h lh) t:=fun t=>by rw[<- bX,eE]
  refine hQ _ _ _ (c::r) (ad hpp (af _ _)) (ai _ _ _) ⟨⟨_,bD lah,cM mh lh0⟩,eI mh lh0,by rw[dX];exact oqz [h.length,ys.length,r.length,x.length] [] [(.eq (Y2+1) Y1),(.eq (Y2+1+1) (Y3+Y0)),(.le (0+1) Y3)] (.le Y0 Y1) [110011] rfl ln' q1 hx1,fL mh lh0 sh,bE (x:=((gOf h lh:Int):Re)) (by rw[<- he,r1]) gh,fun hd=>r2 ?_⟩ ⟨tF,one',by exact oqz [r.length] [] [(.le Y0 12)] (.le (Y0+1) 13) [11] rfl hrl,sm',hgF⟩
  have dd:=Dr.uniq (io h) ((((show Dr (fun _=>((gOf h lh:Int):Re)) fun _=>0 from ⟨fun _ _=>0,fun _=>PX.const 0,fun t s=>by grind⟩)).mul (io (cE h lh))).of (fun t=>(he t).symm) fun _=>rfl) g
  rw[dd,hd];grind
end
end Mine
namespace Mine
open Re
theorem EM{b D n:Nat}(hD:D<=12)(hn:n<=11)(hb:b<=1236):(2^b)^D*((n+1)*((2*(3*2^b)^D+1)^n*(2^50)^(n+1)))<=2^180000:=by
 have h3:3*2^b<=2^(b+2):=by rw[Jn];exact oqz [2^b] [] [] (.le (.m 3 Y0) (.r Y0 4)) [1] rfl
 have h4:(3*2^b)^D<=2^((b+2)*D):=by rw[Nat.pow_mul];exact Jk h3 D
 have h5:2*(3*2^b)^D+1<=2^((b+2)*D+2):=by rw[Jn];have:=Jy ((b+2)*D);exact oqz [(3*2^b)^D,2^((b+2)*D)] [] [(.le Y0 Y1),(.le (0+1) Y1)] (.le (.a (.m 2 Y0) 1) (.r Y1 4)) [221] rfl h4 this
 have h6:(2*(3*2^b)^D+1)^n<=2^(((b+2)*D+2)*n):=by rw[Nat.pow_mul];exact Jk h5 n
 have h7:n+1<=2^4:=by rw[show (2:Nat)^4=16 by decide];exact oqz [n] [] [(.le Y0 11)] (.le (Y0+1) 16) [11] rfl hn
 rw[<- Nat.pow_mul,<- Nat.pow_mul]
 refine Hj (HK _ (Iv h7 (IV _ h6))) ?_
 rw[<- Jn,<- Jn,<- Jn]
 refine Ib (by decide) ?_
 have a1:b*D<=1236*12:=Iv hb hD
 have a2:(b+2)*D<=1238*12:=Iv (by exact oqz [b] [] [(.le Y0 1236)] (.le (Y0+2) 1238) [11] rfl hb) hD
 have a3:((b+2)*D+2)*n<=(1238*12+2)*11:=Iv (by exact oqz [(b+2)*D] [] [(.le Y0 14856)] (.le (Y0+2) 14858) [11] rfl a2) hn
 exact om [b*D,((b+2)*D+2)*n,n] [] [(.le Y2 11),(.le Y0 14832),(.le Y1 163438)] (.le (.a Y0 (.a 4 (.a Y1 (.m 50 (Y2+1))))) 180000) [[1,50,1,1]] rfl hn a1 a3
theorem zh{t:Re}{Z W:Nat}(h:1<=((Z:Int):Re)*t)(h0:0<=t)(hZ:Z<=W):1<=((W:Int):Re)*t:=by
 have:=ae (dH (aZ (IO.mpr hZ))) h0
 grind
theorem Ff{R:List Int}{l:Int}{g:Re}(hl:R.getLast?=some l)(l0:l≠0)(r:evR R g=0):2<=R.length:=by
 rcases R with _ | ⟨x,_ | ⟨y,s⟩⟩
 ·cases hl
 ·cases hl
  rw[aO,d3] at r
  exact absurd (ft (show (x:Re)=((0:Int):Re) by rw[ax];grind)) l0
 ·simp
theorem zV{F R:List Int}{g:Re}{K n:Nat}(hF:Tr F/\bn F 0=1/\F.length<=13/\AllSm K F/\evR F g=0)(hR:PlG (K+172) n g R)(hn:n<=13)(hK:K<=1000)(hg:ab g<=(((2^50:Nat):Int):Re)):1<=(((2^180000:Nat):Int):Re)*ab (dR R g):=by
 refine s7 (hF) fun tF oF lF sF' rF=>?_
 refine cw (Bq tF rF) fun K1 tK1 rK1 mK1=>?_
 -- in its lowest form
 refine ac (id tK1) fun l1 hl1 h1=>?_
 have m1:=HD hl1
 have g1:=fv (e7 m1 h1)
 have rK0:evR (cE K1 l1) g=0:=bE (x:=((gOf K1 l1:Int):Re)) (by rw[<- bX,eE,rK1]) g1
 have la0:=bD hl1
 have l00:=cM m1 h1
 have one0:=eI m1 h1
 rw[<- @dX K1 l1] at mK1
 generalize cE K1 l1=K0 at *
 generalize l1.fdiv (gOf K1 l1)=l at *
 clear tK1 rK1 hl1 h1 m1 g1
 have l0:l≠0:=Ho l00
 refine ac (id tF) fun lf hlf lf0=>?_
 have dv:=Be (F:=F) la0 l0 rF rK0 mK1
 refine ac (mE one0 oF la0 hlf l0 lf0 dv) fun h th eh=>?_
 have tK0:Tr K0:=⟨l,la0,l0⟩
 have eml:F=cn K0 h:=i9 (.inr tF) (.inr (oj tK0 th)) fun t=>by rw[eh,c8]
 have ql:=eY tK0.ne th.ne
 rw[<- eml] at ql
 have hh1:=Ii.mpr th.ne
 have s0:=xu (A:=K0) (h:=h) tF lF sF' (by exact oqz [K0.length,F.length,h.length] [] [(.eq (Y1+1) (Y0+Y2)),(.le (0+1) Y2)] (.le Y0 Y1) [1101] rfl ql hh1) eh
 -- the parts of the oz row
 have hk2:2<=K0.length:=Ff la0 l0 rK0
 obtain ⟨m,hm⟩:∃m,K0.length=m+2:=⟨K0.length-2,by exact oqz [K0.length,K0.length-2] [] [(.le 2 Y0),(osb Y0 2 Y1)] (.eq Y0 (Y1+2)) [10001,1011,1001,101] rfl hk2 (am (K0.length) (2))⟩
 have eK:K0=(List.range (m+2)).map fun i=>K0.getD i 0:=by
  refine List.ext_getElem (by rw[Hi,JB,hm]) fun i h1 h2=>?_
  rw[List.getElem_map,List.getElem_range,HB,Hx h1];rfl
 have hlast:K0.getD (m+1) 0=l:=by
  rw[IP,hm] at la0
  rw[HB]
  show (K0[m+1]?).getD 0=l
  rw[show m+1=m+2-1 from rfl,la0];rfl
 have hv:vF (m+1) (fun i=>K0.getD i 0) g+(l:Re)*g^(m+1)=0:=by
  have:=Ct g (m+2) (fun i=>K0.getD i 0)
  rw[<- eK,rK0,vFC,hlast] at this
  exact this
 have bd:∀ {xs:List Int},AllSm (K+236) xs->∀x∈xs,x.natAbs<=2^(K+236):=fun hs x hx=>JJ (hs x hx)
 have bl:=bd (s0.mono (by exact oqz [K] [] [] (.le (Y0+172) (Y0+236)) [1] rfl)) l (HD la0)
 have bk:∀i,i<=m->(K0.getD i 0).natAbs<=2^(K+236):=fun i hi=>by
  have hi':i<K0.length:=oqz [i,K0.length,m] [] [(.eq Y1 (Y2+2)),(.le Y0 Y2)] (.le (Y0+1) Y1) [1101] rfl hm hi
  rw[HB,Hx hi']
  exact bd (s0.mono (by exact oqz [K] [] [] (.le (Y0+172) (Y0+236)) [1] rfl)) _ (List.getElem_mem hi')
 -- the slope
 cases hR':R with
 |nil=>rw[hR'] at hR;refine ac (hR.la) fun l h _=>?_;cases h
 |cons c r =>
  rw[hR'] at hR
  have hrl:=hR.ln
  rw[List.length_cons] at hrl
  have sP:=yW r 1 (by decide) (by exact oqz [r.length,n] [] [(.le Y1 13),(.le (Y0+1) Y1)] (.il (.a 1 (.c Y0)) 1000) [111] rfl hn hrl) hR.sm.tl
  have hP0:evR (sl 1 r) g≠0:=by rw[xZ (c:=c)];exact hR.d0
  have k:=GR hv l0 (fun xs hx=>mK1 xs (by exact oqz [xs.length,K0.length,m] [] [(.eq Y1 (Y2+2)),(.le Y0 (Y2+1))] (.le (Y0+1) Y1) [1101] rfl hm hx)) (Nat.one_le_two_pow) bl bk (bd (sP.mono (by exact oqz [K] [] [] (.le (64+(Y0+172)) (Y0+236)) [1] rfl))) (Nat.one_le_two_pow) hg hP0
  rw[qI] at k
  rw[xZ (c:=c)] at k
  exact zh k (aI _) (EM (by exact oqz [r.length,n] [] [(.le Y1 13),(.le (Y0+1) Y1)] (.le Y0 12) [111] rfl hn hrl) (by exact oqz [m,F.length,K0.length,h.length] [] [(.le Y1 13),(.eq (Y1+1) (Y2+Y3)),(.le (0+1) Y3),(.eq Y2 (Y0+2))] (.le Y0 11) [1011011] rfl lF ql hh1 hm) (by exact oqz [K] [] [(.le Y0 1000)] (.le (Y0+236) 1236) [11] rfl hK))
theorem B3{w:Re}{C:Int}(h0:0<=w)(h1:w<=1)(hC:0<=C):∀ {r:List Re},(∀y∈r,ab y<=(C:Re))->zz w r<=(((r.length:Int)*C:Int):Re)
 | [],_=>by show (0:Re)<=_;rw[List.length_nil];show (0:Re)<=((0*C:Int):Re);rw[IL,ax];exact IH _
 |c::r,h=>by
  have ih:=B3 h0 h1 hC (r:=r) fun y hy=>h y (Hz _ hy)
  have hc:=h c Hy
  have:=ae (dH h1) (pb h0 r)
  rw[zzC,List.length_cons,show (((r.length+1:Nat):Int)*C:Int)=(r.length:Int)*C+C by rw[Int.natCast_succ];grind,bq]
  grind
theorem ET{A w:Re}(hA:((1:Int):Re)<=A)(hw:A*w<=1)(w0:0<w):w<=1:=by
 have one:((1:Int):Re)=1:=rfl
 rw[one] at hA
 have:=ae (dH hA) (Hu w0)
 grind
theorem Dy{A C D E N z T w:Re}(w0:0<w)(zn:0<=z)(hN:N<=D)(z2:z<=C)(pA:0<A)(pC:0<C)(pN:0<D)(p157:4<=E)(L:1<=A*T)(hw:A*(C*(D*E))*w<=1):N*(w*z)+N*(w*z)<T:=by
 have k1:=ae (ae (Hu w0) zn) (dH hN)
 have k2:=ae (ae (Hu w0) (Hu pN)) (dH z2)
 have k3:=mul_pos (mul_pos pA (mul_pos pC pN)) w0
 have k4:=ae (Hu k3) (dH p157)
 refine JI.mp fun hn=>?_
 have k5:=ae (Hu pA) (dH hn)
 have k6:=ae (Hu pA) k1
 have k7:=ae (Hu pA) k2
 clear k1 k2 hn zn hN z2 p157
 grind
theorem GY{K n B M:Nat}(hB:1+B<=2^M)(hK:K<=1000)(hn:n<=13):(2^(K+172)*(1+(B:Int))^n:Int)<=((2^(1172+M*13):Nat):Int):=by
 have e1:(1+(B:Int))=((1+B:Nat):Int):=(Int.natCast_add 1 B).symm
 have e2:((2:Int)^(K+172))=((2^(K+172):Nat):Int):=(I6 2 _).symm
 rw[e1,<- I6,e2,<- Ij]
 refine IO.mpr ?_
 rw[Jn 2 1172,Nat.pow_mul]
 exact Iv (Ib (by decide) (by exact oqz [K] [] [(.le Y0 1000)] (.le (Y0+172) 1172) [11] rfl hK)) (Hj (Jk hB _) (Ib (Jy M) hn))
theorem uW{F R:List Int}{g lo hi:Re}{K n:Nat}{p1 q1 p2 q2:Int}(hF:Tr F/\bn F 0=1/\F.length<=13/\AllSm K F/\evR F g=0)(hR:PlG (K+172) n g R)(hn:n<=13)(hK:K<=1000)(hg:ab g<=(((2^50:Nat):Int):Re))(h1:0<q1)(h2:0<q2)(e1:(q1:Re)*lo=p1)(e2:(q2:Re)*hi=p2)(lt:lo<g)(gt:g<hi)
  (hw:(((2^182000:Nat):Int):Re)*(hi-lo)<=1):Aln R p1 q1 p2 q2:=by
 have L:=zV hF hR hn hK hg
 have w0:0<hi-lo:=by grind
 rcases R with _ | ⟨c,_ | ⟨d,r⟩⟩
 ·refine ac (hR.la) fun l h _=>?_;cases h
 ·exact absurd (by rw[jJ,d3,Cf];grind) hR.d0
 ·obtain ⟨r2,e⟩:=uD g r c d
  have tl:=jX g (c::d::r)
  rw[e] at tl
  have hl:=hR.ln
  have hr2:r2.length<=11:=by simp at tl hl;exact oqz [r2.length,n,r.length] [] [(.le Y1 13),(.le (Y2+1+1) Y1),(.eq Y0 Y2)] (.le Y0 11) [1111] rfl hn hl tl
  have tb:=yi (B:=((2^50:Nat):Int)) hg (by exact oqz [] [] [] (.il 0 (.c 1125899906842624)) [1] rfl) hR.sm
  rw[e] at tb
  rw[hR.rt] at e
  have w1:hi-lo<=1:=ET (aZ (IO.mpr (Nat.one_le_two_pow (n:=182000)))) hw w0
  -- C bounds the numbers of the row about g
  have hC:=GY (K:=K) (n:=(c::d::r).length) (B:=2^50) (M:=51) (by decide) hK (Hj hl hn)
  have z1:=B3 (C:=((2^(1172+51*13):Nat):Int)) (Hu w0) w1 (Ix _) (r:=r2) fun y hy=>gL (tb y (Hz _ (Hz _ hy))) hC
  have z2:zz (hi-lo) r2<=(((2^(1172+51*13+4):Nat):Int):Re):=by
   refine dp z1 (aZ ?_)
   rw[<- Ij]
   refine IO.mpr ?_
   rw[Jn 2 (1172+51*13),Jp]
   exact HK _ (show r2.length<=2^4 by rw[show (2:Nat)^4=16 by decide];exact owk (by decide) hr2)
  have hN:(((r2.length:Int)+1:Int):Re)<=(((2^4:Nat):Int):Re):=aZ (by show _<=(16:Int);exact oqz [r2.length] [] [(.le Y0 11)] (.il (.a (.c Y0) 1) 16) [11] rfl hr2)
  have zn:=pb (Hu w0) r2
  have key:(((r2.length:Int)+1:Int):Re)*((hi-lo)*zz (hi-lo) r2)+(((r2.length:Int)+1:Int):Re)*((hi-lo)*zz (hi-lo) r2)<ab (dR (c::d::r) g):=by
   have p182:(((2^182000:Nat):Int):Re)=(((2^180000:Nat):Int):Re)*((((2^(1172+51*13+4):Nat):Int):Re)*((((2^4:Nat):Int):Re)*(((2^157:Nat):Int):Re))):=by
    rw[<- aq,<- aq,<- aq,<- Ij,<- Ij,<- Ij,<- Jn,<- Jn,<- Jn]
   have p157:(4:Re)<=(((2^157:Nat):Int):Re):=aZ (x:=4) (IO.mpr (show 4<=2^157 by decide))
   have pA:0<(((2^180000:Nat):Int):Re):=aP (I4.mpr (Jy _))
   have pC:0<(((2^(1172+51*13+4):Nat):Int):Re):=aP (I4.mpr (Jy _))
   have pN:0<(((2^4:Nat):Int):Re):=aP (by decide)
   rw[p182] at hw
   exact Dy w0 zn hN z2 pA pC pN p157 L hw
  rcases lI (dR (c::d::r) g) with hh|hh
  ·exact jz (σ:=1) (.inl rfl) e h1 h2 e1 e2 lt gt (by rw[hh] at key;show _<(1:Re)*_;rw[fI];exact key)
  ·exact jz (σ:=-1) (.inr rfl) e h1 h2 e1 e2 lt gt (by rw[hh] at key;show _<(-1:Re)*_;rw[show (-1:Re)*dR (c::d::r) g=-dR (c::d::r) g by grind];exact key)
end Mine
namespace Mine
open PySem
noncomputable def Fr(D n:Int)(v:V):Prop:=∃p q:Int,v=pt p q/\(0<q/\p.gcd q=1)/\p*D=n*q
theorem Fr.low{k:Nat}{D n:Int}{v:V}(h:Fr D n v)(hD:0<D)(sD:Sm k D)(sn:Sm k n):∃p q,v=pt p q/\Low k p q/\p*D=n*q:=by
 refine ay (h) fun p q e zq1 h3=>?_;obtain ⟨h1,h2⟩:=zq1
 exact ⟨p,q,e,sX h2 h1 hD h3 sn sD,h3⟩
theorem Fr.whole(c:Int):Fr 1 c (pt c 1):=⟨c,1,rfl,⟨by decide,Int.gcd_one⟩,rfl⟩
theorem Fr.scale{D n:Int}{v:V}(c:Int)(h:Fr D n v):Fr (D*c) (n*c) v:=by
 refine ay (h) fun p q e h1 h3=>?_
 exact ⟨p,q,e,h1,by rw[<- II,h3,Jc]⟩
theorem Fr.eq{D n D' n':Int}{v:V}(h:Fr D n v)(e:D=D')(e':n=n'):Fr D' n' v:=e ▸ e' ▸ h
theorem EO{p1 q1 p2 q2 p q D n m:Int}(h1:0<q1)(h2:0<q2)(e1:p1*D=n*q1)(e2:p2*D=m*q2)(e:p*(q1*q2)=(p1*q2+p2*q1)*q):p*D=(n+m)*q:=by
 refine I5 (Ho (HG h1 h2)) ?_
 have k1:q1*q2*(p*D)=(p*(q1*q2))*D:=by rw[Ir,Jc]
 have k2:(p1*q2+p2*q1)*q*D=((p1*D)*q2+(p2*D)*q1)*q:=by grind
 rw[k1,e,k2,e1,e2];grind
theorem zE{p1 q1 p2 q2 p q D E n m:Int}(h1:0<q1)(h2:0<q2)(e1:p1*D=n*q1)(e2:p2*E=m*q2)(e:p*(q1*q2)=(p1*p2)*q):p*(D*E)=(n*m)*q:=by
 refine I5 (Ho (HG h1 h2)) ?_
 have k1:q1*q2*(p*(D*E))=(p*(q1*q2))*(D*E):=by rw[Ir,Jc]
 have k2:(p1*p2)*q*(D*E)=((p1*D)*(p2*E))*q:=by grind
 rw[k1,e,k2,e1,e2];grind
section
variable {sub:Nat->Nat->Bool}{P:List Fn}{n:Nat}{H:Hp}{Q:V->Hp->Prop}{X:Nat->Hp->Prop}
theorem ux(zT:TT P){k:Nat}{D x y:Int}{v w:V}(a1:Fr D x v)(a2:Fr D y w)(hD:0<D)(sD:Sm k D)(sx:Sm k x)(sy:Sm k y)(hk:k+k+1<=100000)
  (hQ:∀u,Fr D (x+y) u->Q u H):ag sub P (n+3) 3 [v,w] H Q X:=by
 refine ay (a1.low hD sD sx) fun p1 q1 zq L1 e1=>?_;subst zq
 refine ay (a2.low hD sD sy) fun p2 q2 zq L2 e2=>?_;subst zq
 exact oJ zT L1 L2 (Hj hk (by decide)) fun p q L hp=>hQ _ ⟨p,q,rfl,⟨L.pos,L.one⟩,EO L1.pos L2.pos e1 e2 hp⟩
theorem lM(zT:TT P){k:Nat}{D E x y:Int}{v w:V}(a1:Fr D x v)(a2:Fr E y w)(hD:0<D)(hE:0<E)(sD:Sm k D)(sE:Sm k E)(sx:Sm k x)(sy:Sm k y)(hk:k+k+1<=100000)
  (hQ:∀u,Fr (D*E) (x*y) u->Q u H):ag sub P (n+3) 4 [v,w] H Q X:=by
 refine ay (a1.low hD sD sx) fun p1 q1 zq L1 e1=>?_;subst zq
 refine ay (a2.low hE sE sy) fun p2 q2 zq L2 e2=>?_;subst zq
 exact pj zT L1.top L1.bot L1.pos L2.top L2.bot L2.pos (Hj (Ic hk) (by decide)) fun p q L hp=>hQ _ ⟨p,q,rfl,⟨L.pos,L.one⟩,zE L1.pos L2.pos e1 e2 hp⟩
end
noncomputable def FrL(D x:Nat->Int)(m:Nat)(vs:List V):Prop:=vs.length=m/\∀i,i<m->∃v,vs[i]?=some v/\Fr (D i) (x i) v
theorem FrL.snoc{D x:Nat->Int}{m:Nat}{vs:List V}{v:V}(h:FrL D x m vs)(hv:Fr (D m) (x m) v):FrL D x (m+1) (vs++[v]):=by
 obtain ⟨h1,h2⟩:=h
 refine ⟨by rw[Hl,h1];rfl,fun i hi=>?_⟩
 rcases JL (I1 hi) with g|g
 ·refine ac (h2 i g) fun w hw p=>?_
  exact ⟨w,ao (af _ _) hw,p⟩
 ·subst g;exact ⟨v,by rw[<- h1];exact ai _ _ _,hv⟩
noncomputable def tP(c:Nat->Int)(l:Int)(P:Nat->Int)(w:Nat):Nat->Int
 |0=>0
 |m+1=>tP c l P w m+(if m+1=w then (w:Int)*c w*l^m else c (m+1)*l^m*P (w-(m+1)))
theorem pU(c:Nat->Int)(l:Int)(P:Nat->Int)(w m:Nat):tP c l P w (m+1)=tP c l P w m+(if m+1=w then (w:Int)*c w*l^m else c (m+1)*l^m*P (w-(m+1))):=rfl
theorem Fj(c:Nat->Int)(l:Int)(P:Nat->Int)(w:Nat):tP c l P w 0=0:=rfl
structure NwP (c:Nat->Int)(l:Int)(n:Nat)(P:Nat->Int):Prop where
 p0:P 0=n
 ps:∀w,P (w+1)=-(tP c l P (w+1) (min (w+1) n))
structure SzP (c:Nat->Int)(l:Int)(n:Nat)(P:Nat->Int)(k N:Nat):Prop where
 l0:0<l
 n1:1<=n
 n9:n<=100
 N9:N<=100
 k9:k<=20000
 k8:8<=k
 sl:∀w,w<=N->Sm k (l^w)
 sc:∀j,j<=n->Sm k (c j)
 sp:∀w,w<=N->Sm k (P w)
 st:∀w m,w<=N->m<=min w n->Sm k (tP c l P w m)
 su:∀w m,w<=N->m+1<=min w n->Sm k (if m+1=w then (w:Int)*c w*l^m else c (m+1)*l^m*P (w-(m+1)))
theorem wa{row:List Int}{k:Int}{i:Nat}{x:Int}{H:Hp}{Q:V->Hp->Prop}(hx:row[i]?=some x)(hk:k=(i:Int))(hQ:Q (.int x) H):d8 (.tup (row.map .int)) (.int k) H Q:=by
 have hl:=(Hs.mp hx).1
 subst hk
 show ifSome (some (row.map V.int)) fun xs=>ifSome (cf xs.length (i:Int)) fun i=>ifSome xs[i]? fun v=>Q v H
 exact ix3 (v:=.int x) rfl (aL (by rw[Hi];exact hl)) (by rw[HL,hx];rfl) hQ
noncomputable def uV(row:List Int)(n:Nat)(c:Nat->Int):Prop:=row.length=n+1/\∀j,j<=n->row[n-j]?=some (c j)
theorem En{w:Nat}{m:Nat}{l:Int}(h:m+1<=w):(1:Int)*l^(w-(m+1))*l^m=l^(w-1):=by
 rw[Ip,<- Kq];congr 1;exact oqz [w-(m+1),w,m,w-1] [] [(.le (Y2+1) Y1),(osb Y1 (Y2+1) Y0),(osb Y1 1 Y3)] (.eq (Y0+Y2) Y3) [10001001,10000101,1010001,110001,1001011,101011] rfl h (am (w) (m+1)) (am (w) (1))
section
variable {sub:Nat->Nat->Bool}{P:List Fn}{n ps:Nat}{H:Hp}{Q:V->Hp->Prop}{X:Nat->Hp->Prop}{W:Nat->Prop}{NN:Loc->Hp->Prop}{R:V->Hp->Prop}{Y:Nat->Hp->Prop}
theorem Bn(zT:TT P){row:List Int}{c P':Nat->Int}{l:Int}{d k N w i m:Nat}{o1:Option V}{t:V}{vs:List V}(hr:uV row d c)(z:SzP c l d P' k N)(hwN:w<=N)(hi:H[i]?=some vs)(hv:FrL (fun j=>l^j) P' w vs)(m1:m+1<=w)(m2:m+1<=d)(ht:Fr (l^(w-1)) (tP c l P' w m) t)
  (hN:∀t,Fr (l^(w-1)) (tP c l P' w (m+1)) t->NN [some (.tup (row.map .int)),o1,some (.int d),some (.lst i),some (.int w),some t,some (.int (1+(m:Int)))] H) :
  wpS sub (ag sub P (n+3)) W (oG 3 4) [some (.tup (row.map .int)),o1,some (.int d),some (.lst i),some (.int w),some t,some (.int (1+(m:Int)))] H NN R Y:=by
 have l0:=z.l0
 have k9:k+k+1<=100000:=by have:=z.k9;exact oqz [k] [] [(.le Y0 20000)] (.le (Y0+Y0+1) 100000) [21] rfl this
 have D0:0<l^(w-1):=Iq l0
 have sD:=z.sl (w-1) (by exact oqz [w-1,w,N] [] [(.le Y1 Y2),(.an (.le Y1 (Y0+1)) (.le Y0 Y1))] (.le Y0 Y2) [1011] rfl hwN (aX (w) (1)))
 have m3:m+1<=min w d:=Nat.le_min.mpr ⟨m1,m2⟩
 have st:=z.st w m hwN (Ic m3)
 have su:=z.su w m hwN m3
 have hx:=hr.2 (m+1) m2
 have hx':(d:Int)-(1+(m:Int))=((d-(m+1):Nat):Int):=oqz [d,m,d-(m+1)] [] [(.le (Y1+1) Y0),(osb Y0 (Y1+1) Y2)] (.ie (.s (.c Y0) (.a 1 (.c Y1))) (.c Y2)) [10001,1011,1001,101] rfl m2 (am (d) (m+1))
 rw[pU] at hN
 dsimp only[oG,qS1,qS2,qS3,bC,qE1,qE5,qE8,br,aS,aV,dW,aC,aD,cQ,fA,bZ,aU,aa,ah,aE]
 by_cases hc:m+1=w
 ·rw[decide_eq_true (show 1+(m:Int)=(w:Int) by exact oqz [m,w] [] [(.eq (Y0+1) Y1)] (.ie (.a 1 (.c Y0)) (.c Y1)) [101,11] rfl hc)]
  dsimp only[bw]
  rw[if_pos hc] at hN su
  refine wa hx hx' ?_
  refine ⟨IntMulOk.left (fw ⟨by exact oqz [w] [] [] (.il 0 (.c Y0)) [1] rfl,by have:=z.N9;exact oqz [w,N] [] [(.le Y0 Y1),(.le Y1 100)] (.il (.c Y0) 1000000) [111] rfl hwN this⟩),?_⟩
  have f2:=(Fr.whole ((w:Int)*c (m+1))).scale (l^m)
  rw[Ip,show l^m=l^(w-1) by rw[<- hc];rfl,show c (m+1)=c w by rw[hc]] at f2
  rw[show l^m=l^(w-1) by rw[<- hc];rfl] at hN su
  rw[show c (m+1)=c w by rw[hc]]
  exact ux zT ht f2 D0 sD st su k9 hN
 ·rw[decide_eq_false (show ¬ 1+(m:Int)=(w:Int) by exact oqz [m,w] [] [(.no (.eq (Y0+1) Y1))] (.no (.ie (.a 1 (.c Y0)) (.c Y1))) [110,101] rfl hc)]
  dsimp only[bK]
  rw[if_neg hc,Jc] at hN su
  refine wa hx hx' ?_
  refine ac (hv.2 (w-(m+1)) (by exact oqz [w-(m+1),w,m] [] [(.le (Y2+1) Y1),(osb Y1 (Y2+1) Y0)] (.le (Y0+1) Y1) [10001,1011] rfl m1 (am (w) (m+1)))) fun v hv1 hv2=>?_
  refine jT hi (k:=(w:Int)-(1+(m:Int))) (by exact oqz [w,m] [] [(.le (Y1+1) Y0)] (.il 0 (.s (.c Y0) (.a 1 (.c Y1)))) [11] rfl m1) (by rw[show ((w:Int)-(1+(m:Int))).toNat=w-(m+1) by exact oqz [((↑w:Int)-(1+(↑m:Int))).toNat,w,m,w-(m+1)] [] [(otn (.s (.c Y1) (.a 1 (.c Y2))) Y0),(osb Y1 (Y2+1) Y3)] (.eq Y0 Y3) [1001001,100001,1000011,100101,10101,101] rfl (aR ((↑w:Int)-(1+(↑m:Int)))) (am (w) (m+1))];exact hv1) ?_
  have s1:Sm k 1:=Sm.mono (k:=1) (by unfold Sm;decide) (Hj (by decide) z.k8)
  refine lM zT (Fr.whole (c (m+1))) hv2 (by decide) (Iq l0) s1 (z.sl _ (by exact oqz [w-(m+1),w,m,N] [] [(.le Y1 Y3),(.an (.le Y1 (Y0+(Y2+1))) (.le Y0 Y1))] (.le Y0 Y3) [1011] rfl hwN (aX (w) (m+1)))) (z.sc (m+1) m2) (z.sp _ (by exact oqz [w-(m+1),w,m,N] [] [(.le Y1 Y3),(.an (.le Y1 (Y0+(Y2+1))) (.le Y0 Y1))] (.le Y0 Y3) [1011] rfl hwN (aX (w) (m+1)))) k9 fun t1 h1=>?_
  have f2:=h1.scale (l^m)
  rw[En m1] at f2
  exact ux zT ht f2 D0 sD st su k9 hN
theorem BW(zT:TT P){row:List Int}{c P':Nat->Int}{l:Int}{d k N w i:Nat}{o1:Option V}{vs:List V}(hr:uV row d c)(z:SzP c l d P' k N)(hwN:w<=N)(hi:H[i]?=some vs)(hv:FrL (fun j=>l^j) P' w vs)
  (hN:∀t o6,Fr (l^(w-1)) (tP c l P' w (min w d)) t->NN [some (.tup (row.map .int)),o1,some (.int d),some (.lst i),some (.int w),some t,o6] H):∀ (r m:Nat) (t:V) (o6:Option V),m+r=min w d->Fr (l^(w-1)) (tP c l P' w m) t ->
  cY (fun ρ2 H2 k=>wpS sub (ag sub P (n+3)) W (oG 3 4) ρ2 H2 k R Y) 6 ((List.range' m r).map fun (i:Nat)=>V.int (1+(i:Int))) [some (.tup (row.map .int)),o1,some (.int d),some (.lst i),some (.int w),some t,o6] H NN
 |0,m,t,o6,hm,ht=>by
  obtain rfl:m=min w d:=hm
  exact hN t o6 ht
 |r+1,m,t,o6,hm,ht=>Bn zT hr z hwN hi hv (Hj (by rw[<- hm];exact I2 (Jw 1 r) m) (JM w d)) (Hj (by rw[<- hm];exact I2 (Jw 1 r) m) (Kj w d)) ht fun t' h' =>
   BW zT hr z hwN hi hv hN r (m+1) t' _ (by rw[<- hm,J5,IJ]) h'
theorem CV(zT:TT P){row:List Int}{c P':Nat->Int}{l:Int}{d k N w i:Nat}{o1 o5 o6:Option V}{vs:List V}(hr:uV row d c)(z:SzP c l d P' k N)(hp:NwP c l d P')(hl:c 0=l)(hw1:1<=w)(hwN:w<=N)(hi:H[i]?=some vs)(hW:W i)(hv:FrL (fun j=>l^j) P' w vs)
  (hN:∀vs' o5 o6,FrL (fun j=>l^j) P' (w+1) vs'->NN [some (.tup (row.map .int)),o1,some (.int d),some (.lst i),some (.int w),o5,o6] (H.set i vs')) :
  wpS sub (ag sub P (n+3)) W (oH 1 3 4) [some (.tup (row.map .int)),o1,some (.int d),some (.lst i),some (.int w),o5,o6] H NN R Y:=by
 have N9:=z.N9
 have n9:=z.n9
 have emin:(if (d:Int)<(w:Int) then (d:Int) else (w:Int))=((min w d:Nat):Int):=by
  by_cases h:(d:Int)<(w:Int)
  ·rw[if_pos h,JU (IO.mp (HZ h))]
  ·rw[if_neg h,J2 (IO.mp (JG.mp h))]
 dsimp only[oH]
 generalize hT:we 1 4=T
 generalize hB:oG 3 4=B
 dsimp only[qS2,qS3,dZ,qE1,qE5,qE7,qE8,bV,aC,aD,qI3,b9,Gn,aa,ah,aE]
 subst hT hB
 rw[emin]
 have nought:Fr (l^(w-1)) (tP c l P' w 0) (pt 0 1):=((Fr.whole 0).scale (l^(w-1))).eq (Ip _) (IL _)
 refine yk (aH (by decide) (by decide)) (aH (by exact oqz [min w d] [] [] (.il (.g 1000000) (.a (.c Y0) 1)) [1] rfl) (by exact oqz [min w d,w,d] [] [(.le Y2 100),(.an (.le Y0 Y1) (.le Y0 Y2))] (.il (.a (.c Y0) 1) 1000000) [1011] rfl n9 (Mine.rB (w) (d)))) ?_
 rw[show (((min w d:Nat):Int)+1-1).toNat=min w d by exact oqz [((↑(min w d):Int)+1-1).toNat,min w d] [] [(otn (.s (.a (.c Y1) 1) 1) Y0)] (.eq Y0 Y1) [1001,11,101] rfl (aR ((↑(min w d):Int)+1-1))]
 refine BW zT hr z hwN hi hv (fun t o6 ht=>?_) (min w d) 0 _ _ (IF _) nought
 dsimp only[we,qS1,qS2,qS6,qE1,qE5,qE9,aS,aV,aC,aD,aa,cu,ah]
 refine ⟨hW,?_⟩
 have hx:=hr.2 0 (HQ _)
 rw[hl] at hx
 refine wa hx rfl ?_
 have l0:=z.l0
 have sl1:=z.sl 1 (by exact oqz [N,w] [] [(.le 1 Y1),(.le Y1 Y0)] (.le 1 Y0) [111] rfl hw1 hwN)
 rw[Ig,ID,Ip] at sl1
 have s1:Sm k (-1):=Sm.mono (k:=1) (by unfold Sm;decide) (Hj (by decide) z.k8)
 have k9:k+k+1<=100000:=by have:=z.k9;exact oqz [k] [] [(.le Y0 20000)] (.le (Y0+Y0+1) 100000) [21] rfl this
 refine xx zT l0 (k:=k) s1 sl1 (by exact oqz [k] [] [(.le (Y0+Y0+1) 100000)] (.le Y0 60000000) [12] rfl k9) fun p q L hp'=>?_
 refine lM zT ht ⟨p,q,rfl,⟨L.pos,L.one⟩,hp'⟩ (Iq l0) l0 (z.sl _ (by exact oqz [w-1,w,N] [] [(.le Y1 Y2),(.an (.le Y1 (Y0+1)) (.le Y0 Y1))] (.le Y0 Y2) [1011] rfl hwN (aX (w) (1)))) sl1 (z.st w _ hwN (Ht _)) s1 k9 fun t1 h1=>?_
 refine ifSome.mk hi ⟨by rw[hv.1];unfold lim;exact oqz [w,N] [] [(.le Y0 Y1),(.le Y1 100)] (.le (Y0+1) 1000000) [111] rfl hwN N9,hN _ _ _ (hv.snoc (h1.eq ?_ ?_))⟩
 ·rw[<- Ig];congr 1;exact oqz [w-1,w] [] [(.le 1 Y1),(osb Y1 1 Y0)] (.eq (Y0+1) Y1) [1001,101,10001,1011] rfl hw1 (am (w) (1))
 ·obtain ⟨w',rfl⟩:∃w',w=w'+1:=⟨w-1,by exact oqz [w,w-1] [] [(.le 1 Y0),(osb Y0 1 Y1)] (.eq Y0 (Y1+1)) [10001,1011,1001,101] rfl hw1 (am (w) (1))⟩
  rw[hp.ps,Int.mul_neg,Id]
theorem wH(zT:TT P){row:List Int}{c P':Nat->Int}{l:Int}{d k N:Nat}{K:Hp}{o1:Option V}(hr:uV row d c)(z:SzP c l d P' k N)(hp:NwP c l d P')(hl:c 0=l)(hW:W K.length)
  (hN:∀vs o4 o5 o6,FrL (fun j=>l^j) P' (N+1) vs->NN [some (.tup (row.map .int)),o1,some (.int d),some (.lst K.length),o4,o5,o6] (K++[vs])):∀ (r w:Nat) (vs:List V) (o4 o5 o6:Option V),1+w+r=N+1->FrL (fun j=>l^j) P' (1+w) vs ->
  cY (fun ρ2 H2 k=>wpS sub (ag sub P (n+3)) W (oH 1 3 4) ρ2 H2 k R Y) 4 ((List.range' w r).map fun (i:Nat)=>V.int (1+(i:Int))) [some (.tup (row.map .int)),o1,some (.int d),some (.lst K.length),o4,o5,o6] (K++[vs]) NN
 |0,w,vs,o4,o5,o6,hw,hv=>hN vs o4 o5 o6 (hw ▸ hv)
 |r+1,w,vs,o4,o5,o6,hw,hv=>CV zT (w:=1+w) hr z hp hl (Ja 1 w) (I0 (Nat.le_of_add_right_le (IE (by rw[<- hw,IJ (1+w),IM 1 r]:1+w+1+r=N+1)))) (ai _ _ _) hW hv fun vs' o5' o6' h'=>by
   rw[cT]
   exact wH zT hr z hp hl hW hN r (w+1) vs' _ _ _ (by rw[<- hw,IM r 1,<- IJ 1 w 1,IJ]) h'
theorem nk(zT:TT P){row:List Int}{c P':Nat->Int}{l:Int}{d k N:Nat}(hr:uV row d c)(z:SzP c l d P' k N)(hp:NwP c l d P')(hl:c 0=l)
  (hQ:∀vs,FrL (fun j=>l^j) P' (N+1) vs->Q (.lst H.length) (H++[vs])):ag sub P (n+4) 23 [.tup (row.map .int),.int N] H Q X:=by
 have N9:=z.N9
 have n9:=z.n9
 refine aj zT.a23 rfl ?_
 dsimp only[C3]
 generalize hB:oH 1 3 4=B
 dsimp only[qS1,qS2,qS3,qS9,dZ,qE1,qE5,qE8,aS,bV,g7,aC,aD,qI3,b9,cQ,fM,aB,az,aw,av,aM,aA,au,aa,ah,aE,Nat.reduceSub]
 subst hB
 rw[Hi,hr.1,show ((d+1:Nat):Int)-1=(d:Int) by exact oqz [d] [] [] (.ie (.s (.c (Y0+1)) 1) (.c Y0)) [1] rfl]
 refine xx zT (by decide) (k:=64) (fw ⟨by exact oqz [d] [] [] (.il 0 (.c Y0)) [1] rfl,by exact oqz [d] [] [(.le Y0 100)] (.il (.c Y0) 1000000) [11] rfl n9⟩) (by unfold Sm;decide) (by decide) fun p q L hp'=>?_
 refine yk (aH (by decide) (by decide)) (aH (by exact oqz [N] [] [] (.il (.g 1000000) (.a (.c Y0) 1)) [1] rfl) (by exact oqz [N] [] [(.le Y0 100)] (.il (.a (.c Y0) 1) 1000000) [11] rfl N9)) ?_
 rw[show ((N:Int)+1-1).toNat=N by exact oqz [((↑N:Int)+1-1).toNat,N] [] [(otn (.s (.a (.c Y1) 1) 1) Y0)] (.eq Y0 Y1) [1001,11,101] rfl (aR ((↑N:Int)+1-1))]
 have v0:FrL (fun j=>l^j) P' (1+0) [pt p q]:=⟨rfl,fun i hi=>by
  obtain rfl:i=0:=oqz [i] [] [(.le (Y0+1) 1)] (.eq Y0 0) [11] rfl hi
  exact ⟨_,rfl,p,q,rfl,⟨L.pos,L.one⟩,by rw[hp.p0];show p*l^0=_;rw[ID];exact hp'⟩⟩
 refine wH zT (K:=H) (W:=fun m=>H.length<=m/\some m≠none) hr z hp hl ⟨Ht _,nofun⟩ (fun vs o4 o5 o6 h=>?_) N 0 _ _ _ _ (IM 1 N) v0
 dsimp only[aa,ah]
 exact hQ vs h
end
end Mine
namespace Mine
open PySem
noncomputable def fk:Nat->Int
 |0=>1
 |n+1=>fk n*((n:Int)+1)
theorem fkC(n:Nat):fk (n+1)=fk n*((n:Int)+1):=rfl
theorem fO:∀n,0<fk n
 |0=>by decide
 |n+1=>HG (fO n) (by exact oqz [n] [] [] (.il (0+1) (.a (.c Y0) 1)) [1] rfl)
noncomputable def ds(n:Nat):Nat->Int
 |0=>1
 |j+1=>ds n j*((n:Int)-j)
theorem dsC(n j:Nat):ds n (j+1)=ds n j*((n:Int)-j):=rfl
theorem zf(n:Nat):∀j,j<=n->fk (n-j)*ds n j=fk n
 |0,_=>Id _
 |j+1,h=>by
  have:=zf n j (Ic h)
  rw[show n-j=(n-(j+1))+1 by exact oqz [n-j,n,j,n-(j+1)] [] [(.le (Y2+1) Y1),(osb Y1 Y2 Y0),(osb Y1 (Y2+1) Y3)] (.eq Y0 (Y3+1)) [10001001,1001011,110,1010001,110001] rfl h (am (n) (j)) (am (n) (j+1)),fkC,show ((n-(j+1):Nat):Int)+1=(n:Int)-j by exact oqz [n-(j+1),n,j] [] [(.le (Y2+1) Y1),(osb Y1 (Y2+1) Y0)] (.ie (.a (.c Y0) 1) (.s (.c Y1) (.c Y2))) [1001,101,10001,1011] rfl h (am (n) (j+1))] at this
  rw[dsC,<- this,II,Ir (ds n j)]
noncomputable def sgI(j:Nat)(x:Int):Int:=if j % 2=1 then -x else x
theorem iX(j:Nat)(x c:Int):sgI j x*c=sgI j (x*c):=by
 unfold sgI;split
 ·exact Iy _ _
 ·rfl
theorem Ae(j:Nat)(x c:Int):c*sgI j x=sgI j (c*x):=by
 unfold sgI;split
 ·exact Int.mul_neg _ _
 ·rfl
theorem Sm.sgI{k j:Nat}{x:Int}(h:Sm k x):Sm k (Mine.sgI j x):=by
 unfold Mine.sgI;split
 ·exact h.neg
 ·exact h
noncomputable def tE(S E:Nat->Int)(w:Nat):Nat->Int
 |0=>0
 |j+1=>tE S E w j+sgI j (E (w-(j+1))*S (j+1)*ds (w-1) j)
theorem tEC(S E:Nat->Int)(w j:Nat):tE S E w (j+1)=tE S E w j+sgI j (E (w-(j+1))*S (j+1)*ds (w-1) j):=rfl
structure NwE (S E:Nat->Int):Prop where
 e0:E 0=1
 es:∀w,E (w+1)=tE S E (w+1) (w+1)
structure SzE (L:Int)(S E:Nat->Int)(k N:Nat):Prop where
 l0:0<L
 N9:N<=100
 k9:k<=20000
 k8:8<=k
 sl:∀w,w<=N->Sm k (L^w)
 sd:∀w,w<=N->Sm k (fk w*L^w)
 sq:∀w,w+1<=N->Sm k (fk w*L^(w+1))
 ss:∀w,w<=N->Sm k (S w)
 se:∀w,w<=N->Sm k (E w)
 st:∀w j,w<=N->j<=w->Sm k (tE S E w j)
 su:∀w j,w<=N->j+1<=w->Sm k (E (w-(j+1))*S (j+1)*ds (w-1) j)
theorem CA{j:Nat}{D x:Int}{p q:Int}(h:p*D=x*q):sgI j p*D=sgI j x*q:=by rw[iX,h,iX]
theorem C7{j:Nat}{p q:Int}(h:p.gcd q=1):(sgI j p).gcd q=1:=by
 unfold sgI;split
 ·rw[Int.neg_gcd];exact h
 ·exact h
section
variable {sub:Nat->Nat->Bool}{P:List Fn}{n:Nat}{H:Hp}{Q:V->Hp->Prop}{X:Nat->Hp->Prop}{W:Nat->Prop}{NN:Loc->Hp->Prop}{R:V->Hp->Prop}{Y:Nat->Hp->Prop}
theorem Cx(zT:TT P){j:Nat}{p q i:Int}(hi:i=(j:Int))(hQ:Q (pt (sgI j p) q) H):ag sub P (n+2) 24 [pt p q,.int i] H Q X:=by
 subst hi
 have hm:(j:Int).fmod 2=((j % 2:Nat):Int):=by rw[Int.fmod_eq_emod_of_nonneg _ (by decide)];rfl
 refine aj zT.a24 rfl ?_
 dsimp only[Er,qS1,qS2,qS9,bC,qE1,qE5,qE8,br,aS,aC,aD,yG,fA,aU,aB,az,aw,av,aA,au,aa,ah,Nat.reduceSub]
 refine ⟨by decide,?_⟩
 rw[hm]
 unfold sgI at hQ
 by_cases h:j % 2=1
 ·rw[if_pos h] at hQ
  rw[decide_eq_true (show ((j % 2:Nat):Int)=1 by rw[h];rfl)]
  exact uY zT hQ
 ·rw[if_neg h] at hQ
  rw[decide_eq_false (show ¬ ((j % 2:Nat):Int)=1 from fun g=>h (Int.ofNat_inj.mp g))]
  exact hQ
theorem AN(zT:TT P){L:Int}{S E:Nat->Int}{k N w j a m:Nat}{o1 o6 o7 o8 o9:Option V}{t:V}{us vs:List V}(z:SzE L S E k N)(hw:w<=N)(hj:j+1<=w)(ha:H[a]?=some us)(hm:H[m]?=some vs)(hu:FrL (fun i=>L^i) S (N+1) us)(hv:FrL (fun i=>fk i*L^i) E w vs)
  (ht:Fr (fk (w-1)*L^w) (tE S E w j) t) (hN:∀t,Fr (fk (w-1)*L^w) (tE S E w (j+1)) t->NN [some (.lst a),o1,some (.lst m),some (.int w),some t,some (.int (1+(j:Int))),o6,o7,o8,o9] H) :
  wpS sub (ag sub P (n+3)) W (w9 3 4 24) [some (.lst a),o1,some (.lst m),some (.int w),some t,some (.int (1+(j:Int))),o6,o7,o8,o9] H NN R Y:=by
 have l0:=z.l0
 have k9:k+k+1<=100000:=by have:=z.k9;exact oqz [k] [] [(.le Y0 20000)] (.le (Y0+Y0+1) 100000) [21] rfl this
 refine ac (hv.2 (w-(j+1)) (by exact oqz [w-(j+1),w,j] [] [(.le (Y2+1) Y1),(osb Y1 (Y2+1) Y0)] (.le (Y0+1) Y1) [10001,1011] rfl hj (am (w) (j+1)))) fun v hv1 hv2=>?_
 refine ac (hu.2 (j+1) (by exact oqz [j,N,w] [] [(.le Y2 Y1),(.le (Y0+1) Y2)] (.le (Y0+1+1) (Y1+1)) [111] rfl hw hj)) fun u hu1 hu2=>?_
 have D0:0<fk (w-1)*L^w:=HG (fO _) (Iq l0)
 have hsz:=z.sq (w-1) (by exact oqz [w-1,w,N,j] [] [(.le Y1 Y2),(.le (Y3+1) Y1),(osb Y1 1 Y0)] (.le (Y0+1) Y2) [100011,10111] rfl hw hj (am (w) (1)))
 rw[show w-1+1=w by exact oqz [w-1,w,j] [] [(.le (Y2+1) Y1),(osb Y1 1 Y0)] (.eq (Y0+1) Y1) [1001,101,10001,1011] rfl hj (am (w) (1))] at hsz
 dsimp only[w9,qS1,qS2,qS3,qE1,qE5,qE8,aS,aV,aC,aD,cQ,bZ,aa,ah,aE]
 refine jT hm (k:=(w:Int)-(1+(j:Int))) (by exact oqz [w,j] [] [(.le (Y1+1) Y0)] (.il 0 (.s (.c Y0) (.a 1 (.c Y1)))) [11] rfl hj) (by rw[show ((w:Int)-(1+(j:Int))).toNat=w-(j+1) by exact oqz [((↑w:Int)-(1+(↑j:Int))).toNat,w,j,w-(j+1)] [] [(otn (.s (.c Y1) (.a 1 (.c Y2))) Y0),(osb Y1 (Y2+1) Y3)] (.eq Y0 Y3) [1001001,100001,1000011,100101,10101,101] rfl (aR ((↑w:Int)-(1+(↑j:Int)))) (am (w) (j+1))];exact hv1) ?_
 refine jT ha (k:=1+(j:Int)) (by exact oqz [j] [] [] (.il 0 (.a 1 (.c Y0))) [1] rfl) (by rw[show (1+(j:Int)).toNat=j+1 by exact oqz [(1+(↑j:Int)).toNat,j] [] [(otn (.a 1 (.c Y1)) Y0)] (.eq Y0 (Y1+1)) [1001,10,101] rfl (aR (1+(↑j:Int)))];exact hu1) ?_
 refine lM zT hv2 hu2 (HG (fO _) (Iq l0)) (Iq l0) (z.sd _ (by exact oqz [w-(j+1),w,j,N] [] [(.le Y1 Y3),(.an (.le Y1 (Y0+(Y2+1))) (.le Y0 Y1))] (.le Y0 Y3) [1011] rfl hw (aX (w) (j+1)))) (z.sl _ (by exact oqz [j,N,w] [] [(.le Y2 Y1),(.le (Y0+1) Y2)] (.le (Y0+1) Y1) [111] rfl hw hj)) (z.se _ (by exact oqz [w-(j+1),w,j,N] [] [(.le Y1 Y3),(.an (.le Y1 (Y0+(Y2+1))) (.le Y0 Y1))] (.le Y0 Y3) [1011] rfl hw (aX (w) (j+1)))) (z.ss _ (by exact oqz [j,N,w] [] [(.le Y2 Y1),(.le (Y0+1) Y2)] (.le (Y0+1) Y1) [111] rfl hw hj)) k9 fun t1 h1=>?_
 have h2:=h1.scale (ds (w-1) j)
 have eD:fk (w-(j+1))*L^(w-(j+1))*L^(j+1)*ds (w-1) j=fk (w-1)*L^w:=by
  rw[II (fk _),<- Kq,show w-(j+1)+(j+1)=w by exact oqz [w-(j+1),w,j] [] [(.le (Y2+1) Y1),(osb Y1 (Y2+1) Y0)] (.eq (Y0+(Y2+1)) Y1) [1001,101,10001,1011] rfl hj (am (w) (j+1)),Jc,show w-(j+1)=w-1-j by exact oqz [w-(j+1),w,j,w-1-j,w-1] [] [(osb Y1 (Y2+1) Y0),(osb Y1 1 Y4),(osb Y4 Y2 Y3)] (.eq Y0 Y3) [1001000101,100000001,1000100001,1001000011,100101001,10101001,11001,101] rfl (am (w) (j+1)) (am (w) (1)) (am (w-1) (j)),zf _ _ (by exact oqz [j,w-1,w] [] [(.le (Y0+1) Y2),(.an (.le Y2 (Y1+1)) (.le Y1 Y2))] (.le Y0 Y1) [111] rfl hj (aX (w) (1)))]
 rw[eD] at h2
 refine ay (h2) fun p q zq2 zq3 h3=>?_;subst zq2;obtain ⟨hq,hg⟩:=zq3
 refine Cx zT (j:=j) (by exact oqz [j] [] [] (.ie (.s (.a 1 (.c Y0)) 1) (.c Y0)) [1] rfl) ?_
 rw[tEC] at hN
 exact ux zT ht ⟨_,q,rfl,⟨hq,C7 hg⟩,CA h3⟩ D0 hsz (z.st w j hw (by exact oqz [j,w] [] [(.le (Y0+1) Y1)] (.le Y0 Y1) [11] rfl hj)) (z.su w j hw hj).sgI k9 hN
theorem Cc(zT:TT P){L:Int}{S E:Nat->Int}{k N w a m:Nat}{o1 o6 o7 o8 o9:Option V}{us vs:List V}(z:SzE L S E k N)(hw:w<=N)(ha:H[a]?=some us)(hm:H[m]?=some vs)(hu:FrL (fun i=>L^i) S (N+1) us)(hv:FrL (fun i=>fk i*L^i) E w vs)
  (hN:∀t o5,Fr (fk (w-1)*L^w) (tE S E w w) t->NN [some (.lst a),o1,some (.lst m),some (.int w),some t,o5,o6,o7,o8,o9] H):∀ (r j:Nat) (t:V) (o5:Option V),j+r=w->Fr (fk (w-1)*L^w) (tE S E w j) t ->
  cY (fun ρ2 H2 k=>wpS sub (ag sub P (n+3)) W (w9 3 4 24) ρ2 H2 k R Y) 5 ((List.range' j r).map fun (i:Nat)=>V.int (1+(i:Int))) [some (.lst a),o1,some (.lst m),some (.int w),some t,o5,o6,o7,o8,o9] H NN
 |0,j,t,o5,hj,ht=>hN t o5 (hj ▸ ht)
 |r+1,j,t,o5,hj,ht=>AN zT z hw (by rw[<- hj];exact I2 (Jw 1 r) j) ha hm hu hv ht fun t' h' =>
   Cc zT z hw ha hm hu hv hN r (j+1) t' _ (by rw[<- hj,J5,IJ]) h'
theorem C9(zT:TT P){L:Int}{S E:Nat->Int}{k N w a m:Nat}{o1 o4 o5 o6 o7 o8 o9:Option V}{us vs:List V}(z:SzE L S E k N)(hE:NwE S E)(hw1:1<=w)(hw:w<=N)(ha:H[a]?=some us)(hm:H[m]?=some vs)(hW:W m)(hu:FrL (fun i=>L^i) S (N+1) us)(hv:FrL (fun i=>fk i*L^i) E w vs)
  (hN:∀vs' o4 o5,FrL (fun i=>fk i*L^i) E (w+1) vs'->NN [some (.lst a),o1,some (.lst m),some (.int w),o4,o5,o6,o7,o8,o9] (H.set m vs')) :
  wpS sub (ag sub P (n+3)) W (yp 3 4 24) [some (.lst a),o1,some (.lst m),some (.int w),o4,o5,o6,o7,o8,o9] H NN R Y:=by
 have N9:=z.N9
 have l0:=z.l0
 have k9:k+k+1<=100000:=by have:=z.k9;exact oqz [k] [] [(.le Y0 20000)] (.le (Y0+Y0+1) 100000) [21] rfl this
 dsimp only[yp]
 generalize hT:ER 4=T
 generalize hB:w9 3 4 24=B
 dsimp only[qS2,qS3,dZ,qE1,qE5,qE7,qE8,aC,aD,qI3,b9,aa,ah,aE]
 subst hT hB
 have nought:Fr (fk (w-1)*L^w) (tE S E w 0) (pt 0 1):=((Fr.whole 0).scale (fk (w-1)*L^w)).eq (Ip _) (IL _)
 refine yk (aH (by decide) (by decide)) (aH (by exact oqz [w] [] [] (.il (.g 1000000) (.a (.c Y0) 1)) [1] rfl) (by exact oqz [w,N] [] [(.le Y0 Y1),(.le Y1 100)] (.il (.a (.c Y0) 1) 1000000) [111] rfl hw N9)) ?_
 rw[show ((w:Int)+1-1).toNat=w by exact oqz [((↑w:Int)+1-1).toNat,w] [] [(otn (.s (.a (.c Y1) 1) 1) Y0)] (.eq Y0 Y1) [1001,11,101] rfl (aR ((↑w:Int)+1-1))]
 refine Cc zT z hw ha hm hu hv (fun t o5 ht=>?_) w 0 _ _ (IF _) nought
 dsimp only[ER,qS1,qS2,qS6,qE1,qE5,aS,dW,aC,aD,aa,cu,ah]
 refine ⟨hW,?_⟩
 have w0:0<(w:Int):=oqz [w] [] [(.le 1 Y0)] (.il (0+1) (.c Y0)) [11] rfl hw1
 have sw:Sm k (w:Int):=Sm.mono (k:=8) (by unfold Sm;rw[show (2:Nat)^8=256 by decide];exact oqz [(↑w:Int).natAbs,w,N] [] [(.le Y1 Y2),(.le Y2 100),(ona (.c Y1) Y0)] (.le (Y0+1) 256) [10111] rfl hw N9 (bm ((↑w:Int)))) z.k8
 have s1:Sm k 1:=Sm.mono (k:=1) (by unfold Sm;decide) (Hj (by decide) z.k8)
 have hsz:=z.sq (w-1) (by exact oqz [w-1,w,N] [] [(.le 1 Y1),(.le Y1 Y2),(osb Y1 1 Y0)] (.le (Y0+1) Y2) [100101,10111] rfl hw1 hw (am (w) (1)))
 rw[show w-1+1=w by exact oqz [w-1,w] [] [(.le 1 Y1),(osb Y1 1 Y0)] (.eq (Y0+1) Y1) [1001,101,10001,1011] rfl hw1 (am (w) (1))] at hsz
 refine lM zT ht ⟨1,w,rfl,⟨w0,Int.one_gcd⟩,rfl⟩ (HG (fO _) (Iq l0)) w0 hsz sw (z.st w w hw (Ht _)) s1 k9 fun t1 h1=>?_
 refine ifSome.mk hm ⟨by rw[hv.1];unfold lim;exact oqz [w,N] [] [(.le Y0 Y1),(.le Y1 100)] (.le (Y0+1) 1000000) [111] rfl hw N9,hN _ _ _ (hv.snoc (h1.eq ?_ ?_))⟩
 ·obtain ⟨v,rfl⟩:∃v,w=v+1:=⟨w-1,by exact oqz [w,w-1] [] [(.le 1 Y0),(osb Y0 1 Y1)] (.eq Y0 (Y1+1)) [10001,1011,1001,101] rfl hw1 (am (w) (1))⟩
  rw[fkC,Jc];rfl
 ·obtain ⟨v,rfl⟩:∃v,w=v+1:=⟨w-1,by exact oqz [w,w-1] [] [(.le 1 Y0),(osb Y0 1 Y1)] (.eq Y0 (Y1+1)) [10001,1011,1001,101] rfl hw1 (am (w) (1))⟩
  rw[hE.es,Id]
theorem xa(zT:TT P){L:Int}{S E:Nat->Int}{k N a:Nat}{K:Hp}{o1 o6 o7 o8 o9:Option V}{us:List V}(z:SzE L S E k N)(hE:NwE S E)(ha:K[a]?=some us)(hW:W K.length)(hu:FrL (fun i=>L^i) S (N+1) us)
  (hN:∀vs o3 o4 o5,FrL (fun i=>fk i*L^i) E (N+1) vs->NN [some (.lst a),o1,some (.lst K.length),o3,o4,o5,o6,o7,o8,o9] (K++[vs])):∀ (r w:Nat) (vs:List V) (o3 o4 o5:Option V),1+w+r=N+1->FrL (fun i=>fk i*L^i) E (1+w) vs ->
  cY (fun ρ2 H2 k=>wpS sub (ag sub P (n+3)) W (yp 3 4 24) ρ2 H2 k R Y) 3 ((List.range' w r).map fun (i:Nat)=>V.int (1+(i:Int))) [some (.lst a),o1,some (.lst K.length),o3,o4,o5,o6,o7,o8,o9] (K++[vs]) NN
 |0,w,vs,o3,o4,o5,hw,hv=>hN vs o3 o4 o5 (hw ▸ hv)
 |r+1,w,vs,o3,o4,o5,hw,hv=>C9 zT (w:=1+w) z hE (Ja 1 w) (I0 (Nat.le_of_add_right_le (IE (by rw[<- hw,IJ (1+w),IM 1 r]:1+w+1+r=N+1)))) (ao (af _ _) ha) (ai _ _ _) hW hu hv fun vs' o4' o5' h'=>by
   rw[cT]
   exact xa zT z hE ha hW hu hN r (w+1) vs' _ _ _ (by rw[<- hw,IM r 1,<- IJ 1 w 1,IJ]) h'
end
end Mine
namespace Mine
open PySem
theorem DG{s q Δ:Int}(hs:0<s)(hq:0<q)(h1:s ∣ Δ)(h2:q ∣ Δ):0<(s*q).fdiv ((s.gcd q:Nat):Int)/\s ∣ (s*q).fdiv ((s.gcd q:Nat):Int)/\q ∣ (s*q).fdiv ((s.gcd q:Nat):Int)/\(s*q).fdiv ((s.gcd q:Nat):Int) ∣ Δ:=by
 have hg:0<((s.gcd q:Nat):Int):=I4.mpr (Int.gcd_pos_of_ne_zero_left q (Ho hs))
 have e:(s*q).fdiv ((s.gcd q:Nat):Int)=((s.lcm q:Nat):Int):=by
  have h:((s.gcd q:Nat):Int)*((s.lcm q:Nat):Int)=s*q:=by
   rw[<- Ij,Int.gcd_mul_lcm,Ij,Int.natAbs_of_nonneg (HZ hs),Int.natAbs_of_nonneg (HZ hq)]
  rw[<- h,Int.mul_fdiv_cancel_left _ (Ho hg)]
 rw[e]
 exact ⟨I4.mpr (Int.lcm_pos (Ho hs) (Ho hq)),Int.dvd_lcm_left ..,Int.dvd_lcm_right ..,Int.coe_lcm_dvd h1 h2⟩
noncomputable def Sc(L:Int)(E:Nat->Int)(Δ:Int)(vs:List V)(j:Nat)(s:Int):Prop:=(0<s/\s ∣ Δ)/\∀i,i<j->∃p q:Int,vs[i]?=some (pt p q)/\(0<q/\q ∣ s)/\p*(fk i*L^i)=E i*q
theorem wn{p q D n:Int}(hq:0<q)(hg:p.gcd q=1)(hD:0<D)(e:p*D=n*q):q ∣ D:=by
 obtain ⟨g,_,h,_⟩:=xg hg hq hD e
 exact ⟨g,h⟩
theorem DO{L:Int}{N:Nat}:∀ {i:Nat},i<=N->fk i*L^i ∣ fk N*L^N:=by
 induction N with
 |zero=>intro i h;rw[Kr.mp h];exact Int.dvd_refl _
 |succ N ih =>
  intro i h
  rcases JL h with g|g
  ·refine Int.dvd_trans (ih (I1 g)) ⟨((N:Int)+1)*L,?_⟩
   rw[fkC,Ig];grind
  ·rw[g];exact Int.dvd_refl _
theorem ju{k:Nat}{s Δ:Int}(h0:0<Δ)(h:s ∣ Δ)(hs:Sm k Δ):Sm k s:=hs.of_le (Ko (Je.mpr (Ho h0)) (IN.mpr h))
section
variable {sub:Nat->Nat->Bool}{P:List Fn}{n:Nat}{H:Hp}{Q:V->Hp->Prop}{X:Nat->Hp->Prop}{W:Nat->Prop}{NN:Loc->Hp->Prop}{R:V->Hp->Prop}{Y:Nat->Hp->Prop}
theorem Ec(zT:TT P){o0 o1 o2 o3 o4 o5 o8 o9:Option V}{L Δ s:Int}{E:Nat->Int}{vs:List V}{k j:Nat}{v:V}(l0:0<L)(d0:0<Δ)(sd:Sm k Δ)(hk:k<=20000)(hdv:fk j*L^j ∣ Δ)(hu:vs[j]?=some v)(hF:Fr (fk j*L^j) (E j) v)(hs:Sc L E Δ vs j s)
  (hN:∀s',Sc L E Δ vs (j+1) s'->NN [o0,o1,o2,o3,o4,o5,some (.int s'),some v,o8,o9] H) :
  wpS sub (ag sub P (n+1)) W (v7 0) [o0,o1,o2,o3,o4,o5,some (.int s),some v,o8,o9] H NN R Y:=by
 obtain ⟨p,q,rfl,⟨q0,hg⟩,hF⟩:=hF
 obtain ⟨⟨h0,h1⟩,h2⟩:=hs
 have hq:q ∣ Δ:=Int.dvd_trans (wn q0 hg (HG (fO _) (Iq l0)) hF) hdv
 dsimp only[v7,qS1,qS2,qS3,qE1,qE5,qE8,aS,aV,aC,aD,cD,bT,aa,ah,aE]
 refine ⟨IntMulOk.sm (ju d0 h1 sd) (ju d0 hq sd) (by exact owk (by decide) hk) (by exact owk (by decide) hk),?_⟩
 refine fS zT ?_
 refine ⟨Ho (I4.mpr (Int.gcd_pos_of_ne_zero_left q (Ho h0))),?_⟩
 refine cv (DG h0 q0 h1 hq) fun k1 k2 k3 k4=>?_
 refine hN _ ⟨⟨k1,k4⟩,fun i hi=>?_⟩
 rcases JL (I1 hi) with g|g
 ·refine ay (h2 i g) fun p' q' a1 zq5 a4=>?_;obtain ⟨a2,a3⟩:=zq5
  exact ⟨p',q',a1,⟨a2,Int.dvd_trans a3 k2⟩,a4⟩
 ·subst g;exact ⟨p,q,hu,⟨q0,k3⟩,hF⟩
theorem wY(zT:TT P){o0 o1 o2 o3 o4 o5 o8 o9:Option V}{L:Int}{E:Nat->Int}{vs:List V}{k N:Nat}(l0:0<L)(sd:Sm k (fk N*L^N))(hk:k<=20000)(hv:FrL (fun i=>fk i*L^i) E (N+1) vs)
  (hN:∀s o7,Sc L E (fk N*L^N) vs (N+1) s->NN [o0,o1,o2,o3,o4,o5,some (.int s),o7,o8,o9] H):∀ (rest:List V) (j:Nat) (s:Int) (o7:Option V),rest=vs.drop j->j+rest.length=N+1->Sc L E (fk N*L^N) vs j s ->
  cY (fun ρ2 H2 k=>wpS sub (ag sub P (n+1)) W (v7 0) ρ2 H2 k R Y) 7 rest [o0,o1,o2,o3,o4,o5,some (.int s),o7,o8,o9] H NN
 | [],j,s,o7,_,hj,hs=>hN s o7 (by obtain rfl:j=N+1:=hj;exact hs)
 |v::rest,j,s,o7,hr,hj,hs=>by
  rw[List.length_cons] at hj
  refine ac (hv.2 j (by exact oqz [j,N,rest.length] [] [(.eq (Y0+(Y2+1)) (Y1+1))] (.le (Y0+1) (Y1+1)) [11] rfl hj)) fun u hu hF=>?_
  have hd:vs.drop j=u::vs.drop (j+1):=List.drop_eq_getElem?_toList_append.trans (by rw[hu];rfl)
  rw[hd] at hr
  obtain ⟨hv1,hr2⟩:=Kn hr
  subst hv1
  exact Ec zT l0 (HG (fO _) (Iq l0)) sd hk (DO (by exact oqz [j,N,rest.length] [] [(.eq (Y0+(Y2+1)) (Y1+1))] (.le Y0 Y1) [11] rfl hj)) hu hF hs fun s' h' =>
   wY zT l0 sd hk hv hN rest (j+1) s' _ hr2 (by exact oqz [j,rest.length,N] [] [(.eq (Y0+(Y1+1)) (Y2+1))] (.eq (Y0+1+Y1) (Y2+1)) [101,11] rfl hj) h'
noncomputable def RwU(L:Int)(E:Nat->Int)(s:Int)(i:Nat)(u:Int):Prop:=u*(fk i*L^i)=s*sgI i (E i)
theorem E4(zT:TT P){o0 o1 o3 o4 o7 o9:Option V}{L Δ s:Int}{E:Nat->Int}{vs xs:List V}{m b i k k' N:Nat}(hi:i<N)(N9:N<=101)(l0:0<L)(d0:0<Δ)(sd:Sm k' Δ)(se:Sm k (E i))(hk:k<=20000)(hk':k'<=20000)(hm:H[m]?=some vs)(hb:H[b]?=some xs)(hW:W b)(hx:xs.length<=101)(hs:Sc L E Δ vs N s)
  (hN:∀ (u:Int) o9,RwU L E s i u->Sm (k+k') u->NN [o0,o1,some (.lst m),o3,o4,some (.int i),some (.int s),o7,some (.lst b),o9] (H.set b (xs++[.int u]))) :
  wpS sub (ag sub P (n+2)) W (wT 24) [o0,o1,some (.lst m),o3,o4,some (.int i),some (.int s),o7,some (.lst b),o9] H NN R Y:=by
 obtain ⟨⟨h0,h1⟩,h2⟩:=hs
 refine ay (h2 i hi) fun p q hv zq4 hF=>?_;obtain ⟨q0,c,hc⟩:=zq4
 have D0:0<fk i*L^i:=HG (fO _) (Iq l0)
 have sc:Sm k' c:=ju h0 ⟨q,by rw[hc,Ir]⟩ (ju d0 h1 sd)
 have hd:s.fdiv q=c:=by rw[hc,Int.mul_fdiv_cancel_left _ (Ho q0)]
 have sp:Sm (k+k') (p*c):=by
  have e2:(p*c)*(fk i*L^i)=E i*s:=by rw[Jc,hF,hc,II]
  refine (se.mul (ju d0 h1 sd)).of_le ?_
  rw[<- e2,HV (p*c)]
  exact Ie _ (Je.mpr (Ho D0))
 have sp':Sm (k+k') p\/c=0:=by
  by_cases h:c=0
  ·exact .inr h
  ·exact .inl (sp.of_le (by rw[HV];exact Ie _ (Je.mpr h)))
 have c0:c≠0:=fun h=>by rw[h,HS] at hc;exact Ho h0 hc
 have spp:=sp'.resolve_right c0
 dsimp only[wT,qS1,qS2,qS3,qS6,qE1,qE5,qE8,aS,aV,aC,aD,bZ,aa,cu,ah,aE]
 refine jT hm (k:=(i:Int)) (Ix i) hv ?_
 refine Cx zT (j:=i) rfl ?_
 dsimp only[cD,nW,bu,bT]
 rw[hd]
 refine ⟨hW,Ho q0,IntMulOk.sm (Sm.sgI spp) sc (by exact oqz [k,k'] [] [(.le Y0 20000),(.le Y1 20000)] (.le (Y0+Y1) 67108864) [111] rfl hk hk') (by exact owk (by decide) hk'),?_⟩
 refine ifSome.mk hb ⟨by unfold lim;exact oqz [xs.length] [] [(.le Y0 101)] (.le (Y0+1) 1000000) [11] rfl hx,hN _ _ ?_ (by rw[iX];exact sp.sgI)⟩
 unfold RwU
 rw[Ae,Jc,CA hF,II,iX,<- hc,Ir]
noncomputable def RwL(L:Int)(E:Nat->Int)(s:Int)(k N j:Nat)(xs:List Int):Prop:=xs.length+j=N+1/\AllSm k xs/\∀i,i<=N->j<=i->∃u,xs[N-i]?=some u/\RwU L E s i u
theorem xG(zT:TT P){o0 o1 o3 o4 o7:Option V}{L s:Int}{E:Nat->Int}{vs:List V}{K:Hp}{m k k' N:Nat}(N9:N<=100)(l0:0<L)(sd:Sm k' (fk N*L^N))(se:∀i,i<=N->Sm k (E i))(hk:k<=20000)(hk':k'<=20000)(hm:K[m]?=some vs)(hW:W K.length)(hs:Sc L E (fk N*L^N) vs (N+1) s)
  (hN:∀ (xs:List Int) o5 o9,RwL L E s (k+k') N 0 xs->NN [o0,o1,some (.lst m),o3,o4,o5,some (.int s),o7,some (.lst K.length),o9] (K++[xs.map .int])):∀ (j:Nat) (xs:List Int) (o5 o9:Option V),RwL L E s (k+k') N j xs ->
  cY (fun ρ2 H2 k=>wpS sub (ag sub P (n+2)) W (wT 24) ρ2 H2 k R Y) 5 ((List.range j).reverse.map fun (i:Nat)=>V.int (i:Int)) [o0,o1,some (.lst m),o3,o4,o5,some (.int s),o7,some (.lst K.length),o9] (K++[xs.map .int]) NN
 |0,xs,o5,o9,h=>hN xs o5 o9 h
 |j+1,xs,o5,o9,⟨h1,h2,h3⟩=>by
  rw[List.range_succ,JX,List.reverse_singleton,Kg,Hw]
  refine E4 zT (i:=j) (N:=N+1) (by exact oqz [j,N,xs.length] [] [(.eq (Y2+(Y0+1)) (Y1+1))] (.le (Y0+1) (Y1+1)) [11] rfl h1) (by exact oqz [N] [] [(.le Y0 100)] (.le (Y0+1) 101) [11] rfl N9) l0 (HG (fO _) (Iq l0)) sd (se j (by exact oqz [j,N,xs.length] [] [(.eq (Y2+(Y0+1)) (Y1+1))] (.le Y0 Y1) [11] rfl h1)) hk hk' (ao (af _ _) hm) (ai _ _ _) hW (by rw[Hi];exact oqz [xs.length,N,j] [] [(.le Y1 100),(.eq (Y0+(Y2+1)) (Y1+1))] (.le Y0 101) [111] rfl N9 h1) hs fun u o9' hu su=>?_
  rw[cT,show xs.map V.int++[V.int u]=(xs++[u]).map V.int by rw[HF];rfl]
  refine xG zT N9 l0 sd se hk hk' hm hW hs hN j (xs++[u]) _ _ ⟨by rw[Hl,HE];exact oqz [xs.length,j,N] [] [(.eq (Y0+(Y1+1)) (Y2+1))] (.eq (Y0+1+Y1) (Y2+1)) [101,11] rfl h1,fun x hx=>?_,fun i hi hj=>?_⟩
  ·rcases Ik.mp hx with g|g
   ·exact h2 x g
   ·rw[Iw.mp g];exact su
  ·rcases JL hj with g|g
   ·refine ac (h3 i hi g) fun v hv hu'=>?_
    exact ⟨v,ao (af _ _) hv,hu'⟩
   ·subst g
    refine ⟨u,?_,hu⟩
    rw[show N-j=xs.length by exact oqz [N-j,N,j,xs.length] [] [(.eq (Y3+(Y2+1)) (Y1+1)),(osb Y1 Y2 Y0)] (.eq Y0 Y3) [10011,1011,100101,10001] rfl h1 (am (N) (j))];exact ai _ _ _
theorem wc(zT:TT P){L:Int}{S E:Nat->Int}{k ke kd N a:Nat}{us:List V}(z:SzE L S E k N)(sE:∀i,i<=N->Sm ke (E i))(sD:Sm kd (fk N*L^N))(he:ke<=20000)(hd:kd<=20000)(hE:NwE S E)(ha:H[a]?=some us)(hu:FrL (fun i=>L^i) S (N+1) us)
  (hQ:∀ (s:Int) (xs:List Int) H',H<+:H'->0<s->RwL L E s (ke+kd) N 0 xs->ag sub P (n+5) 14 [.lst H'.length] (H'++[xs.map .int]) Q fun _ _=>False):ag sub P (n+6) 25 [.lst a] H Q X:=by
 have N9:=z.N9
 refine aj zT.a25 rfl ?_
 dsimp only[bRo]
 generalize hT:C1 0 24 14=T
 generalize hB:yp 3 4 24=B
 dsimp only[qS2,qS3,dZ,qE1,qE5,qE7,qE8,bV,g7,aC,aD,qI3,b9,cQ,cS,aB,az,aw,av,aM,aA,au,aa,ah,aE,Nat.reduceSub]
 refine ifSome.mk ha ?_
 rw[hu.1,show ((N+1:Nat):Int)-1=(N:Int) by exact oqz [N] [] [] (.ie (.s (.c (Y0+1)) 1) (.c Y0)) [1] rfl]
 have v0:FrL (fun i=>fk i*L^i) E (1+0) [pt 1 1]:=⟨rfl,fun i hi=>by
  obtain rfl:i=0:=oqz [i] [] [(.le (Y0+1) 1)] (.eq Y0 0) [11] rfl hi
  refine ⟨_,rfl,1,1,rfl,⟨by decide,by decide⟩,?_⟩
  rw[hE.e0];show 1*(1*L^0)=1*1;rw[ID];rfl⟩
 refine yk (aH (by decide) (by decide)) (aH (by exact oqz [N] [] [] (.il (.g 1000000) (.a (.c Y0) 1)) [1] rfl) (by exact oqz [N] [] [(.le Y0 100)] (.il (.a (.c Y0) 1) 1000000) [11] rfl N9)) ?_
 rw[show ((N:Int)+1-1).toNat=N by exact oqz [((↑N:Int)+1-1).toNat,N] [] [(otn (.s (.a (.c Y1) 1) 1) Y0)] (.eq Y0 Y1) [1001,11,101] rfl (aR ((↑N:Int)+1-1))]
 subst hB
 refine xa zT (n:=n+2) (K:=H) (W:=fun m=>H.length<=m/\some m≠none) z hE ha ⟨Ht _,nofun⟩ hu (fun vs o3 o4 o5 hv=>?_) N 0 _ _ _ _ (IM 1 N) v0
 subst hT
 dsimp only[C1]
 generalize hT:CK 24 14=T
 generalize hB:v7 0=B
 dsimp only[qS2,qS3,dZ,qE1,qE5,qI1,d6,nT,aa,ah,aE]
 refine ifSome.mk (ai _ _ _) ?_
 subst hB
 refine wY zT (n:=n+4) z.l0 (z.sd N (Ht _)) z.k9 hv (fun s o7 hs=>?_) vs 0 1 _ rfl (by rw[hv.1,IF]) ⟨⟨by decide,Int.one_dvd _⟩,fun i hi=>nomatch hi⟩
 subst hT
 dsimp only[CK]
 generalize hB:wT 24=B
 dsimp only[qS1,qS2,qS3,qS9,dZ,qE1,qE5,qE9,aS,g7,aC,aD,qI3,aa,ah,aE]
 subst hB
 rw[show (N:Int)=((N+1:Nat):Int)-1 by exact oqz [N] [] [] (.ie (.c Y0) (.s (.c (Y0+1)) 1)) [1] rfl]
 refine CT (by exact oqz [N] [] [(.le Y0 100)] (.le (Y0+1) 900) [11] rfl N9) ?_
 refine xG zT (n:=n+3) (K:=H++[vs]) (W:=fun m=>H.length<=m/\some m≠none) N9 z.l0 sD sE he hd (ai _ _ _) ⟨(af _ _).length_le,nofun⟩ hs (fun xs o5 o9 hx=>?_) (N+1) [] _ _ ⟨IF _,.nil,fun i h1 h2=>absurd h1 (by exact oqz [i,N] [] [(.le (Y1+1) Y0)] (.no (.le Y0 Y1)) [11] rfl h2)⟩
 dsimp only[aa,ah]
 exact hQ s xs _ (af _ _) hs.1.1 hx
end
end Mine
namespace Mine
open PySem
noncomputable def tS(l1 l2:Int)(P1 P2:Nat->Int)(w:Nat):Nat->Int
 |0=>0
 |j+1=>tS l1 l2 P1 P2 w j+bnm w j*(P1 j*P2 (w-j))*(l1^(w-j)*l2^j)
theorem tSC(l1 l2:Int)(P1 P2:Nat->Int)(w j:Nat):tS l1 l2 P1 P2 w (j+1)=tS l1 l2 P1 P2 w j+bnm w j*(P1 j*P2 (w-j))*(l1^(w-j)*l2^j):=rfl
structure SzS (l1 l2:Int)(P1 P2:Nat->Int)(k N:Nat):Prop where
 a0:0<l1
 b0:0<l2
 N9:N<=100
 k9:k<=20000
 k8:8<=k
 s1:∀w,w<=N->Sm k (l1^w)/\Sm k (P1 w)
 s2:∀w,w<=N->Sm k (l2^w)/\Sm k (P2 w)
 sb:∀w j,w<=N->j<=w->Sm k (bnm w j)/\Sm k (P1 j*P2 (w-j))/\Sm k (l1^j*l2^(w-j))
 sl:∀w,w<=N->Sm k ((l1*l2)^w)
 st:∀w j,w<=N->j<=w->Sm k (tS l1 l2 P1 P2 w j)
 su:∀w j,w<=N->j<=w->Sm k (bnm w j*(P1 j*P2 (w-j))*(l1^(w-j)*l2^j))
noncomputable def ox(m:Nat):List Int:=(List.range' 0 (m+1)).map (bnm m)
theorem qo:∀m,bnm m m=1
 |0=>rfl
 |m+1=>by rw[lK,qo m,eV (IA m)];rfl
theorem wg(m:Nat):[1]++(List.range' 0 m).map (fun i=>bnm m i+bnm m (i+1))++[1]=ox (m+1):=by
 have h:(List.range' 0 (m+1)).map (fun i=>bnm m i+bnm m (i+1))=(List.range' 0 m).map (fun i=>bnm m i+bnm m (i+1))++[1]:=by
  rw[List.range'_concat,HF,IF,Nat.one_mul,List.map_singleton,qo,eV (IA m)];rfl
 unfold ox
 rw[List.range'_succ,Hw,jP,Hv,<- h]
 show _=1::(List.range' (0+1) (m+1)).map (bnm (m+1))
 rw[List.range'_eq_map_range,List.range'_eq_map_range,Ia,Ia]
 show 1::_=1::_
 congr 1
 refine Jj fun i _=>?_
 show bnm m (0+i)+bnm m (0+i+1)=bnm (m+1) (0+1+i)
 rw[IF,IF,IM 1 i,lK]
theorem lN{m k:Nat}(h:k<=m):((ox m).map V.int)[k]?=some (.int (bnm m k)):=by
 unfold ox;rw[Ia,HL,List.getElem?_range' (by exact oqz [k,m] [] [(.le Y0 Y1)] (.le (Y0+1) (Y1+1)) [11] rfl h)];simp
theorem nq{j r N:Nat}(h:j+(r+1)=N+1):j<=N:=oqz [j,N,r] [] [(.eq (Y0+(Y2+1)) (Y1+1))] (.le Y0 Y1) [11] rfl h
theorem Es{H H':Hp}{s:Nat}{xs:List V}(h:H<+:H')(hs:H.length<=s):H<+:H'.set s xs:=by
 obtain ⟨K,rfl⟩:=h
 rw[List.set_append_right _ _ hs];exact af _ _
section
variable {sub:Nat->Nat->Bool}{P:List Fn}{n:Nat}{H:Hp}{Q:V->Hp->Prop}{W:Nat->Prop}{NN:Loc->Hp->Prop}{R:V->Hp->Prop}{Y:Nat->Hp->Prop}{l1 l2:Int}{P1 P2:Nat->Int}{k N:Nat}
structure AdH (l1 l2:Int)(P1 P2:Nat->Int)(N:Nat)(H:Hp)(i j c m:Nat):Prop where
 l:∃ls,H[i]?=some ls/\FrL (fun i=>l1^i) P1 (N+1) ls
 r:∃rs,H[j]?=some rs/\FrL (fun i=>l2^i) P2 (N+1) rs
 c:H[c]?=some ((ox m).map V.int)
theorem CI(zT:TT P){o0 o1 o2 o5 o10:Option V}{i j c m d:Nat}{t:V}(z:SzS l1 l2 P1 P2 k N)(hm:m<=N)(hd:d<=m)(h:AdH l1 l2 P1 P2 N H i j c m)(ht:Fr ((l1*l2)^m) (tS l1 l2 P1 P2 m d) t)
  (hN:∀t o10,Fr ((l1*l2)^m) (tS l1 l2 P1 P2 m (d+1)) t->NN [o0,o1,o2,some (.lst i),some (.lst j),o5,some (.lst c),some (.int m),some t,some (.int d),o10] H) :
  wpS sub (ag sub P (n+3)) W (oS 3 4) [o0,o1,o2,some (.lst i),some (.lst j),o5,some (.lst c),some (.int m),some t,some (.int d),o10] H NN R Y:=by
 refine ac (h.l) fun ls hl pl=>?_
 refine ac (h.r) fun rs hr pr'=>?_
 refine ac (pl.2 d (by exact oqz [d,N,m] [] [(.le Y2 Y1),(.le Y0 Y2)] (.le (Y0+1) (Y1+1)) [111] rfl hm hd)) fun u hu1 hu2=>?_
 refine ac (pr'.2 (m-d) (by exact oqz [m-d,m,d,N] [] [(.le Y1 Y3),(.an (.le Y1 (Y0+Y2)) (.le Y0 Y1))] (.le (Y0+1) (Y3+1)) [1011] rfl hm (aX (m) (d)))) fun v hv1 hv2=>?_
 have k9:k+k+1<=100000:=by have:=z.k9;exact oqz [k] [] [(.le Y0 20000)] (.le (Y0+Y0+1) 100000) [21] rfl this
 have s1:Sm k 1:=Sm.mono (k:=1) (by unfold Sm;decide) (Hj (by decide) z.k8)
 refine gf (z.sb m d hm hd) fun b1 b2 b3=>?_
 have p1:0<l1^d:=Iq z.a0
 have p2:0<l2^(m-d):=Iq z.b0
 rw[tSC] at hN
 dsimp only[oS,qS1,qS2,qS3,qE1,qE5,qE8,aS,aV,dW,aC,aD,cQ,bZ,aa,ah,aE]
 refine jT hl (k:=(d:Int)) (Ix d) hu1 ?_
 refine jT hr (k:=(m:Int)-(d:Int)) (by exact oqz [m,d] [] [(.le Y1 Y0)] (.il 0 (.s (.c Y0) (.c Y1))) [11] rfl hd) (by rw[show ((m:Int)-(d:Int)).toNat=m-d by exact oqz [((↑m:Int)-(↑d:Int)).toNat,m,d,m-d] [] [(otn (.s (.c Y1) (.c Y2)) Y0),(osb Y1 Y2 Y3)] (.eq Y0 Y3) [1001001,100001,1000011,100101,10101,101] rfl (aR ((↑m:Int)-(↑d:Int))) (am (m) (d))];exact hv1) ?_
 refine lM zT hu2 hv2 p1 p2 (z.s1 d (by exact oqz [d,N,m] [] [(.le Y2 Y1),(.le Y0 Y2)] (.le Y0 Y1) [111] rfl hm hd)).1 (z.s2 _ (by exact oqz [m-d,m,d,N] [] [(.le Y1 Y3),(.an (.le Y1 (Y0+Y2)) (.le Y0 Y1))] (.le Y0 Y3) [1011] rfl hm (aX (m) (d)))).1 (z.s1 d (by exact oqz [d,N,m] [] [(.le Y2 Y1),(.le Y0 Y2)] (.le Y0 Y1) [111] rfl hm hd)).2 (z.s2 _ (by exact oqz [m-d,m,d,N] [] [(.le Y1 Y3),(.an (.le Y1 (Y0+Y2)) (.le Y0 Y1))] (.le Y0 Y3) [1011] rfl hm (aX (m) (d)))).2 k9 fun t1 h1=>?_
 refine jT h.c (k:=(d:Int)) (Ix d) (lN hd) ?_
 refine lM zT (Fr.whole (bnm m d)) h1 (by decide) (HG p1 p2) s1 b3 b1 b2 k9 fun t2 h2=>?_
 have h3:=h2.scale (l1^(m-d)*l2^d)
 have eD:1*(l1^d*l2^(m-d))*(l1^(m-d)*l2^d)=(l1*l2)^m:=by
  have e1:l1^m=l1^d*l1^(m-d):=by rw[<- Kq,Nat.add_sub_cancel' hd]
  have e2:l2^m=l2^(m-d)*l2^d:=by rw[<- Kq,Nat.sub_add_cancel hd]
  rw[Int.mul_pow,e1,e2];grind
 rw[eD] at h3
 exact ux zT ht h3 (Iq (HG z.a0 z.b0)) (z.sl m hm) (z.st m d hm hd) (z.su m d hm hd) k9 fun u hu=>hN u _ hu
theorem Ch(zT:TT P){o0 o1 o2 o5:Option V}{i j c m:Nat}(z:SzS l1 l2 P1 P2 k N)(hm:m<=N)(h:AdH l1 l2 P1 P2 N H i j c m)
  (hN:∀t o9 o10,Fr ((l1*l2)^m) (tS l1 l2 P1 P2 m (m+1)) t->NN [o0,o1,o2,some (.lst i),some (.lst j),o5,some (.lst c),some (.int m),some t,o9,o10] H):∀ (r d:Nat) (t:V) (o9 o10:Option V),d+r=m+1->Fr ((l1*l2)^m) (tS l1 l2 P1 P2 m d) t ->
  cY (fun ρ2 H2 k=>wpS sub (ag sub P (n+3)) W (oS 3 4) ρ2 H2 k R Y) 9 ((List.range' d r).map fun (i:Nat)=>V.int (i:Int)) [o0,o1,o2,some (.lst i),some (.lst j),o5,some (.lst c),some (.int m),some t,o9,o10] H NN
 |0,d,t,o9,o10,hd,ht=>hN t o9 o10 (by obtain rfl:d=m+1:=hd;exact ht)
 |r+1,d,t,o9,o10,hd,ht=>CI zT z hm (nq hd) h ht fun t' o10' h' =>
   Ch zT z hm h hN r (d+1) t' _ _ (by rw[<- hd,J5,IJ]) h'
theorem Bc(zT:TT P){o0 o1 o2 o8 o9 o10:Option V}{ss:List V}{i j c s m:Nat}(z:SzS l1 l2 P1 P2 k N)(hm:m<=N)(h:AdH l1 l2 P1 P2 N H i j c m)(hs:H[s]?=some ss)(hsi:s≠i)(hsj:s≠j)(hsc:s≠c)(hW:W s)(ps':FrL (fun i=>(l1*l2)^i) (fun i=>tS l1 l2 P1 P2 i (i+1)) m ss)
  (hN:∀ss' c' H' o8 o9 o10,FrL (fun i=>(l1*l2)^i) (fun i=>tS l1 l2 P1 P2 i (i+1)) (m+1) ss'->H.set s ss'<+:H'->H'[s]?=some ss'->s≠c'->AdH l1 l2 P1 P2 N H' i j c' (m+1)->NN [o0,o1,o2,some (.lst i),some (.lst j),some (.lst s),some (.lst c'),some (.int m),o8,o9,o10] H') :
  wpS sub (ag sub P (n+3)) W (pQ 3 4) [o0,o1,o2,some (.lst i),some (.lst j),some (.lst s),some (.lst c),some (.int m),o8,o9,o10] H NN R Y:=by
 have N9:=z.N9
 have nought:Fr ((l1*l2)^m) (tS l1 l2 P1 P2 m 0) (pt 0 1):=((Fr.whole 0).scale ((l1*l2)^m)).eq (Ip _) (IL _)
 dsimp only[pQ]
 generalize hT:yE=T
 generalize hB:oS 3 4=B
 dsimp only[qS2,qS3,dZ,qE1,qE5,qE7,qE8,aC,aD,qI3,b9,aa,ah,aE]
 subst hB
 refine ji (aH (by exact oqz [m] [] [] (.il (.g 1000000) (.a (.c Y0) 1)) [1] rfl) (by exact oqz [m,N] [] [(.le Y0 Y1),(.le Y1 100)] (.il (.a (.c Y0) 1) 1000000) [111] rfl hm N9)) ?_
 rw[show ((m:Int)+1).toNat=m+1 by exact oqz [((↑m:Int)+1).toNat,m] [] [(otn (.a (.c Y1) 1) Y0)] (.eq Y0 (Y1+1)) [1001,10,101] rfl (aR ((↑m:Int)+1))]
 refine Ch zT z hm h (fun t o9 o10 ht=>?_) (m+1) 0 _ _ _ (IF _) nought
 have sl:=(Hs.mp hs).1
 have ps2:=ps'.snoc ht
 refine ac (h.l) fun ls hl pl=>?_
 refine ac (h.r) fun rs hr pr'=>?_
 subst hT
 dsimp only[yE,qS1,qS2,qS3,qS6,qE1,qE5,qE8,g7,ij,aC,aD,qO1,qI3,DK,cq,aw,av,bw,aa,cu,ah,aE]
 refine ⟨hW,ifSome.mk hs ⟨by rw[ps'.1];unfold lim;clear hN;exact oqz [m,N] [] [(.le Y0 Y1),(.le Y1 100)] (.le (Y0+1) 1000000) [111] rfl hm N9,?_⟩⟩
 have g1:(H.set s (ss++[t]))[s]?=some (ss++[t]):=List.getElem?_set_self sl
 have g2:(H.set s (ss++[t]))[i]?=some ls:=by rw[JS hsi];exact hl
 have g3:(H.set s (ss++[t]))[j]?=some rs:=by rw[JS hsj];exact hr
 have g4:(H.set s (ss++[t]))[c]?=some ((ox m).map V.int):=by rw[JS hsc];exact h.c
 have sl':=(Hs.mp g1).1
 have hN':=hN (ss++[t])
 generalize hH1:H.set s (ss++[t])=H1 at *
 clear hN h hs hl hr
 refine ji (aH (by exact oqz [m] [] [] (.il (.g 1000000) (.c Y0)) [1] rfl) (by exact oqz [m,N] [] [(.le Y0 Y1),(.le Y1 100)] (.il (.c Y0) 1000000) [111] rfl hm N9)) ?_
 rw[show ((m:Nat):Int).toNat=m from rfl]
 refine ⟨by rw[Hi,IS];unfold lim;exact oqz [m,N] [] [(.le Y0 Y1),(.le Y1 100)] (.le Y0 1000000) [111] rfl hm N9,?_⟩
 refine eP (g:=fun i=>V.int (bnm m i+bnm m (i+1))) (fun k hk Z hZ=>?_) ?_
 ·dsimp only[Gk,qE1,qE5,qE8,aV,b9,aa,ah]
  refine jT (ao (af _ _) g4) (k:=(k:Int)) (by exact oqz [k] [] [] (.il 0 (.c Y0)) [1] rfl) (lN (by exact oqz [(↑k:Int).toNat,k,m] [] [(.le (Y1+1) (0+Y2)),(otn (.c Y1) Y0)] (.le Y0 Y2) [1011] rfl hk (aR ((↑k:Int))))) ?_
  refine jT (ao (af _ _) g4) (k:=(k:Int)+1) (by exact oqz [k] [] [] (.il 0 (.a (.c Y0) 1)) [1] rfl) (by rw[show ((k:Int)+1).toNat=k+1 by exact oqz [((↑k:Int)+1).toNat,k] [] [(otn (.a (.c Y1) 1) Y0)] (.eq Y0 (Y1+1)) [1001,10,101] rfl (aR ((↑k:Int)+1))];exact lN (by exact oqz [k,m] [] [(.le (Y0+1) (0+Y1))] (.le (Y0+1) Y1) [11] rfl hk)) ?_
  exact hZ
 ·refine ifSome.mk (v:=[V.int 1]) (ao (af _ _) (ai _ _ _)) (ifSome.mk (ai _ _ _) ⟨by rw[Hi,IS];unfold lim;show 1+m<=_;exact oqz [m,N] [] [(.le Y0 Y1),(.le Y1 100)] (.le (1+Y0) 1000000) [111] rfl hm N9,?_⟩)
  refine ifSome.mk (ao (af _ _) (ai _ _ _)) (ifSome.mk (ai _ _ _) ⟨by rw[Hl,Hi,IS];unfold lim;show 1+m+1<=_;exact oqz [m,N] [] [(.le Y0 Y1),(.le Y1 100)] (.le (1+Y0+1) 1000000) [111] rfl hm N9,?_⟩)
  have pn:[V.int 1]++(List.range' 0 m).map (fun i=>V.int (bnm m i+bnm m (i+1)))++[V.int 1]=(ox (m+1)).map V.int:=by
   rw[<- wg m,HF,HF,Ia];rfl
  rw[pn]
  generalize hK:H1++[[V.int 1]]++[(List.range' 0 m).map fun i=>V.int (bnm m i+bnm m (i+1))]++[[V.int 1]++(List.range' 0 m).map fun i=>V.int (bnm m i+bnm m (i+1))]++[[V.int 1]]=H2
  have hpre:H1<+:H2:=by rw[<- hK];exact ad (af _ _) (ad (af _ _) (ad (af _ _) (af _ _)))
  have hle:=List.IsPrefix.length_le hpre
  have hp3:H1<+:H2++[(ox (m+1)).map V.int]:=ad hpre (af _ _)
  exact hN' _ _ _ _ _ ps2 hp3 (ao hp3 g1) (by exact oqz [s,H2.length,H1.length] [] [(.le (Y0+1) Y2),(.le Y2 Y1)] (.no (.eq Y0 Y1)) [1110] rfl sl' hle) ⟨⟨ls,ao hp3 g2,pl⟩,⟨rs,ao hp3 g3,pr'⟩,ai _ _ _⟩
theorem tm(zT:TT P){H0:Hp}{o0 o1 o2:Option V}{i j s:Nat}(z:SzS l1 l2 P1 P2 k N)(hsi:s≠i)(hsj:s≠j)(hW:W s)(h0:H0.length<=s)
  (hN:∀ss H' o6 o7 o8 o9 o10,FrL (fun i=>(l1*l2)^i) (fun i=>tS l1 l2 P1 P2 i (i+1)) (N+1) ss->H0<+:H'->H'[s]?=some ss->NN [o0,o1,o2,some (.lst i),some (.lst j),some (.lst s),o6,o7,o8,o9,o10] H'):∀ (r m:Nat) (ss:List V) (c:Nat) (H:Hp) (o7 o8 o9 o10:Option V),m+r=N+1->H0<+:H->H[s]?=some ss->s≠c->FrL (fun i=>(l1*l2)^i) (fun i=>tS l1 l2 P1 P2 i (i+1)) m ss->AdH l1 l2 P1 P2 N H i j c m ->
  cY (fun ρ2 H2 k=>wpS sub (ag sub P (n+3)) W (pQ 3 4) ρ2 H2 k R Y) 7 ((List.range' m r).map fun (i:Nat)=>V.int (i:Int)) [o0,o1,o2,some (.lst i),some (.lst j),some (.lst s),some (.lst c),o7,o8,o9,o10] H NN
 |0,m,ss,c,H,o7,o8,o9,o10,hm,hp,hs,_,ps',_=>hN ss H _ o7 o8 o9 o10 (by obtain rfl:m=N+1:=hm;exact ps') hp hs
 |r+1,m,ss,c,H,o7,o8,o9,o10,hm,hp,hs,hsc,ps',h =>
  Bc zT z (nq hm) h hs hsi hsj hsc hW ps' fun ss' c' H' o8 o9 o10 k1 k2 k3 k4 k5 =>
   tm zT z hsi hsj hW h0 hN r (m+1) ss' c' H' _ _ _ _ (by rw[<- hm,J5,IJ]) (ad (Es hp h0) k2) k3 k4 k1 k5
theorem CU(zT:TT P){ls rs':List V}{l m j:Nat}(z:SzS l1 l2 P1 P2 k N)(hls:H[l]?=some ls)(hrs:H[m]?=some rs')(hl:FrL (fun i=>l1^i) P1 (N+1) ls)(hr:FrL (fun i=>l2^i) P2 (N+1) rs')(hj:j<=N)
  (hQ:∀u,Fr ((l1*l2)^j) (P1 j*P2 j) u->Q u H):wpE sub (ag sub P (n+3)) (xF 4) [some (.int j),some (V.lst l),some (V.lst m)] H Q:=by
 refine ac (hl.2 j (Nat.lt_succ_of_le hj)) fun u hu1 hu2=>?_
 refine ac (hr.2 j (Nat.lt_succ_of_le hj)) fun v hv1 hv2=>?_
 have k9:k+k+1<=100000:=by have:=z.k9;exact oqz [k] [] [(.le Y0 20000)] (.le (Y0+Y0+1) 100000) [21] rfl this
 dsimp only[xF,qE5,aS,aV,aC,aD,bZ,aa,ah]
 refine jT hls (k:=(j:Int)) (Ix j) hu1 ?_
 refine jT hrs (k:=(j:Int)) (Ix j) hv1 ?_
 exact lM zT hu2 hv2 (Iq z.a0) (Iq z.b0) (z.s1 j hj).1 (z.s2 j hj).1 (z.s1 j hj).2 (z.s2 j hj).2 k9 fun u hu=>hQ u (hu.eq (Int.mul_pow ..).symm rfl)
theorem Cb(zT:TT P){ls rs':List V}{l m:Nat}(z:SzS l1 l2 P1 P2 k N)(hls:H[l]?=some ls)(hrs:H[m]?=some rs')(hl:FrL (fun i=>l1^i) P1 (N+1) ls)(hr:FrL (fun i=>l2^i) P2 (N+1) rs') :
  ∀ (r j:Nat) (acc:List V) (Q:List V->Hp->Prop),j+r=N+1->FrL (fun i=>(l1*l2)^i) (fun i=>P1 i*P2 i) j acc->(∀ys,FrL (fun i=>(l1*l2)^i) (fun i=>P1 i*P2 i) (N+1) (acc++ys)->Q ys H) ->
   dm (fun x H2 k=>wpE sub (ag sub P (n+3)) (xF 4) [some x,some (V.lst l),some (V.lst m)] H2 fun y H4=>k (some y) H4) (List.map (fun i:Nat=>V.int (i:Int)) (List.range' j r)) H Q
 |0,j,acc,Q,hj,ha,hq=>hq [] (by obtain rfl:j=N+1:=hj;rw[List.append_nil];exact ha)
 |r+1,j,acc,Q,hj,ha,hq=>CU zT z hls hrs hl hr (nq hj) fun u hu =>
   Cb zT z hls hrs hl hr r (j+1) (acc++[u]) _ (by rw[<- hj,J5,IJ]) (ha.snoc hu) fun ys hys=>hq _ (by rw[Hv] at hys;exact hys)
end
end Mine
namespace Mine
open PySem Re
noncomputable def SgP(row:List Int)(lo hi al:Re)(σ:Int):Prop:=∀ (x:Re) (p q:Int),0<q->(q:Re)*x=p->lo<=x->x<=hi->rsg (evR row x)=σ*rsg (x-al)
structure PG (row:List Int)(N:Int)(al lo hi:Re)(p1 q1 p2 q2:Int)(j:Nat):Prop where
 sg:∃σ,(σ=1\/σ=-1)/\SgP row lo hi al σ
 l:lo<al
 u:al<hi
 rt:evR row al=0
 ne:row≠[]
 ln:row.length<=13
 sm:AllSm 1000 row
 n0:0<N
 n1:Sm 600 N
 a1:Pt (N*8^j) lo p1 q1
 a2:Pt (N*8^j) hi p2 q2
 wd:((2^j:Int):Re)*(hi-lo)<=((2^450:Int):Re)
 b1:-((2^200:Int):Re)<=lo
 b2:hi<=((2^200:Int):Re)
section
variable {row:List Int}{N:Int}{al lo hi:Re}{p1 q1 p2 q2:Int}{j:Nat}
theorem PG.dpos(d:PG row N al lo hi p1 q1 p2 q2 j):0<N*8^j:=HG d.n0 (dU (by decide) j)
theorem PG.big(d:PG row N al lo hi p1 q1 p2 q2 j)(hj:j<=182700):Sm 732000 (8*(N*8^j)*2^200):=by
 have h8:Sm 4 (8:Int):=by unfold Sm;decide
 have hB:Sm 201 ((2:Int)^200):=by unfold Sm;decide
 exact ((h8.mul (d.n1.mul (h8.pow j))).mul hB).mono (by exact oqz [j] [] [(.le Y0 182700)] (.le (.a (.a 4 (.a 600 (.a (.m 4 Y0) 1))) 201) 732000) [41] rfl hj)
theorem PG.lh(d:PG row N al lo hi p1 q1 p2 q2 j):lo<hi:=l8 d.l d.u
theorem PG.low1(d:PG row N al lo hi p1 q1 p2 q2 j)(hj:j<=182700):Low 732000 p1 q1:=
 (d.a1.scale 8).low (B:=2^200) (HG (by decide) d.dpos) (by decide) d.b1 (dp (fq d.lh) d.b2) (d.big hj)
theorem PG.low2(d:PG row N al lo hi p1 q1 p2 q2 j)(hj:j<=182700):Low 732000 p2 q2:=
 (d.a2.scale 8).low (B:=2^200) (HG (by decide) d.dpos) (by decide) (dp d.b1 (fq d.lh)) d.b2 (d.big hj)
theorem tN{z w w' C:Re}(hz:0<=z)(h6:z*w<=C)(h5:2*w'<=w):z*2*w'<=C:=by
 have:=ae hz (show 0<=w-2*w' by grind)
 grind
theorem PG.step(d:PG row N al lo hi p1 q1 p2 q2 j){lo' hi':Re}{x1 y1 x2 y2:Int}(o:jN (N*8^j) al lo hi lo' hi' x1 y1 x2 y2):PG row N al lo' hi' x1 y1 x2 y2 (j+1):=by
 have e:N*8^(j+1)=8*(N*8^j):=by rw[Ig,<- II,Ir]
 obtain ⟨σ,hσ,sg⟩:=d.sg
 refine ⟨⟨σ,hσ,fun x p q hq hx h1 h2=>sg x p q hq hx (dp o.l1 h1) (dp h2 o.u2)⟩,o.l2,o.u1,d.rt,d.ne,d.ln,d.sm,d.n0,d.n1,by rw[e];exact o.a1,by rw[e];exact o.a2,?_,dp d.b1 o.l1,dp o.u2 d.b2⟩
 rw[Ig,aq]
 exact tN (Hu (aP (dU (by decide) j))) d.wd o.wd
theorem zp{m:Re}{m1 m2:Int}(d:PG row N al lo hi p1 q1 p2 q2 j)(hm:0<m2)(em:(m2:Re)*m=m1)(h1:lo<m)(h2:m<hi):(rsg (evR row m)=0 ↔ m=al)/\(rsg (evR row m)=rsg (evR row lo) ↔ m<al):=by
 obtain ⟨σ,hσ,e⟩:=d.sg
 have e1:=e m m1 m2 hm em (fq h1) (fq h2)
 have e2:=e lo p1 q1 d.a1.pos d.a1.val (IH _) (fq d.lh)
 rw[aK (zY d.l)] at e2
 constructor
 ·rw[e1]
  constructor
  ·intro h0
   have:rsg (m-al)=0:=by rcases hσ with rfl|rfl <;> omega
   exact Ha (rsg_is0.mp this)
  ·intro h0
   rw[rsg_is0.mpr (GL h0),HS]
 ·rw[e1,e2]
  constructor
  ·intro h0
   have:rsg (m-al)=-1:=by rcases hσ with rfl|rfl <;> omega
   exact GQ (rsg_is.mp this)
  ·intro h0
   rw[rsg_is.mpr (zY h0)]
end
section
variable {sub:Nat->Nat->Bool}{P:List Fn}{n ha:Nat}{H:Hp}{Q:V->Hp->Prop}{X:Nat->Hp->Prop}{W:Nat->Prop}{NN:Loc->Hp->Prop}{R:V->Hp->Prop}{Y:Nat->Hp->Prop}
theorem rZ{row:List Int}(h:row.length<=13):1000+1+(row.length+1)*(732000+2)<=60000000:=om [row.length] [] [(.le Y0 13)] (.le (.a 1001 (.r (Y0+1) 732002)) 60000000) [[1,732002]] rfl h
theorem okN{x y:Int}{k l:Nat}(h1:Sm k x)(h2:Sm l y)(hk:k<=3000000)(hl:l<=3000000):IntMulOk x y:=IntMulOk.sm h1 h2 (Hj hk (by decide)) (Hj hl (by decide))
theorem t5(zT:TT P){o0 o2 o5 o6 o7:Option V}{wp wq p1 q1 p2 q2:Int}{wr lo hi:Re}{Z:V->Hp->Prop}
  (w:Low 1500000 wp wq) (hw:(wq:Re)*wr=wp) (L1:Low 732000 p1 q1) (L2:Low 732000 p2 q2) (v1:(q1:Re)*lo=p1) (v2:(q2:Re)*hi=p2) (hZ:∀b,(b=true ↔ wr<hi+-lo)->Z (.bool b) H) :
  wpE sub (ag sub P (n+3)) (tJ 2 3 5) [o0,some (pt wp wq),o2,some (pt p1 q1),some (pt p2 q2),o5,o6,o7] H Z:=by
 dsimp only[tJ,qE5,aS,aC,aD,aa,ah]
 refine uY zT ?_
 refine oJ zT L2 L1.neg (by decide) fun d1 d2 Dd hd=>?_
 refine uJ zT (okN w.top Dd.bot (by decide) (by decide)) (okN Dd.top w.bot (by decide) (by decide)) ?_
 exact hZ _ (by rw[decide_eq_true_iff];exact ou w.pos Dd.pos hw (fY L2.pos L1.pos v2 (iY v1) hd))
theorem Al(zT:TT P)
  {v:V}{o0 o5 o6 o7:Option V}{row:List Int}{N p1 q1 p2 q2 wp wq:Int}{al lo hi wr:Re}{j:Nat} (hv:items H v=some (row.map .int)) (d:PG row N al lo hi p1 q1 p2 q2 j) (hj:j<=182700) (w:Low 1500000 wp wq) (hw:(wq:Re)*wr=wp) (hw2:2*wr=hi-lo)
  (hR:∀lo' hi' x1 y1 x2 y2,jN (N*8^j) al lo hi lo' hi' x1 y1 x2 y2->R (.tup [v,pt x1 y1,pt x2 y2]) H)
  (hN:∀lo' hi' x1 y1 x2 y2 o5 o6,jN (N*8^j) al lo hi lo' hi' x1 y1 x2 y2->NN [o0,some (pt wp wq),some v,some (pt x1 y1),some (pt x2 y2),o5,o6,o7] H) :
  wpS sub (ag sub P (n+3)) W (uF 3 4 5 6) [o0,some (pt wp wq),some v,some (pt p1 q1),some (pt p2 q2),o5,o6,o7] H NN R Y:=by
 have L1:=d.low1 hj
 have L2:=d.low2 hj
 have hB3:=rZ d.ln
 have hlh:=d.lh
 have hD8:0<8*(N*8^j):=HG (by decide) d.dpos
 dsimp only[uF]
 generalize hT:rj 6=T
 dsimp only[qS1,qS2,qS3,qS9,bC,qE1,qE5,qE7,br,aS,dW,aC,aD,aa,ah,aE]
 refine oJ zT L1 L2 (by decide) fun s1 s2 S hs=>?_
 refine pj zT (l:=3) S.top S.bot S.pos (by unfold Sm;decide) (by unfold Sm;decide) (by decide) (by decide) fun m1 m2 M hm=>?_
 have em:2*rq m1 m2=lo+hi:=qL (n:=2) S.pos M.pos (fY d.a1.pos d.a2.pos d.a1.val d.a2.val hs) hm
 have vm:=bI (p:=m1) (Ho M.pos)
 generalize rq m1 m2=m at *
 refine cv (Dt em hlh d.b1 d.b2) fun i1 i2 i3 i4=>?_
 obtain ⟨a,ha⟩:=d.a1.un
 obtain ⟨b,hb⟩:=d.a2.un
 have PM:Pt (8*(N*8^j)) m m1 m2:=Pt.of_low M vm ⟨_,ya em ha hb⟩
 have LM:Low 732000 m1 m2:=PM.low hD8 (by decide) i3 i4 (d.big hj)
 obtain ⟨g1,g2⟩:=zp d M.pos vm i1 i2
 clear hs hm S
 refine jt zT hv d.sm LM.top LM.bot hB3 ?_
 dsimp only[fA,aU,aa]
 rw[jb d.ne M.pos vm]
 by_cases hz:rsg (evR row m)=0
 ·rw[decide_eq_true hz]
  dsimp only[bw]
  refine pj zT (l:=3) w.top w.bot w.pos (by unfold Sm;decide) (by unfold Sm;decide) (by decide) (by decide) fun t1 t2 T ht=>?_
  have et4:4*rq t1 t2=wr:=qL (n:=4) w.pos T.pos hw ht
  have vt:=bI (p:=t1) (Ho T.pos)
  generalize rq t1 t2=s at *
  have e8:8*s=hi-lo:=by rw[<- hw2,<- et4];grind
  refine uY zT ?_
  refine oJ zT LM T.neg (by decide) fun z1 w1 Z1 hz1=>?_
  refine oJ zT LM T (by decide) fun z2 w2 Z2 hz2=>?_
  obtain ⟨u1,u2⟩:=CR em e8 ha hb
  refine s7 (CH em e8 hlh (g1.mp hz)) fun k1 k2 k3 k4 k5=>?_
  exact hR _ _ _ _ _ _ ⟨Pt.of_low Z1 (fY M.pos T.pos vm (iY vt) hz1) ⟨_,u1⟩,Pt.of_low Z2 (fY M.pos T.pos vm vt hz2) ⟨_,u2⟩,k1,k2,k3,k4,k5⟩
 ·rw[decide_eq_false hz]
  subst hT
  dsimp only[rj,qS1,qS2,qS3,bC,qE5,br,aS,aC,aD,bK,aa,ah,aE]
  refine jt zT hv d.sm L1.top L1.bot hB3 ?_
  dsimp only[fA,aU,aa]
  rw[jb d.ne d.a1.pos d.a1.val]
  by_cases hs':rsg (evR row m)=rsg (evR row lo)
  ·rw[decide_eq_true hs']
   exact hN m hi _ _ _ _ _ _ ⟨PM,d.a2.scale 8,fq i1,g2.mp hs',d.u,IH _,by clear g1 g2 hz hs' vm ha hb;grind⟩
  ·rw[decide_eq_false hs']
   have hma:al<m:=JI.mp fun h=>by
    rcases Std.le_iff_lt_or_eq.mp h with k|k
    ·exact hs' (g2.mpr k)
    ·exact hz (g1.mpr k)
   exact hN lo m _ _ _ _ _ _ ⟨d.a1.scale 8,PM,IH _,d.l,hma,fq i2,by clear g1 g2 hz hs' vm ha hb;grind⟩
theorem xW{row:List Int}{N p1 q1 p2 q2 x1 y1 x2 y2:Int}{al lo hi lo' hi':Re}{j:Nat}(d:PG row N al lo hi p1 q1 p2 q2 j)(hj:j<=182700)(O:jN (N*8^j) al lo hi lo' hi' x1 y1 x2 y2):Low 732000 x1 y1/\Low 732000 x2 y2:=by
 have hD8:0<8*(N*8^j):=HG (by decide) d.dpos
 have k:=l8 O.l2 O.u1
 exact ⟨O.a1.low hD8 (by decide) (dp d.b1 O.l1) (dp (dp (fq k) O.u2) d.b2) (d.big hj),O.a2.low hD8 (by decide) (dp d.b1 (dp O.l1 (fq k))) (dp O.u2 d.b2) (d.big hj)⟩
theorem Ac(zT:TT P)
  {v:V}{row:List Int}{N p1 q1 p2 q2 wp wq:Int}{al lo hi wr:Re}{j:Nat} (hv:items H v=some (row.map .int)) (d:PG row N al lo hi p1 q1 p2 q2 j) (hj:j<=182700) (w:Low 1500000 wp wq) (hw:(wq:Re)*wr=wp) (hw2:2*wr=hi-lo)
  (hQ:∀lo' hi' x1 y1 x2 y2,jN (N*8^j) al lo hi lo' hi' x1 y1 x2 y2->Q (.tup [v,pt x1 y1,pt x2 y2]) H) :
  ag sub P (n+4) 20 [.tup [v,pt p1 q1,pt p2 q2],pt wp wq] H Q X:=by
 have hw0:0<wp:=by
  refine nx ?_
  rw[<- hw,ax]
  refine mul_pos (aP w.pos) ?_
  have:=d.lh
  grind
 refine aj zT.a20 rfl ?_
 dsimp only[rR]
 generalize hC:tJ 2 3 5=CC
 generalize hB:uF 3 4 5 6=BB
 dsimp only[qS1,qS2,qS4,qS9,bC,lr,vl,qE1,qE5,br,aV,dW,aC,aD,vE,bu,aU,aB,az,aw,av,aM,aA,au,eJ,aa,fG,ah,aE,iC,Nat.reduceSub,Nat.reduceAdd,List.length_nil]
 rw[decide_eq_false (IT.mpr hw0)]
 dsimp only[bK]
 subst hC hB
 refine ⟨rfl,fun ρ H'=>∃n,mv H (.tup [v,pt p1 q1,pt p2 q2]) (pt wp wq) v (N*8^j) al lo hi p1 q1 p2 q2 n ρ H',muI (mv H (.tup [v,pt p1 q1,pt p2 q2]) (pt wp wq) v (N*8^j) al lo hi p1 q1 p2 q2),⟨1,rfl,p1,q1,p2,q2,_,_,_,rfl,.inl ⟨rfl,rfl,rfl,rfl,rfl⟩⟩,?_⟩
 intro ρ H' hex
 have hI:=nQ hex
 have hle:∀ {n ρ H'},mv H (.tup [v,pt p1 q1,pt p2 q2]) (pt wp wq) v (N*8^j) al lo hi p1 q1 p2 q2 n ρ H'->muI (mv H (.tup [v,pt p1 q1,pt p2 q2]) (pt wp wq) v (N*8^j) al lo hi p1 q1 p2 q2) ρ H'<=n:=fun h=>n8 h
 generalize muI (mv H (.tup [v,pt p1 q1,pt p2 q2]) (pt wp wq) v (N*8^j) al lo hi p1 q1 p2 q2)=μ at *
 generalize μ ρ H'=nn at *
 obtain ⟨rfl,x1,y1,x2,y2,o5,o6,o7,rfl,hc⟩:=hI
 rcases hc with ⟨rfl,rfl,rfl,rfl,rfl⟩ | ⟨rfl,lo',hi',O⟩
 ·refine t5 zT w hw (d.low1 hj) (d.low2 hj) d.a1.val d.a2.val fun b hb=>?_
  rw[hb.mpr (EY hw2 d.l d.u)]
  dsimp only[aU,bw,aa,ah]
  refine Al zT hv d hj w hw hw2 hQ fun lo' hi' z1 w1 z2 w2 o5 o6 O=>?_
  have hN:mv H' (.tup [v,pt x1 y1,pt x2 y2]) (pt wp wq) v (N*8^j) al lo hi x1 y1 x2 y2 0 [some (.tup [v,pt x1 y1,pt x2 y2]),some (pt wp wq),some v,some (pt z1 w1),some (pt z2 w2),o5,o6,o7] H':=⟨rfl,_,_,_,_,_,_,_,rfl,.inr ⟨rfl,lo',hi',O⟩⟩
  exact ⟨⟨_,hN⟩,HT (hle hN) (by decide)⟩
 ·obtain ⟨L1,L2⟩:=xW d hj O
  refine t5 zT w hw L1 L2 O.a1.val O.a2.val fun b hb=>?_
  have hbf:b=false:=by
   cases b with
   |false=>rfl
   |true=>exact absurd (hb.mp rfl) (CS hw2 O.wd)
  rw[hbf]
  exact hQ _ _ _ _ _ _ O
theorem mw(zT:TT P)
  {v:V}{row:List Int}{p1 q1 p2 q2 N:Int}{al lo hi:Re}{j:Nat} (hv:items H v=some (row.map .int)) (d:PG row N al lo hi p1 q1 p2 q2 j) (hj:j<=182700)
  (hQ:∀lo' hi' x1 y1 x2 y2,jN (N*8^j) al lo hi lo' hi' x1 y1 x2 y2->Q (.tup [v,pt x1 y1,pt x2 y2]) H) :
  ag sub P (n+5) 21 [.tup [v,pt p1 q1,pt p2 q2]] H Q X:=by
 have L1:=d.low1 hj
 have L2:=d.low2 hj
 refine aj zT.a21 rfl ?_
 dsimp only[xP,qS1,qS2,qS9,qE5,qE7,aS,aC,aD,aB,az,aw,av,aA,au,aa,ah,Nat.reduceSub]
 refine aj zT.a19 rfl ?_
 dsimp only[C6,qS1,qS2,qS9,qE1,qE5,aS,aV,aC,aD,dQ,dP,aB,az,aw,av,aA,au,aa,ah,Nat.reduceSub]
 refine uY zT ?_
 refine oJ zT L2 L1.neg (by decide) fun d1 d2 Dd hd=>?_
 refine pj zT (l:=3) Dd.top Dd.bot Dd.pos (by unfold Sm;decide) (by unfold Sm;decide) (by decide) (by decide) fun w1 w2 W hw=>?_
 have ew2:2*rq w1 w2=hi+-lo:=qL (n:=2) Dd.pos W.pos (fY d.a2.pos d.a1.pos d.a2.val (iY d.a1.val) hd) hw
 have vw:=bI (p:=w1) (Ho W.pos)
 generalize rq w1 w2=wr at *
 exact Ac zT hv d hj (W.mono (by decide)) vw (by rw[ew2];grind) hQ
theorem vo(zT:TT P)
  {v:V}{row:List Int}{p1 q1 p2 q2 N:Int}{al lo hi:Re}{j:Nat} (hv:items H v=some (row.map .int)) (d:PG row N al lo hi p1 q1 p2 q2 j) (hj:j<=182700)
  (hQ:∀lo' hi' x1 y1 x2 y2,PG row N al lo' hi' x1 y1 x2 y2 (j+1)->Q (.tup [v,pt x1 y1,pt x2 y2]) H) :
  ag sub P (n+5) 21 [.tup [v,pt p1 q1,pt p2 q2]] H Q X:=mw zT hv d hj fun lo' hi' x1 y1 x2 y2 O=>hQ _ _ _ _ _ _ (d.step O)
end
end Mine
namespace Mine
open Re
theorem iu{x y:Re}(hx:0<=x)(hy:0<=y):0<=x*y:=Lean.Grind.OrderedRing.mul_nonneg hx hy
theorem mK{lo1 hi1 a lo2 hi2 b L:Re}(h1:lo1<a)(h2:a<hi1)(h3:lo2<b)(h4:b<hi2)(c1:L<=lo1*lo2)(c2:L<=lo1*hi2)(c3:L<=hi1*lo2)(c4:L<=hi1*hi2):L<a*b:=by
 refine HW fun hn=>?_
 have hn:a*b<=L:=by grind
 have p1:0<hi1-a:=by grind
 have p2:0<a-lo1:=by grind
 have q1:0<hi2-b:=by grind
 have q2:0<b-lo2:=by grind
 have w1:=mul_pos p1 q1
 have w2:=mul_pos p1 q2
 have w3:=mul_pos p2 q1
 have w4:=mul_pos p2 q2
 have t1:=iu (x:=(hi1-a)*(hi2-b)) (y:=lo1*lo2-L) (by grind) (by grind)
 have t2:=iu (x:=(hi1-a)*(b-lo2)) (y:=lo1*hi2-L) (by grind) (by grind)
 have t3:=iu (x:=(a-lo1)*(hi2-b)) (y:=hi1*lo2-L) (by grind) (by grind)
 have t4:=iu (x:=(a-lo1)*(b-lo2)) (y:=hi1*hi2-L) (by grind) (by grind)
 have ww:0<(hi1-lo1)*(hi2-lo2):=mul_pos (by grind) (by grind)
 have t0:=iu (x:=(hi1-lo1)*(hi2-lo2)) (y:=L-a*b) (by grind) (by grind)
 have e:(hi1-a)*(hi2-b)*(lo1*lo2-L)+(hi1-a)*(b-lo2)*(lo1*hi2-L)+(a-lo1)*(hi2-b)*(hi1*lo2-L)+(a-lo1)*(b-lo2)*(hi1*hi2-L)=-((hi1-lo1)*(hi2-lo2)*(L-a*b)):=by
  clear t0 t1 t2 t3 t4 w1 w2 w3 w4 ww;grind
 have ne:∀ {x:Re},0<x->x≠0:=fun h e=>by rw[e] at h;grind
 have z1:lo1*lo2-L=0:=bE (x:=(hi1-a)*(hi2-b)) (by grind) (ne w1)
 have z2:lo1*hi2-L=0:=bE (x:=(hi1-a)*(b-lo2)) (by grind) (ne w2)
 have z3:hi1*lo2-L=0:=bE (x:=(a-lo1)*(hi2-b)) (by grind) (ne w3)
 have z4:hi1*hi2-L=0:=bE (x:=(a-lo1)*(b-lo2)) (by grind) (ne w4)
 have d:hi2-lo2≠0:=ne (by grind)
 have l0:lo1=0:=bE (x:=hi2-lo2) (by clear t0 t1 t2 t3 t4 w1 w2 w3 w4 ww e;grind) d
 have h0:hi1=0:=bE (x:=hi2-lo2) (by clear t0 t1 t2 t3 t4 w1 w2 w3 w4 ww e;grind) d
 grind
theorem uT{lo1 hi1 a lo2 hi2 b U:Re}(h1:lo1<a)(h2:a<hi1)(h3:lo2<b)(h4:b<hi2)(c1:lo1*lo2<=U)(c2:lo1*hi2<=U)(c3:hi1*lo2<=U)(c4:hi1*hi2<=U):a*b<U:=by
 have:=mK (lo1:=-hi1) (hi1:=-lo1) (a:=-a) (L:=-U) (lo2:=lo2) (hi2:=hi2) (b:=b) (by grind) (by grind) h3 h4 (by grind) (by grind) (by grind) (by grind)
 grind
theorem BX{u v B L:Re}(h1:u<=B)(h2:-B<=u)(g1:v<=L)(g2:-L<=v):u*v<=B*L:=by
 have a:=iu (x:=B-u) (y:=L+v) (by grind) (by grind)
 have b:=iu (x:=B+u) (y:=L-v) (by grind) (by grind)
 have e:(B-u)*(L+v)+(B+u)*(L-v)=2*(B*L-u*v):=by clear a b;grind
 grind
theorem C8{x1 x2 y1 y2 z B c:Re}(a1:x1<=B)(a2:-B<=x1)(b1:y2<=B)(b2:-B<=y2)(w1:z*(y1-y2)<=c)(w2:-c<=z*(y1-y2))(v1:z*(x1-x2)<=c)(v2:-c<=z*(x1-x2)):z*(x1*y1-x2*y2)<=B*c+B*c:=by
 have p:=BX a1 a2 w1 w2
 have q:=BX b1 b2 v1 v2
 have e:z*(x1*y1-x2*y2)=x1*(z*(y1-y2))+y2*(z*(x1-x2)):=by clear p q w1 w2 v1 v2;grind
 rw[e];grind
theorem wj{lo hi z c x y:Re}(z0:0<z)(o:lo<hi)(w:z*(hi-lo)<=c)(hx:x=lo\/x=hi)(hy:y=lo\/y=hi):z*(x-y)<=c/\-c<=z*(x-y):=by
 have p:0<z*(hi-lo):=mul_pos z0 (by grind)
 have e:z*(lo-hi)=-(z*(hi-lo)):=by grind
 have e0:∀t:Re,z*(t-t)=0:=fun t=>by grind
 rcases hx with rfl|rfl <;> rcases hy with rfl|rfl
 ·rw[e0];grind
 ·rw[e];grind
 ·grind
 ·rw[e0];grind
theorem vP{lo1 hi1 lo2 hi2 z xl xh B c:Re}(z0:0<z)(l1:-B<=lo1)(u1:hi1<=B)(o1:lo1<hi1)(l2:-B<=lo2)(u2:hi2<=B)(o2:lo2<hi2)(w1:z*(hi1-lo1)<=c)(w2:z*(hi2-lo2)<=c)
  (hl:xl=lo1*lo2\/xl=lo1*hi2\/xl=hi1*lo2\/xl=hi1*hi2) (hh:xh=lo1*lo2\/xh=lo1*hi2\/xh=hi1*lo2\/xh=hi1*hi2):z*(xh-xl)<=B*c+B*c:=by
 have S:∀ {x:Re},(x=lo1*lo2\/x=lo1*hi2\/x=hi1*lo2\/x=hi1*hi2)->∃p q,(p=lo1\/p=hi1)/\(q=lo2\/q=hi2)/\x=p*q:=fun h=>by
  rcases h with rfl|rfl|rfl|rfl
  ·exact ⟨_,_,.inl rfl,.inl rfl,rfl⟩
  ·exact ⟨_,_,.inl rfl,.inr rfl,rfl⟩
  ·exact ⟨_,_,.inr rfl,.inl rfl,rfl⟩
  ·exact ⟨_,_,.inr rfl,.inr rfl,rfl⟩
 refine ay (S hl) fun p q hp hq zq16=>?_;subst zq16
 refine ay (S hh) fun p' q' hp' hq' zq15=>?_;subst zq15
 have k1:=wj z0 o2 w2 hq' hq
 have k2:=wj z0 o1 w1 hp' hp
 refine C8 ?_ ?_ ?_ ?_ k1.1 k1.2 k2.1 k2.2
 ·clear k1 k2 w1 w2;rcases hp' with rfl|rfl <;> grind
 ·clear k1 k2 w1 w2;rcases hp' with rfl|rfl <;> grind
 ·clear k1 k2 w1 w2;rcases hq with rfl|rfl <;> grind
 ·clear k1 k2 w1 w2;rcases hq with rfl|rfl <;> grind
end Mine
namespace Mine
open PySem Re
noncomputable abbrev pg (row:List Int) (p1 q1 p2 q2:Int):V:=.tup [.tup (row.map .int),pt p1 q1,pt p2 q2]
structure Ab (g lo hi:Re)(p1 q1 p2 q2:Int):Prop where
 l1:Low 1470000 p1 q1
 l2:Low 1470000 p2 q2
 v1:(q1:Re)*lo=p1
 v2:(q2:Re)*hi=p2
 lt:lo<g
 gt:g<hi
inductive g9 (A:List Int) (N:Int) (a:Re) (j:Nat) (u:V):Prop
 |mk (lo hi:Re) (p1 q1 p2 q2:Int) (c0:PG A N a lo hi p1 q1 p2 q2 j) (c1:u=pg A p1 q1 p2 q2)
structure Fw (K:Nat)(g:Re)(F R:List Int):Prop where
 F:Tr F/\bn F 0=1/\F.length<=13/\AllSm K F/\evR F g=0
 R:PlG (K+172) 13 g R
 hK:K<=1000
 hg:ab g<=(((2^50:Nat):Int):Re)
theorem zD{w:Re}{j:Nat}(hj:182660<=j)(w0:0<=w)(h:((2^j:Int):Re)*w<=((2^660:Int):Re)):(((2^182000:Nat):Int):Re)*w<=1:=by
 obtain ⟨d,rfl⟩:=Jf hj
 have e:((2^(182660+d):Int):Re)=(((2^182000:Nat):Int):Re)*(((2^660:Int):Re)*((2^d:Int):Re)):=by
  rw[<- aq,<- aq,I6,<- Kq,show ((2:Nat):Int)=2 from rfl,<- Kq,show 182000+(660+d)=182660+d by exact oqz [d] [] [] (.eq (182000+(660+Y0)) (182660+Y0)) [1] rfl]
 rw[e] at h
 have p1:(1:Re)<=((2^d:Int):Re):=aZ (show (1:Int)<=2^d from Iq (by decide))
 have p2:0<((2^660:Int):Re):=aP (dU (by decide) 660)
 have p3:0<=(((2^182000:Nat):Int):Re):=Hu (aP (I4.mpr (Jy _)))
 generalize (((2^182000:Nat):Int):Re)=A at *
 generalize ((2^660:Int):Re)=B at *
 generalize ((2^d:Int):Re)=D at *
 clear e
 have k1:=ae (ae (ae p3 w0) (Hu p2)) (dH p1)
 refine JH.mp fun hn=>?_
 have k2:=mul_pos p2 (g8 hn)
 grind
theorem xt{K:Nat}{g lo hi:Re}{F R:List Int}{p1 q1 p2 q2:Int}{j:Nat}(r:Fw K g F R)(a:Ab g lo hi p1 q1 p2 q2)(w:((2^j:Int):Re)*(hi-lo)<=((2^660:Int):Re))(hn:¬ Aln R p1 q1 p2 q2):j<182660:=
 Nat.lt_of_not_le fun hj=>hn (uW r.F r.R (Ht _) r.hK r.hg a.l1.pos a.l2.pos a.v1 a.v2 a.lt a.gt (zD hj (fq (g8 (l8 a.lt a.gt))) w))
section
variable {sub:Nat->Nat->Bool}{P:List Fn}{n bd:Nat}{H:Hp}{Q:V->Hp->Prop}{X:Nat->Hp->Prop}
theorem Ga{K n:Nat}(hK:K<=1172)(hn:n<=13):K+1+(n+1)*(1470000+2)<=60000000/\K+(1470000+1470000)+2+n*((1470000+1470000)+2)<=60000000:=by
 have:=IV 2940002 hn
 exact om [K,n] [] [(.le Y0 1172),(.le Y1 13)] (.an (.le (.a (Y0+1) (.r (Y1+1) 1470002)) 60000000) (.le (.a (Y0+2940000+2) (.r Y1 2940002)) 60000000)) [[1,1,2940002]] rfl hK hn
theorem yS(zT:TT P){i:Nat}{row:List Int}{p1 q1 p2 q2:Int}{K:Nat}(hv:H[i]?=some (row.map .int))(h0:row≠[])(hl:row.length<=13)(sm:AllSm K row)(hK:K<=1172)(l1:Low 1470000 p1 q1)(l2:Low 1470000 p2 q2)
  (hQ:∀ (b:Bool) H',H<+:H'->(b=true ↔ Aln row p1 q1 p2 q2)->Q (.bool b) H'):ag sub P (n+4) 18 [.lst i,pt p1 q1,pt p2 q2] H Q X:=by
 obtain ⟨B1,B2⟩:=Ga hK hl
 refine aj zT.a18 rfl ?_
 dsimp only[rU,qS1,qS2,qS9,qE1,qE5,br,nR,aS,aC,aD,cF,aB,az,aw,av,aA,au,aa,ah,Nat.reduceSub]
 refine jt zT (v:=.lst i) hv sm l1.top l1.bot B1 ?_
 dsimp only[l4,aU,aa]
 by_cases h1:bh p1 q1 row=0
 ·rw[decide_eq_true (sgn_zero.mpr h1)]
  exact hQ false _ (JV _) ⟨nofun,fun a=>absurd h1 a.1⟩
 rw[decide_eq_false (fun h=>h1 (sgn_zero.mp h))]
 dsimp only[bw,Dk]
 refine jt zT (v:=.lst i) hv sm l2.top l2.bot B1 ?_
 dsimp only[l4,aU,aa]
 by_cases h2:bh p2 q2 row=0
 ·rw[decide_eq_true (sgn_zero.mpr h2)]
  exact hQ false _ (JV _) ⟨nofun,fun a=>absurd h2 a.2.1⟩
 rw[decide_eq_false (fun h=>h2 (sgn_zero.mp h))]
 dsimp only[bw,Dk]
 refine zo zT (m0:=i) hv h0 (Hj hl (by decide)) sm (l1.top.mul l2.bot) (l2.top.mul l1.bot) (l1.bot.mul l2.bot) (okN l1.top l2.bot (by decide) (by decide)) (okN l2.top l1.bot (by decide) (by decide)) (okN l1.bot l2.bot (by decide) (by decide)) B2 fun H' hp=>?_
 dsimp only[fA]
 exact hQ _ _ hp ⟨fun h=>⟨h1,h2,of_decide_eq_true h⟩,fun a=>decide_eq_true a.2.2⟩
inductive vK (H:Hp) (A B R:List Int) (N M:Int) (a b g:Re) (i bd n:Nat) (ρ:Loc) (H':Hp):Prop
 |mk (j:Nat) (u v:V) (lo hi:Re) (p1 q1 p2 q2:Int) (c0:n+j=182700/\H<+:H'/\H'[i]?=some (R.map V.int)) (c1:g9 A N a j u/\g9 B M b j v) (c2:Ab g lo hi p1 q1 p2 q2) (c3:((2^j:Int):Re)*(hi-lo)<=((2^660:Int):Re)) (c4:ρ=[some (.lst i),some (.fn bd),some u,some v,some (pt p1 q1),some (pt p2 q2)])
theorem EJ(zT:TT P)(hk:bd=27\/bd=27+1)
  {A B F R:List Int}{N M:Int}{a b g:Re}{K i:Nat}{u v:V}
  (hha:∀ (row:List Int) (N:Int) (al:Re) (u:V) (j:Nat) (H:Hp) (Q:V->Hp->Prop) (X:Nat->Hp->Prop),g9 row N al j u->j<=182700->(∀u',g9 row N al (j+1) u'->Q u' H)->ag sub P (n+5) 21 [u] H Q X)
  (hbd:∀ (j:Nat) (u v:V) (H:Hp) (Q:V->Hp->Prop) (X:Nat->Hp->Prop),j<=182700->g9 A N a j u->g9 B M b j v->(∀lo hi p1 q1 p2 q2 H',H<+:H'->Ab g lo hi p1 q1 p2 q2->((2^j:Int):Re)*(hi-lo)<=((2^660:Int):Re)->Q (.tup [pt p1 q1,pt p2 q2]) H')->ag sub P (n+5) bd [u,v] H Q X)
  (hi:H[i]?=some (R.map V.int)) (hR:Fw K g F R) (hu:g9 A N a 0 u) (hv:g9 B M b 0 v)
  (hQ:∀lo hi p1 q1 p2 q2 H',H<+:H'->Ab g lo hi p1 q1 p2 q2->Aln R p1 q1 p2 q2->Q (pg R p1 q1 p2 q2) H'):ag sub P (n+6) 26 [.lst i,.fn bd,u,v] H Q X:=by
 have hne:R≠[]:=fun h=>by refine ac (hR.R.la) fun l h1 _=>?_;rw[h] at h1;cases h1
 have hK:=hR.hK
 refine aj zT.a26 rfl ?_
 dsimp only[Et]
 generalize hT:E3=T
 generalize hC:Du 18=CC
 generalize hB:E9 21 27=BB
 dsimp only[qS2,qS4,lr,qE5,Gb,aC,aD,aB,az,aw,av,aM,aA,au,aa,ah,Nat.reduceSub]
 refine ⟨bd,hk,rfl,hbd 0 u v _ _ _ (by decide) hu hv fun lo hh p1 q1 p2 q2 H0 hp0 ab w=>?_⟩
 dsimp only[eJ,fG,aE,iC,Nat.reduceAdd,List.length_nil]
 subst hT hC hB
 refine ⟨rfl,fun ρ H'=>∃n,vK H A B R N M a b g i bd n ρ H',muI (vK H A B R N M a b g i bd),⟨182700,0,u,v,lo,hh,p1,q1,p2,q2,⟨rfl,hp0,ao hp0 hi⟩,⟨hu,hv⟩,ab,w,rfl⟩,?_⟩
 intro ρ H' hex
 have hI:=nQ hex
 have hle:∀ {n ρ H'},vK H A B R N M a b g i bd n ρ H'->muI (vK H A B R N M a b g i bd) ρ H'<=n:=fun h=>n8 h
 generalize muI (vK H A B R N M a b g i bd)=μ at *
 generalize μ ρ H'=nn at *
 obtain ⟨j,u,v,lo,hh,p1,q1,p2,q2,zq17,zq18,ab,w,zq19⟩:=hI;obtain ⟨hj,hp1,hi'⟩:=zq17;obtain ⟨h1,h2⟩:=zq18;subst zq19
 dsimp only[Du,qE5,ry,aS,aC,aD,aU,aa,ah]
 refine yS zT hi' hne hR.R.ln hR.R.sm (by exact oqz [K] [] [(.le Y0 1000)] (.le (Y0+172) 1172) [11] rfl hK) ab.l1 ab.l2 fun bb H1 hp2 hb=>?_
 cases bb with
 |true =>
  dsimp only[E3,qS1,qS2,qS9,qE5,bV,dW,aC,aD,kj,aU,d6,bK,lX,aa,ah]
  refine ifSome.mk (ao hp2 hi') ?_
  exact hQ lo hh _ _ _ _ _ (ad hp1 hp2) ab (hb.mp rfl)
 |false =>
  have hjj:=xt hR ab w fun h=>Hq (hb.mpr h)
  dsimp only[E9,qS1,qS2,qS3,qS4,qE5,aS,Gb,aC,aD,aU,bw,Dk,aa,ah,aE]
  refine hha _ _ _ _ _ _ _ _ h1 (by exact oqz [j,nn] [] [(.eq (Y1+Y0) 182700)] (.le Y0 182700) [11] rfl hj) fun u' h1'=>?_
  refine hha _ _ _ _ _ _ _ _ h2 (by exact oqz [j,nn] [] [(.eq (Y1+Y0) 182700)] (.le Y0 182700) [11] rfl hj) fun v' h2'=>?_
  refine ⟨bd,hk,rfl,hbd (j+1) _ _ _ _ _ (by exact oqz [j] [] [(.le (Y0+1) 182660)] (.le (Y0+1) 182700) [11] rfl hjj) h1' h2' fun lo' hh' p1' q1' p2' q2' H2 hp3 ab' w'=>?_⟩
  dsimp only[eJ,fG,aE,iC,Nat.reduceAdd,List.length_nil]
  have hN:vK H A B R N M a b g i bd (nn-1) [some (.lst i),some (.fn bd),some u',some v',some (pt p1' q1'),some (pt p2' q2')] H2:=
   ⟨j+1,_,_,lo',hh',p1',q1',p2',q2',⟨by exact oqz [nn-1,nn,j] [] [(.eq (Y1+Y2) 182700),(.le (Y2+1) 182660),(osb Y1 1 Y0)] (.eq (Y0+(Y2+1)) 182700) [100101,11100,1000011] rfl hj hjj (am (nn) (1)),ad (ad hp1 hp2) hp3,ao hp3 (ao hp2 hi')⟩,⟨h1',h2'⟩,ab',w',rfl⟩
  exact ⟨rfl,⟨_,hN⟩,HT (hle hN) (by exact oqz [nn-1,nn,j] [] [(.eq (Y1+Y2) 182700),(.le (Y2+1) 182660),(osb Y1 1 Y0)] (.le (Y0+1) Y1) [1000001,11100] rfl hj hjj (am (nn) (1)))⟩
end
end Mine
namespace Mine
theorem oM{c:Nat->Int}{l:Int}{P P':Nat->Int}{w:Nat}(h:∀i,i<w->P i=P' i):∀m,m<=w->tP c l P w m=tP c l P' w m
 |0,_=>rfl
 |m+1,hm=>by rw[pU,pU,oM h m (Ic hm),h (w-(m+1)) (by exact oqz [w-(m+1),w,m] [] [(.le (Y2+1) Y1),(osb Y1 (Y2+1) Y0)] (.le (Y0+1) Y1) [10001,1011] rfl hm (am (w) (m+1)))]
noncomputable def psL(c:Nat->Int)(l:Int)(n:Nat):Nat->List Int
 |0=>[(n:Int)]
 |w+1=>(-(tP c l (fun i=>(psL c l n w).getD (w-i) 0) (w+1) (min (w+1) n)))::psL c l n w
theorem F8(c:Nat->Int)(l:Int)(n w:Nat):psL c l n (w+1)=(-(tP c l (fun i=>(psL c l n w).getD (w-i) 0) (w+1) (min (w+1) n)))::psL c l n w:=rfl
theorem sN{c:Nat->Int}{l:Int}{n:Nat}:∀ {w i:Nat},i<=w->(psL c l n w).getD (w-i) 0=(psL c l n i).getD 0 0
 |0,i,h=>by rw[Kr.mp h]
 |w+1,i,h=>by
  rcases JL h with g|g
  ·have:=@sN c l n w i (I1 g)
   rw[F8,show w+1-i=(w-i)+1 by exact oqz [w+1-i,w,i,w-i] [] [(.le (Y2+1) (Y1+1)),(osb (Y1+1) Y2 Y0),(osb Y1 Y2 Y3)] (.eq Y0 (Y3+1)) [10001001,1001011,110,1010001,110001] rfl g (am (w+1) (i)) (am (w) (i)),JY,this]
  ·rw[g,Kf]
theorem nO(c:Nat->Int)(l:Int)(n:Nat):∃P,NwP c l n P:=
 ⟨fun i=>(psL c l n i).getD 0 0,rfl,fun w=>by
  show (psL c l n (w+1)).getD 0 0=_
  rw[F8,JD,oM (fun i hi=>sN (I1 hi)) _ (JM _ _)]⟩
theorem oR{S E E':Nat->Int}{w:Nat}(h:∀i,i<w->E i=E' i):∀m,m<=w->tE S E w m=tE S E' w m
 |0,_=>rfl
 |m+1,hm=>by rw[tEC,tEC,oR h m (Ic hm),h (w-(m+1)) (by exact oqz [w-(m+1),w,m] [] [(.le (Y2+1) Y1),(osb Y1 (Y2+1) Y0)] (.le (Y0+1) Y1) [10001,1011] rfl hm (am (w) (m+1)))]
noncomputable def esL(S:Nat->Int):Nat->List Int
 |0=>[1]
 |w+1=>(tE S (fun i=>(esL S w).getD (w-i) 0) (w+1) (w+1))::esL S w
theorem FY(S:Nat->Int)(w:Nat):esL S (w+1)=(tE S (fun i=>(esL S w).getD (w-i) 0) (w+1) (w+1))::esL S w:=rfl
theorem ul{S:Nat->Int}:∀ {w i:Nat},i<=w->(esL S w).getD (w-i) 0=(esL S i).getD 0 0
 |0,i,h=>by rw[Kr.mp h]
 |w+1,i,h=>by
  rcases JL h with g|g
  ·have:=@ul S w i (I1 g)
   rw[FY,show w+1-i=(w-i)+1 by exact oqz [w+1-i,w,i,w-i] [] [(.le (Y2+1) (Y1+1)),(osb (Y1+1) Y2 Y0),(osb Y1 Y2 Y3)] (.eq Y0 (Y3+1)) [10001001,1001011,110,1010001,110001] rfl g (am (w+1) (i)) (am (w) (i)),JY,this]
  ·rw[g,Kf]
theorem xf(S:Nat->Int):∃E,NwE S E:=
 ⟨fun i=>(esL S i).getD 0 0,rfl,fun w=>by
  show (esL S (w+1)).getD 0 0=_
  rw[FY,JD,oR (fun i hi=>ul (I1 hi)) _ (Ht _)]⟩
theorem sm4{x:Int}(h0:0<=x)(h:x<16):Sm 4 x:=by unfold Sm;rw[show (2:Nat)^4=16 by decide];exact oqz [x.natAbs] [x] [(.il 0 Y0),(.il (Y0+1) 16),(ona Y0 Y0)] (.le (Y0+1) 16) [10101,10011] rfl h0 h (bm (x))
structure Bas (c:Nat->Int)(l:Int)(n b:Nat):Prop where
 l0:0<l
 n1:1<=n
 n9:n<=12
 cl:c 0=l
 sc:∀j,j<=n->Sm b (c j)
section
variable {c P:Nat->Int}{l:Int}{n b:Nat}
theorem Bas.sl(h:Bas c l n b)(w:Nat):Sm (b*w+1) (l^w):=(h.cl ▸ h.sc 0 (HQ _)).pow w
theorem uc(h:Bas c l n b){w m:Nat}(hw:w<=12)(hm:m+1<=min w n)(ih:∀i,i<w->Sm ((b+13)*i+4) (P i)) :
  Sm ((b+13)*w-8) (if m+1=w then (w:Int)*c w*l^m else c (m+1)*l^m*P (w-(m+1))):=by
 have m1:m+1<=w:=Hj hm (JM _ _)
 have m2:m+1<=n:=Hj hm (Kj _ _)
 split
 ·rename_i e
  refine (((sm4 (by exact oqz [w] [] [] (.il 0 (.c Y0)) [1] rfl) (by exact oqz [w] [] [(.le Y0 12)] (.il (.a (.c Y0) 1) 16) [11] rfl hw)).mul (e ▸ h.sc (m+1) m2)).mul (h.sl m)).mono ?_
  have:(b+13)*w=b*m+b+13*w:=by rw[<- e];grind
  exact om [b,b*m,(b+13)*w-8,(b+13)*w,w,m] [] [(.eq (Y5+1) Y4),(.eq Y3 (.a (Y1+Y0) (.m 13 Y4))),(.an (.le Y3 (Y2+8)) (.le Y2 Y3))] (.le (4+Y0+(Y1+1)) Y2) [[1,13,0,0,1,1]] rfl e this (aX ((b+13)*w) (8))
 ·refine (((h.sc (m+1) m2).mul (h.sl m)).mul (ih (w-(m+1)) (by exact oqz [w-(m+1),w,m] [] [(.le (Y2+1) Y1),(osb Y1 (Y2+1) Y0)] (.le (Y0+1) Y1) [10001,1011] rfl m1 (am (w) (m+1))))).mono ?_
  obtain ⟨d,rfl⟩:=Jf m1
  rw[IB]
  have:(b+13)*(m+1+d)=b*m+b+(b+13)*d+13*m+13:=by grind
  exact oqz [b,b*m,(b+13)*d,(b+13)*(m+1+d)-8,(b+13)*(m+1+d),m] [] [(.eq Y4 (.a (.a (Y1+Y0+Y2) (.m 13 Y5)) 13)),(.an (.le Y4 (Y3+8)) (.le Y3 Y4))] (.le (Y0+(Y1+1)+(Y2+4)) Y3) [1101] rfl this (aX ((b+13)*(m+1+d)) (8))
theorem rl(h:Bas c l n b){w:Nat}(hw:w<=12)(ih:∀i,i<w->Sm ((b+13)*i+4) (P i)):∀m,m<=min w n->Sm ((b+13)*w-8+m) (tP c l P w m)
 |0,_=>Sm.zero
 |m+1,hm=>by rw[pU];exact (rl h hw ih m (Ic hm)).add ((uc h hw hm ih).mono (Ja _ _))
theorem jB(h:Bas c l n b)(hP:NwP c l n P):∀ (N w:Nat),w<=N->N<=12->Sm ((b+13)*w+4) (P w):=by
 intro N
 induction N with
 |zero=>intro w hw _;rw[Kr.mp hw,hP.p0,Nat.mul_zero];exact sm4 (by exact oqz [n] [] [] (.il 0 (.c Y0)) [1] rfl) (by have:=h.n9;exact oqz [n] [] [(.le Y0 12)] (.il (.a (.c Y0) 1) 16) [11] rfl this)
 |succ N ih =>
  intro w hw hN
  cases w with
  |zero=>rw[hP.p0,Nat.mul_zero];exact sm4 (by exact oqz [n] [] [] (.il 0 (.c Y0)) [1] rfl) (by have:=h.n9;exact oqz [n] [] [(.le Y0 12)] (.il (.a (.c Y0) 1) 16) [11] rfl this)
  |succ v =>
   rw[hP.ps]
   refine (rl h (w:=v+1) (by exact oqz [v,N] [] [(.le (Y1+1) 12),(.le (Y0+1) (Y1+1))] (.le (Y0+1) 12) [111] rfl hN hw) (fun i hi=>ih i (by exact oqz [i,N,v] [] [(.le (Y2+1) (Y1+1)),(.le (Y0+1) (Y2+1))] (.le Y0 Y1) [111] rfl hw hi) (by exact oqz [N] [] [(.le (Y0+1) 12)] (.le Y0 12) [11] rfl hN)) _ (Ht _)).neg.mono ?_
   have:=JM (v+1) n
   have:13<=(b+13)*(v+1):=by rw[Nat.mul_succ];exact oqz [(b+13)*v,b] [] [] (.le 13 (Y0+(Y1+13))) [1] rfl
   exact oqz [(b+13)*(v+1)-8,(b+13)*(v+1),min (v+1) n,v,n,N] [] [(.le (Y5+1) 12),(.le (Y3+1) (Y5+1)),(.le 13 Y1),(.an (.le Y2 (Y3+1)) (.le Y2 Y4)),(osb Y1 8 Y0)] (.le (Y0+Y2) (Y1+4)) [100010111,1001000] rfl hN hw this (Mine.rB (v+1) (n)) (am ((b+13)*(v+1)) (8))
theorem Bas.szP(h:Bas c l n b)(hP:NwP c l n P){k N:Nat}(hN1:1<=N)(hN:N<=12)(k9:k<=20000)(hk:(b+13)*N+20<=k):SzP c l n P k N:=by
 have mul:∀ {w},w<=N->(b+13)*w<=(b+13)*N:=fun hw=>HK _ hw
 have ih:∀ {w},w<=N->∀i,i<w->Sm ((b+13)*i+4) (P i):=fun hw i hi=>jB h hP N i (by exact oqz [i,N,_] [] [(.le Y2 Y1),(.le (Y0+1) Y2)] (.le Y0 Y1) [111] rfl hw hi) hN
 have n9:=h.n9
 refine ⟨h.l0,h.n1,by exact owk (by decide) n9,by exact owk (by decide) hN,k9,by exact oqz [k,(b+13)*N] [] [(.le (Y1+20) Y0)] (.le 8 Y0) [11] rfl hk,fun w hw=>(h.sl w).mono ?_,fun j hj=>(h.sc j hj).mono ?_,fun w hw=>(jB h hP N w hw hN).mono ?_,fun w m hw hm=>(rl h (by exact oqz [w,N] [] [(.le Y1 12),(.le Y0 Y1)] (.le Y0 12) [111] rfl hN hw) (ih hw) m hm).mono ?_,fun w m hw hm=>(uc h (by exact oqz [w,N] [] [(.le Y1 12),(.le Y0 Y1)] (.le Y0 12) [111] rfl hN hw) hm (ih hw)).mono ?_⟩
 ·have:=mul hw;rw[HH] at this;exact oqz [b*w,k,(b+13)*N,w] [] [(.le (Y2+20) Y1),(.le (.a Y0 (.m 13 Y3)) Y2)] (.le (Y0+1) Y1) [111] rfl hk this
 ·cases N with
  |zero=>exact absurd hN1 (by exact oqz [] [] [] (.no (.le 1 0)) [1] rfl)
  |succ N=>rw[Nat.mul_succ] at hk;exact oqz [b,k,(b+13)*N] [] [(.le (Y2+(Y0+13)+20) Y1)] (.le Y0 Y1) [11] rfl hk
 ·have:=mul hw;exact oqz [(b+13)*w,k,(b+13)*N] [] [(.le (Y2+20) Y1),(.le Y0 Y2)] (.le (Y0+4) Y1) [111] rfl hk this
 ·have zt1:=mul hw;have zt2:=JM w n;exact oqz [(b+13)*w-8,(b+13)*w,m,k,N,(b+13)*N,w,min w n] [] [(.le Y4 12),(.le (Y5+20) Y3),(.le Y6 Y4),(.le Y2 Y7),(.le Y1 Y5),(.le Y7 Y6),(.an (.le Y1 (Y0+8)) (.le Y0 Y1))] (.le (Y0+Y2) Y3) [101111111] rfl hN hk hw hm zt1 zt2 (aX ((b+13)*w) (8))
 ·have:=mul hw;exact oqz [(b+13)*w-8,(b+13)*w,k,(b+13)*N] [] [(.le (Y3+20) Y2),(.le Y1 Y3),(.an (.le Y1 (Y0+8)) (.le Y0 Y1))] (.le Y0 Y2) [10111] rfl hk this (aX ((b+13)*w) (8))
end
theorem rV:∀n k:Nat,0<=bnm n k/\bnm n k<=2^n
 |n,0=>by rw[jP];exact ⟨by decide,Iq (by decide)⟩
 |0,k+1=>by rw[Bd];decide
 |n+1,k+1=>by
  have h1:=rV n k
  have h2:=rV n (k+1)
  rw[lK,Ig]
  exact oqz [] [bnm n k,bnm n (k+1),2^n] [(.an (.il 0 Y0) (.il Y0 Y2)),(.an (.il 0 Y1) (.il Y1 Y2))] (.an (.il 0 (Y0+Y1)) (.il (Y0+Y1) (.r Y2 2))) [1011,10101] rfl h1 h2
theorem wW(n k:Nat):Sm (n+1) (bnm n k):=by
 have h:=rV n k
 have e:((2^n:Nat):Int)=(2:Int)^n:=I6 2 n
 unfold Sm
 rw[Jx]
 have:0<(2:Nat)^n:=Jy n
 exact oqz [(bnm n k).natAbs,2^n] [bnm n k,2^n] [(.an (.il 0 Y0) (.il Y0 Y1)),(.ie (.c Y1) Y1),(.le (0+1) Y1),(ona Y0 Y0)] (.le (Y0+1) (.r Y1 2)) [10110101,10200011] rfl h e this (bm (bnm n k))
section
variable {c1 c2 P1 P2:Nat->Int}{l1 l2:Int}{n1 n2 b1 b2:Nat}
theorem ug(h1:Bas c1 l1 n1 b1)(h2:Bas c2 l2 n2 b2){w j:Nat}(hj:j<=w)(s1:Sm ((b1+13)*j+4) (P1 j))(s2:Sm ((b2+13)*(w-j)+4) (P2 (w-j))):Sm ((b1+b2+14)*w+11) (bnm w j*(P1 j*P2 (w-j))*(l1^(w-j)*l2^j)):=by
 refine (((wW w j).mul (s1.mul s2)).mul ((h1.sl (w-j)).mul (h2.sl j))).mono ?_
 obtain ⟨d,rfl⟩:=Jf hj
 rw[IB]
 grind
theorem qM(h1:Bas c1 l1 n1 b1)(h2:Bas c2 l2 n2 b2){w:Nat}(s1:∀j,j<=w->Sm ((b1+13)*j+4) (P1 j))(s2:∀j,j<=w->Sm ((b2+13)*j+4) (P2 j)):∀j,j<=w+1->Sm ((b1+b2+14)*w+11+j) (tS l1 l2 P1 P2 w j)
 |0,_=>Sm.zero
 |j+1,hj=>by rw[tSC];exact (qM h1 h2 s1 s2 j (Ic hj)).add ((ug h1 h2 (I0 hj) (s1 j (by exact oqz [j,w] [] [(.le (Y0+1) (Y1+1))] (.le Y0 Y1) [11] rfl hj)) (s2 (w-j) (by exact oqz [w-j,w,j] [] [(.an (.le Y1 (Y0+Y2)) (.le Y0 Y1))] (.le Y0 Y1) [101] rfl (aX (w) (j))))).mono (Ja _ _))
theorem um(h1:Bas c1 l1 n1 b1)(h2:Bas c2 l2 n2 b2)(hP1:NwP c1 l1 n1 P1)(hP2:NwP c2 l2 n2 P2){k N:Nat}(hN:N<=12)(k9:k<=20000)(hk:(b1+b2+26)*N+24<=k):SzS l1 l2 P1 P2 k N:=by
 have s1:∀j,j<=N->Sm ((b1+13)*j+4) (P1 j):=fun j hj=>jB h1 hP1 N j hj hN
 have s2:∀j,j<=N->Sm ((b2+13)*j+4) (P2 j):=fun j hj=>jB h2 hP2 N j hj hN
 rw[HH,HH] at hk
 have m1:∀ {w},w<=N->b1*w<=b1*N:=fun hw=>HK _ hw
 have m2:∀ {w},w<=N->b2*w<=b2*N:=fun hw=>HK _ hw
 have k1:∀ {w},w<=N->b1*w+1<=k/\(b1+13)*w+4<=k:=fun hw=>by have:=m1 hw;rw[HH];exact om [_,k,_,N,b1*N,b2*N] [] [(.le (.a (.a (Y4+Y5) (.m 26 Y3)) 24) Y1),(.le Y2 Y3),(.le Y0 Y4)] (.an (.le (Y0+1) Y1) (.le (.a (.a Y0 (.m 13 Y2)) 4) Y1)) [[1,1,13,1]] rfl hk hw this
 have k2:∀ {w},w<=N->b2*w+1<=k/\(b2+13)*w+4<=k:=fun hw=>by have:=m2 hw;rw[HH];exact om [_,k,_,N,b1*N,b2*N] [] [(.le (.a (.a (Y4+Y5) (.m 26 Y3)) 24) Y1),(.le Y2 Y3),(.le Y0 Y5)] (.an (.le (Y0+1) Y1) (.le (.a (.a Y0 (.m 13 Y2)) 4) Y1)) [[1,1,13,1]] rfl hk hw this
 have k3:∀ {w j},w<=N->j<=w->(b1+13)*j+4+((b2+13)*(w-j)+4)<=k/\b1*j+1+(b2*(w-j)+1)<=k:=fun {w j} hw hj=>by
  have zt1:=m1 (Hj hj hw);have zt2:=m2 (Hj (Nat.sub_le w j) hw);rw[HH,HH];exact om [b1*j,j,b2*(w-j),w-j,w,k,N,b1*N,b2*N] [] [(.le (.a (.a (Y7+Y8) (.m 26 Y6)) 24) Y5),(.le Y4 Y6),(.le Y1 Y4),(.le Y0 Y7),(.le Y2 Y8),(.an (.le Y4 (Y3+Y1)) (.le Y3 Y4))] (.an (.le (.a (.a (.a Y0 (.m 13 Y1)) 4) (.a (.a Y2 (.m 13 Y3)) 4)) Y5) (.le (Y0+1+(Y2+1)) Y5)) [[1,1,26,13,1,1,0,13]] rfl hk hw hj zt1 zt2 (aX (w) (j))
 have k4:∀ {w},w<=N->(b1+b2+14)*w+11+w<=k/\b1*w+1+(b2*w+1)<=k:=fun hw=>by have zt1:=m1 hw;have zt2:=m2 hw;rw[HH,HH];exact om [_,_,_,k,N,b1*N,b2*N] [] [(.le (.a (.a (Y5+Y6) (.m 26 Y4)) 24) Y3),(.le Y2 Y4),(.le Y0 Y5),(.le Y1 Y6)] (.an (.le (.a (.a (.a (Y0+Y1) (.m 14 Y2)) 11) Y2) Y3) (.le (Y0+1+(Y1+1)) Y3)) [[1,1,15,1,1]] rfl hk hw zt1 zt2
 exact ⟨h1.l0,h2.l0,by exact owk (by decide) hN,k9,by exact oqz [k,N,b1*N,b2*N] [] [(.le (.a (.a (Y2+Y3) (.m 26 Y1)) 24) Y0)] (.le 8 Y0) [11] rfl hk,fun w hw=>⟨(h1.sl w).mono (k1 hw).1,(s1 w hw).mono (k1 hw).2⟩,fun w hw=>⟨(h2.sl w).mono (k2 hw).1,(s2 w hw).mono (k2 hw).2⟩,
  fun w j hw hj=>⟨(wW w j).mono (by exact oqz [w,k,N,b1*N,b2*N] [] [(.le (.a (.a (Y3+Y4) (.m 26 Y2)) 24) Y1),(.le Y0 Y2)] (.le (Y0+1) Y1) [111] rfl hk hw),((s1 j (Hj hj hw)).mul (s2 (w-j) (Hj (Nat.sub_le w j) hw))).mono (k3 hw hj).1,((h1.sl j).mul (h2.sl (w-j))).mono (k3 hw hj).2⟩,
  fun w hw=>by rw[Int.mul_pow];exact ((h1.sl w).mul (h2.sl w)).mono (k4 hw).2,
  fun w j hw hj=>(qM h1 h2 (fun i hi=>s1 i (Hj hi hw)) (fun i hi=>s2 i (Hj hi hw)) j (Nat.le_succ_of_le hj)).mono (Hj (I2 hj _) (k4 hw).1),
  fun w j hw hj=>(ug h1 h2 hj (s1 j (Hj hj hw)) (s2 (w-j) (Hj (Nat.sub_le w j) hw))).mono (Hj (Ja _ _) (k4 hw).1)⟩
end
section
variable {L:Int}{S E:Nat->Int}{b N:Nat}
theorem Cd{n:Nat}(hn:n<=15):∀ {j:Nat},j<=n->Sm (4*j+1) (ds n j)
 |0,_=>Sm.one
 |j+1,hj=>by rw[dsC];exact ((Cd hn (Ic hj)).mul (sm4 (x:=(n:Int)-j) (by exact oqz [n,j] [] [(.le (Y1+1) Y0)] (.il 0 (.s (.c Y0) (.c Y1))) [11] rfl hj) (by exact oqz [n,j] [] [(.le Y0 15)] (.il (.a (.s (.c Y0) (.c Y1)) 1) 16) [11] rfl hn))).mono (by exact oqz [j] [] [] (.le (.a (.a (.m 4 Y0) 1) 4) (.a (.m 4 (Y0+1)) 1)) [1] rfl)
theorem uE:∀ {n:Nat},n<=15->Sm (4*n+1) (fk n)
 |0,_=>Sm.one
 |n+1,hn=>by rw[fkC];exact ((uE (Ic hn)).mul (sm4 (x:=(n:Int)+1) (by exact oqz [n] [] [] (.il 0 (.a (.c Y0) 1)) [1] rfl) (by exact oqz [n] [] [(.le (Y0+1) 15)] (.il (.a (.a (.c Y0) 1) 1) 16) [11] rfl hn))).mono (by exact oqz [n] [] [] (.le (.a (.a (.m 4 Y0) 1) 4) (.a (.m 4 (Y0+1)) 1)) [1] rfl)
theorem tC{w j:Nat}(hw:w<=12)(hj:j+1<=w)(hS:Sm ((b+26)*(j+1)+12) (S (j+1)))(hE:Sm ((b+51)*(w-(j+1))+1) (E (w-(j+1)))):Sm ((b+51)*w-11) (E (w-(j+1))*S (j+1)*ds (w-1) j):=by
 refine ((hE.mul hS).mul (Cd (n:=w-1) (by exact oqz [w-1,w] [] [(.le Y1 12),(.an (.le Y1 (Y0+1)) (.le Y0 Y1))] (.le Y0 15) [1011] rfl hw (aX (w) (1))) (j:=j) (by exact oqz [j,w-1,w] [] [(.le (Y0+1) Y2),(.an (.le Y2 (Y1+1)) (.le Y1 Y2))] (.le Y0 Y1) [111] rfl hj (aX (w) (1))))).mono ?_
 obtain ⟨d,rfl⟩:=Jf hj
 rw[IB]
 have:(b+51)*(j+1+d)=(b+51)*d+(b+26)*(j+1)+25*j+25:=by grind
 exact oqz [(b+51)*d,(b+26)*(j+1),j,(b+51)*(j+1+d)-11,(b+51)*(j+1+d)] [] [(.eq Y4 (.a (.a (Y0+Y1) (.m 25 Y2)) 25)),(.an (.le Y4 (Y3+11)) (.le Y3 Y4))] (.le (.a (Y0+1+(Y1+12)) (.a (.m 4 Y2) 1)) Y3) [1101] rfl this (aX ((b+51)*(j+1+d)) (11))
theorem qH{w:Nat}(hw:w<=12)(hS:∀j,j<=w->Sm ((b+26)*j+12) (S j))(hE:∀i,i<w->Sm ((b+51)*i+1) (E i)):∀j,j<=w->Sm ((b+51)*w-11+j) (tE S E w j)
 |0,_=>Sm.zero
 |j+1,hj=>by rw[tEC];exact (qH hw hS hE j (Ic hj)).add ((tC hw hj (hS _ hj) (hE _ (by exact oqz [w-(j+1),w,j] [] [(.le (Y2+1) Y1),(osb Y1 (Y2+1) Y0)] (.le (Y0+1) Y1) [10001,1011] rfl hj (am (w) (j+1))))).sgI.mono (Ja _ _))
theorem Gc(hE:NwE S E)(hS:∀j,j<=N->Sm ((b+26)*j+12) (S j))(hN:N<=12):∀ (M w:Nat),M<=N->w<=M->Sm ((b+51)*w+1) (E w):=by
 intro M
 induction M with
 |zero=>intro w _ hw;rw[Kr.mp hw,hE.e0,Nat.mul_zero];exact Sm.one
 |succ M ih =>
  intro w hM hw
  cases w with
  |zero=>rw[hE.e0,Nat.mul_zero];exact Sm.one
  |succ v =>
   rw[hE.es]
   refine (qH (w:=v+1) (by exact oqz [v,N,M] [] [(.le Y1 12),(.le (Y2+1) Y1),(.le (Y0+1) (Y2+1))] (.le (Y0+1) 12) [1111] rfl hN hM hw) (fun j hj=>hS j (by exact oqz [j,N,M,v] [] [(.le (Y2+1) Y1),(.le (Y3+1) (Y2+1)),(.le Y0 (Y3+1))] (.le Y0 Y1) [1111] rfl hM hw hj)) (fun i hi=>ih i (by exact oqz [M,N] [] [(.le (Y0+1) Y1)] (.le Y0 Y1) [11] rfl hM) (by exact oqz [i,M,v] [] [(.le (Y2+1) (Y1+1)),(.le (Y0+1) (Y2+1))] (.le Y0 Y1) [111] rfl hw hi)) _ (Ht _)).mono ?_
   have:51<=(b+51)*(v+1):=by rw[Nat.mul_succ];exact oqz [(b+51)*v,b] [] [] (.le 51 (Y0+(Y1+51))) [1] rfl
   exact oqz [(b+51)*(v+1)-11,(b+51)*(v+1),v,N,M] [] [(.le Y3 12),(.le (Y4+1) Y3),(.le (Y2+1) (Y4+1)),(.le 51 Y1),(osb Y1 11 Y0)] (.le (Y0+(Y2+1)) (Y1+1)) [10001111,110000] rfl hN hM hw this (am ((b+51)*(v+1)) (11))
theorem Av(l0:0<L)(sL:Sm b L)(hE:NwE S E)(hS:∀j,j<=N->Sm ((b+26)*j+12) (S j)){k:Nat}(hN:N<=12)(k9:k<=20000)(hk:(b+51)*N+24<=k):SzE L S E k N/\(∀i,i<=N->Sm ((b+51)*N+1) (E i))/\Sm ((b+4)*N+2) (fk N*L^N):=by
 have sE:∀i,i<=N->Sm ((b+51)*i+1) (E i):=fun i hi=>Gc hE hS hN N i (Ht _) hi
 have mul:∀ {w},w<=N->b*w<=b*N:=fun hw=>HK _ hw
 have mu:∀ {w},w<=N->(b+51)*w<=(b+51)*N:=fun hw=>HK _ hw
 have e51:(b+51)*N=b*N+51*N:=HH ..
 have sl:∀w,Sm (b*w+1) (L^w):=fun w=>sL.pow w
 have k1:∀ {w},w<=N->b*w+1<=k/\4*w+1+(b*w+1)<=k:=fun hw=>by have:=mul hw;exact oqz [_,k,_,N,(b+51)*N,b*N] [] [(.le (Y4+24) Y1),(.eq Y4 (.a Y5 (.m 51 Y3))),(.le Y2 Y3),(.le Y0 Y5)] (.an (.le (Y0+1) Y1) (.le (.a (.a (.m 4 Y2) 1) (Y0+1)) Y1)) [141011] rfl hk e51 hw this
 have k2:∀ {w},w+1<=N->4*w+1+(b*(w+1)+1)<=k:=fun hw=>by have:=mul hw;exact oqz [_,_,k,N,(b+51)*N,b*N] [] [(.le (Y4+24) Y2),(.eq Y4 (.a Y5 (.m 51 Y3))),(.le (Y0+1) Y3),(.le Y1 Y5)] (.le (.a (.a (.m 4 Y0) 1) (Y1+1)) Y2) [141011] rfl hk e51 hw this
 have k3:∀ {w j},w<=N->j<=w->(b+51)*w-11+j<=k:=fun hw hj=>Hj (Nat.add_le_add (Hj (Nat.sub_le _ _) (mu hw)) (Hj hj (Hj hw hN))) (Hj (I2 (show 12<=24 by decide) _) hk)
 refine ⟨⟨l0,by exact owk (by decide) hN,k9,by exact oqz [k,(b+51)*N] [] [(.le (Y1+24) Y0)] (.le 8 Y0) [11] rfl hk,fun w hw=>(sl w).mono (k1 hw).1,fun w hw=>((uE (by exact oqz [w,N] [] [(.le Y1 12),(.le Y0 Y1)] (.le Y0 15) [111] rfl hN hw)).mul (sl w)).mono (k1 hw).2,fun w hw=>((uE (by exact oqz [w,N] [] [(.le Y1 12),(.le (Y0+1) Y1)] (.le Y0 15) [111] rfl hN hw)).mul (sl (w+1))).mono (k2 hw),fun w hw=>(hS w hw).mono ?_,fun w hw=>(sE w hw).mono ?_,
  fun w j hw hj=>(qH (by exact oqz [w,N] [] [(.le Y1 12),(.le Y0 Y1)] (.le Y0 12) [111] rfl hN hw) (fun i hi=>hS i (Hj hi hw)) (fun i hi=>sE i (by exact oqz [i,N,w] [] [(.le Y2 Y1),(.le (Y0+1) Y2)] (.le Y0 Y1) [111] rfl hw hi)) j hj).mono (k3 hw hj),fun w j hw hj=>(tC (by exact oqz [w,N] [] [(.le Y1 12),(.le Y0 Y1)] (.le Y0 12) [111] rfl hN hw) hj (hS _ (by exact oqz [j,N,w] [] [(.le Y2 Y1),(.le (Y0+1) Y2)] (.le (Y0+1) Y1) [111] rfl hw hj)) (sE _ (by exact oqz [w-(j+1),w,j,N] [] [(.le Y1 Y3),(.an (.le Y1 (Y0+(Y2+1))) (.le Y0 Y1))] (.le Y0 Y3) [1011] rfl hw (aX (w) (j+1))))).mono (k3 hw (HQ _))⟩,fun i hi=>(sE i hi).mono (Nat.add_le_add_right (mu hi) 1),((uE (by exact owk (by decide) hN)).mul (sl N)).mono (by rw[HH];exact oqz [N,b*N] [] [] (.le (.a (.a (.m 4 Y0) 1) (Y1+1)) (.a (.a Y1 (.m 4 Y0)) 2)) [1] rfl)⟩
 ·have:=mul hw;rw[HH];exact om [b*w,w,k,N,(b+51)*N,b*N] [] [(.le (Y4+24) Y2),(.eq Y4 (.a Y5 (.m 51 Y3))),(.le Y1 Y3),(.le Y0 Y5)] (.le (.a (.a Y0 (.m 26 Y1)) 12) Y2) [[1,1,0,1,26,1]] rfl hk e51 hw this
 ·have:=mu hw;exact oqz [(b+51)*w,k,(b+51)*N] [] [(.le (Y2+24) Y1),(.le Y0 Y2)] (.le (Y0+1) Y1) [111] rfl hk this
end
section
variable {S:Type}[Lean.Grind.CommRing S]
noncomputable def TF(S:Type)[Lean.Grind.CommRing S]:Prop:=∀ (n:Int) (x y:S),n≠0->zS n*x=zS n*y->x=y
theorem ir(a:Int):∀n:Nat,zS (S:=S) (a^n)=zS a^n
 |0=>by rw[ID,Hr,zS1]
 |n+1=>by rw[Ig,Hn,bY,ir a n]
theorem pS0:∀xs:List S,pS xs 0=zS (xs.length:Int)
 | []=>by rw[pSN];exact zS0.symm
 |x::r=>by rw[pSC,pS0 r,Hr,List.length_cons,show ((r.length+1:Nat):Int)=(r.length:Int)+1 from rfl,fK,zS1];grind
structure RtS (c:Nat->Int)(l:Int)(n:Nat)(xs:List S):Prop where
 ln:xs.length=n
 ec:∀j,j<=n->zS (c j)=zS l*eS xs j
theorem iP(a:S){i j:Nat}(h:i<=j):a^j=a^(j-i)*a^i:=by
 rw[<- Lean.Grind.Semiring.pow_add,Nat.sub_add_cancel h]
theorem FN{c:Nat->Int}{l:Int}{n:Nat}{xs:List S}{P:Nat->Int}(h:RtS c l n xs){w:Nat}(ih:∀i,i<w+1->zS l^i*pS xs i=zS (P i)):∀m,m<=min (w+1) n->zS (tP c l P (w+1) m)=zS l^(w+1)*bM (fun j=>eS xs (j+1)*(if j+1=w+1 then zS ((w:Int)+1) else pS xs (w+1-(j+1)))) m
 |0,_=>by rw[Fj,bQ,zS0];grind
 |m+1,hm=>by
  have m1:m+1<=w+1:=Hj hm (JM _ _)
  have hc:=h.ec (m+1) (Hj hm (Kj _ _))
  rw[pU,fK,FN h ih m (Ic hm),aT]
  have e1:=iP (zS (S:=S) l) m1
  have e2:=Hn (zS (S:=S) l) m
  by_cases g:m+1=w+1
  ·rw[if_pos g,if_pos g,<- g,bY,bY,hc,ir,e2,show ((m+1:Nat):Int)=(m:Int)+1 from rfl,show m=w from IW g]
   grind
  ·rw[if_neg g,if_neg g,bY,bY,hc,<- ih (w+1-(m+1)) (by exact oqz [w+1-(m+1),w,m] [] [(osb (Y1+1) (Y2+1) Y0)] (.le (Y0+1) (Y1+1)) [1001,101] rfl (am (w+1) (m+1))),ir,e1,e2]
   grind
theorem mY(f:Nat->S):∀n:Nat,bM f (n+1)=bM (fun j=>f (n-j)) (n+1)
 |0=>rfl
 |n+1=>by
  rw[aT,mY f n,je (fun j=>f (n+1-j)),Nat.sub_zero]
  rw[show (fun j=>f (n+1-(j+1)))=fun j=>f (n-j) from funext fun j=>by rw[Js]]
  grind
theorem pT(xs:List S)(g:Nat->S):∀d:Nat,bM (fun j=>eS xs (j+1)*g j) (xs.length+d)=bM (fun j=>eS xs (j+1)*g j) xs.length
 |0=>rfl
 |d+1=>by rw[<- IJ,aT,pT xs g d,iN xs (xs.length+d+1) (by exact oqz [xs.length,d] [] [] (.le (Y0+1) (Y0+Y1+1)) [1] rfl)];grind
theorem zw{c:Nat->Int}{l:Int}{n:Nat}{xs:List S}{P:Nat->Int}(h:RtS c l n xs)(hP:NwP c l n P):∀ (N w:Nat),w<=N->zS l^w*pS xs w=zS (P w):=by
 intro N
 induction N with
 |zero=>intro w hw;rw[Kr.mp hw,hP.p0,pS0,h.ln,Hr];grind
 |succ N ih =>
  intro w hw
  cases w with
  |zero=>exact ih 0 (HQ _)
  |succ v =>
   have k:=FN h (w:=v) (fun i hi=>ih i (by exact oqz [i,N,v] [] [(.le (Y2+1) (Y1+1)),(.le (Y0+1) (Y2+1))] (.le Y0 Y1) [111] rfl hw hi)) (min (v+1) n) (Ht _)
   have nw:=kg xs v
   rw[je,eS0,Nat.sub_zero] at nw
   have e:bM (fun j=>eS xs (j+1)*(if j+1=v+1 then zS ((v:Int)+1) else pS xs (v+1-(j+1)))) (min (v+1) n)=bM (fun j=>eS xs (j+1)*pS xs (v+1-(j+1))) v+zS ((v:Int)+1)*eS xs (v+1):=by
    have full:bM (fun j=>eS xs (j+1)*(if j+1=v+1 then zS ((v:Int)+1) else pS xs (v+1-(j+1)))) (v+1)=bM (fun j=>eS xs (j+1)*pS xs (v+1-(j+1))) v+zS ((v:Int)+1)*eS xs (v+1):=by
     rw[aT,if_pos rfl,bN (g:=fun j=>eS xs (j+1)*pS xs (v+1-(j+1))) fun j hj=>by rw[if_neg (by exact oqz [j,v] [] [(.le (Y0+1) Y1)] (.no (.eq (Y0+1) (Y1+1))) [110] rfl hj)]];grind
    rw[<- full]
    rcases Nat.le_total (v+1) n with g|g
    ·rw[J2 g]
    ·rw[JU g]
     obtain ⟨d,hd⟩:=Jf g
     have o:=pT xs (fun j=>if j+1=v+1 then zS ((v:Int)+1) else pS xs (v+1-(j+1))) d
     rw[h.ln,<- hd] at o
     exact o.symm
   rw[hP.ps,jx,k,e]
   grind
theorem Bh(j:Nat)(x y:Int):sgI j (x+y)=sgI j x+sgI j y:=by
 unfold sgI;split
 ·exact Int.neg_add
 ·rfl
theorem Bm(j:Nat)(x:Int):sgI j (-x)=-sgI j x:=by
 unfold sgI;split <;> rfl
theorem ku(v:Nat)(x:Int):sgI (v+1) x=-sgI v x:=by
 unfold sgI
 rcases Nat.mod_two_eq_zero_or_one v with a|a
 ·rw[if_pos (show (v+1) % 2=1 by rw[Nat.add_mod,a]),if_neg (fun h=>Nat.zero_ne_one (a.symm.trans h))]
 ·rw[if_neg (fun h=>Nat.zero_ne_one ((show (v+1) % 2=0 by rw[Nat.add_mod,a]).symm.trans h)),if_pos a,Int.neg_neg]
theorem yx(d:Nat)(x:Int):∀m:Nat,sgI (m+d) (sgI m x)=sgI d x
 |0=>by rw[IF];rfl
 |m+1=>by rw[Nat.succ_add,ku,ku,Bm,Int.neg_neg,yx d x m]
theorem AF{w m:Nat}(h:m<=w)(x:Int):sgI w (sgI m x)=sgI (w-m) x:=by
 have:=yx (w-m) x m
 rwa [Nat.add_sub_cancel' h] at this
theorem Ge{L:Int}{s E:Nat->Int}{zs:List S}{w:Nat}(hs:∀j,j<=w+1->zS L^j*pS zs j=zS (s j))(ih:∀i,i<w+1->zS (sgI i (E i))=zS (fk i)*(zS L^i*eS zs i)) :
  ∀m,m<=w+1->zS (sgI w (tE s E (w+1) m))=zS (fk w)*(zS L^(w+1)*bM (fun j=>eS zs (w-j)*pS zs (j+1)) m)
 |0,_=>by rw[bQ,show sgI w (tE s E (w+1) 0)=0 by unfold sgI;split <;> rfl,zS0];grind
 |m+1,hm=>by
  have h1:=Ge hs ih m (Ic hm)
  have h2:=ih (w+1-(m+1)) (by exact oqz [w+1-(m+1),w,m] [] [(osb (Y1+1) (Y2+1) Y0)] (.le (Y0+1) (Y1+1)) [1001,101] rfl (am (w+1) (m+1)))
  have h3:=hs (m+1) hm
  have e1:=iP (zS (S:=S) L) hm
  have e2:=zf w m (by exact oqz [m,w] [] [(.le (Y0+1) (Y1+1))] (.le Y0 Y1) [11] rfl hm)
  rw[tEC,aT]
  have e3:sgI w (tE s E (w+1) m+sgI m (E (w+1-(m+1))*s (m+1)*ds (w+1-1) m))=sgI w (tE s E (w+1) m)+sgI (w+1-(m+1)) (E (w+1-(m+1)))*(s (m+1)*ds w m):=by
   rw[Nat.add_sub_cancel,Js,Bh,AF (I0 hm),II,iX]
  rw[e3,fK,h1,bY,h2,bY,<- h3,e1,<- e2,bY,show w+1-(m+1)=w-m by exact oqz [w+1-(m+1),w,m,w-m] [] [(osb (Y1+1) (Y2+1) Y0),(osb Y1 Y2 Y3)] (.eq Y0 Y3) [1000101,100001,1000011,101001,11001,101] rfl (am (w+1) (m+1)) (am (w) (m))]
  grind
theorem Hf{L:Int}{s E:Nat->Int}{zs:List S}(tf:TF S)(hE:NwE s E){M:Nat}(hs:∀j,j<=M->zS L^j*pS zs j=zS (s j)):∀ (N w:Nat),N<=M->w<=N->zS (sgI w (E w))=zS (fk w)*(zS L^w*eS zs w):=by
 intro N
 induction N with
 |zero=>intro w _ hw;rw[Kr.mp hw,hE.e0,eS0,Hr];show zS 1=zS 1*_;rw[zS1];grind
 |succ N ih =>
  intro w hM hw
  cases w with
  |zero=>exact ih 0 (by exact oqz [N,M] [] [(.le (Y0+1) Y1)] (.le Y0 Y1) [11] rfl hM) (HQ _)
  |succ v =>
   have k:=Ge (w:=v) (fun j hj=>hs j (by exact oqz [j,M,N,v] [] [(.le (Y2+1) Y1),(.le (Y3+1) (Y2+1)),(.le Y0 (Y3+1))] (.le Y0 Y1) [1111] rfl hM hw hj)) (fun i hi=>ih i (by exact oqz [N,M] [] [(.le (Y0+1) Y1)] (.le Y0 Y1) [11] rfl hM) (by exact oqz [i,N,v] [] [(.le (Y2+1) (Y1+1)),(.le (Y0+1) (Y2+1))] (.le Y0 Y1) [111] rfl hw hi)) (v+1) (Ht _)
   rw[<- hE.es] at k
   have e1:zS (S:=S) (sgI (v+1) (E (v+1)))=-zS (sgI v (E (v+1))):=by rw[ku,jx]
   have nw:=kg zs v
   have e2:bM (fun j=>eS zs (v-j)*pS zs (j+1)) (v+1)=bM (fun j=>eS zs j*pS zs (v+1-j)) (v+1):=by
    rw[mY]
    exact bN fun j hj=>by rw[show v-(v-j)=j by exact oqz [v-(v-j),v,v-j,j] [] [(.le (Y3+1) (Y1+1)),(osb Y1 Y3 Y2),(osb Y1 Y2 Y0)] (.eq Y0 Y3) [1010001,110001,1001011,101011,10001001,1000001,10000101] rfl hj (am (v) (j)) (am (v) (v-j)),show v-j+1=v+1-j by exact oqz [v-j,v,j,v+1-j] [] [(.le (Y2+1) (Y1+1)),(osb Y1 Y2 Y0),(osb (Y1+1) Y2 Y3)] (.eq (Y0+1) Y3) [10001001,10000101,1010001,100010,1001011] rfl hj (am (v) (j)) (am (v+1) (j))]
   rw[e1,k,e2,fkC,bY]
   grind
theorem Gy{L:Int}{E:Nat->Int}{zs:List S}{s:Int}{i:Nat}{u:Int}(tf:TF S)(l0:L≠0)(h:RwU L E s i u)(hE:zS (sgI i (E i))=zS (fk i)*(zS L^i*eS zs i)):zS u=zS s*eS zs i:=by
 have e:=congrArg (zS (S:=S)) h
 rw[bY,bY,bY,ir,hE] at e
 refine tf (fk i*L^i) _ _ (It (Ho (fO i)) (Int.pow_ne_zero l0)) ?_
 rw[bY,ir]
 grind
noncomputable def evS:List Int->S->S
 | [],_=>0
 |c::r,t=>zS c+t*evS r t
theorem zO(c:Int)(r:List Int)(t:S):evS (c::r) t=zS c+t*evS r t:=rfl
theorem ui(t:S):∀xs:List Int,evS xs t=bM (fun k=>zS (xs.getD k 0)*t^k) xs.length
 | []=>rfl
 |c::r=>by
  rw[zO,List.length_cons,je,JD,ui t r,<- fX,Hr]
  rw[bN (f:=fun k=>zS ((c::r).getD (k+1) 0)*t^(k+1)) (g:=fun k=>t*(zS (r.getD k 0)*t^k)) fun j _=>by rw[JY,Hn];grind]
  grind
noncomputable def mF:List S->S->S
 | [],_=>1
 |x::r,t=>(t-x)*mF r t
theorem x8(x:S)(r:List S)(t:S):mF (x::r) t=(t-x)*mF r t:=rfl
theorem s6(t:S):∀zs:List S,bM (fun i=>eS zs i*t^(zs.length-i)) (zs.length+1)=mF zs t
 | []=>by rw[List.length_nil,aT,bQ,eS0,Kf,Hr];show _=(1:S);grind
 |x::r=>by
  have ih:=s6 t r
  rw[List.length_cons,mX x r (fun i=>t^(r.length+1-i)),aT,iN r (r.length+1) (IA _)]
  rw[bN (f:=fun j=>eS r j*t^(r.length+1-j)) (g:=fun j=>t*(eS r j*t^(r.length-j))) fun j hj=>by rw[Nat.sub_add_comm (I1 hj),Hn];grind]
  rw[bN (f:=fun j=>eS r j*t^(r.length+1-(j+1))) (g:=fun j=>eS r j*t^(r.length-j)) fun j hj=>by rw[Js]]
  rw[fX,ih,x8];grind
theorem AP{xs:List Int}{zs:List S}{s:Int}(ln:xs.length=zs.length+1)(h:∀i,i<=zs.length->∃u,xs[zs.length-i]?=some u/\zS u=zS s*eS zs i)(t:S):evS xs t=zS s*mF zs t:=by
 rw[ui,ln,mY,<- s6,<- fX]
 refine bN fun j hj=>?_
 refine ac (h j (I1 hj)) fun u hu e=>?_
 rw[HB,hu,Option.getD_some,e];grind
theorem qx{t:S}:∀ {zs:List S},t∈zs->mF zs t=0
 |x::r,h=>by
  rw[x8]
  rcases HM.mp h with g|g
  ·rw[g];grind
  ·rw[qx g];grind
end
section
variable {S:Type}[Lean.Grind.CommRing S]
theorem yj{x y:S}{xs ys:List S}(hx:x∈xs)(hy:y∈ys):x+y∈x9 xs ys:=List.mem_flatMap.mpr ⟨x,hx,HP.mpr ⟨y,hy,rfl⟩⟩
theorem yD{x y:S}{xs ys:List S}(hx:x∈xs)(hy:y∈ys):x*y∈yh xs ys:=List.mem_flatMap.mpr ⟨x,hx,HP.mpr ⟨y,hy,rfl⟩⟩
theorem mW(f:S->S->S)(ys:List S):∀xs:List S,(xs.flatMap fun x=>ys.map (f x)).length=xs.length*ys.length
 | []=>(Nat.zero_mul _).symm
 |x::xs=>by rw[List.flatMap_cons,Hl,mW f ys xs,Hi,List.length_cons,Jo,IM]
variable {c1 c2 P1 P2 E:Nat->Int}{l1 l2 s:Int}{n1 n2 k:Nat}{xs ys:List S}{F:List Int}
theorem Fv(h1:RtS c1 l1 n1 xs)(h2:RtS c2 l2 n2 ys)(hP1:NwP c1 l1 n1 P1)(hP2:NwP c2 l2 n2 P2)(w:Nat):∀m,m<=w+1->zS (tS l1 l2 P1 P2 w m)=zS (l1*l2)^w*bM (fun j=>zS (bnm w j)*(pS xs j*pS ys (w-j))) m
 |0,_=>by rw[bQ];show zS 0=_;rw[zS0];grind
 |m+1,hm=>by
  have hm':=I0 hm
  rw[tSC,fK,Fv h1 h2 hP1 hP2 w m (Ic hm),aT]
  have e1:=iP (zS (S:=S) l1) hm'
  have e2:=iP (zS (S:=S) l2) hm'
  have e3:zS (S:=S) (l1*l2)^w=zS l1^w*zS l2^w:=by rw[bY,Ju]
  rw[e3,bY,bY,bY,bY,ir,ir,<- zw h1 hP1 w m hm',<- zw h2 hP2 w (w-m) (Nat.sub_le w m),e1,e2]
  grind
theorem pI{L:Int}{s':Nat->Int}{zs:List S}{x:S}(tf:TF S)(l0:L≠0)(hE:NwE s' E)(hs:∀j,zS L^j*pS zs j=zS (s' j))(hF:RwL L E s k zs.length 0 F)(hx:x∈zs):evS F x=0:=by
 rw[AP (s:=s) hF.1 (fun i hi=>?_) x,qx hx]
 ·grind
 ·refine ac (hF.2.2 i hi (HQ _)) fun u hu e=>?_
  exact ⟨u,hu,Gy tf l0 e (Hf tf hE (M:=i) (fun j _=>hs j) i i (Ht _) (Ht _))⟩
theorem wB{x y:S}(tf:TF S)(l10:0<l1)(l20:0<l2)(h1:RtS c1 l1 n1 xs)(h2:RtS c2 l2 n2 ys)(hP1:NwP c1 l1 n1 P1)(hP2:NwP c2 l2 n2 P2)(hE:NwE (fun w=>tS l1 l2 P1 P2 w (w+1)) E)(hF:RwL (l1*l2) E s k (n1*n2) 0 F)(hx:x∈xs)(hy:y∈ys):evS F (x+y)=0:=by
 refine pI (s:=s) (k:=k) (zs:=x9 xs ys) tf (Ho (HG l10 l20)) hE (fun j=>?_) ?_ (yj hx hy)
 ·rw[te,Fv h1 h2 hP1 hP2 j (j+1) (Ht _)]
 ·unfold x9;rw[mW,h1.ln,h2.ln];exact hF
theorem wQ{x y:S}(tf:TF S)(l10:0<l1)(l20:0<l2)(h1:RtS c1 l1 n1 xs)(h2:RtS c2 l2 n2 ys)(hP1:NwP c1 l1 n1 P1)(hP2:NwP c2 l2 n2 P2)(hE:NwE (fun w=>P1 w*P2 w) E)(hF:RwL (l1*l2) E s k (n1*n2) 0 F)(hx:x∈xs)(hy:y∈ys):evS F (x*y)=0:=by
 refine pI (s:=s) (k:=k) (zs:=yh xs ys) tf (Ho (HG l10 l20)) hE (fun j=>?_) ?_ (yD hx hy)
 ·rw[sI,bY,bY,Ju,<- zw h1 hP1 j j (Ht _),<- zw h2 hP2 j j (Ht _)];grind
 ·unfold yh;rw[mW,h1.ln,h2.ln];exact hF
end
section
variable {R:Type}[Lean.Grind.CommRing R]
noncomputable def act:List R->(Nat->R)->Nat->R
 | [],_,_=>0
 |c::p,u,k=>c*u k+act p u (k+1)
theorem GO(u:Nat->R)(k:Nat):act [] u k=0:=rfl
theorem e9(c:R)(p:List R)(u:Nat->R)(k:Nat):act (c::p) u k=c*u k+act p u (k+1):=rfl
noncomputable def iB:List R->List R->List R
 | [],q=>q
 |a::p,[]=>a::p
 |a::p,b::q=>(a+b)::iB p q
noncomputable def uS:List R->List R->List R
 | [],_=>[]
 |c::p,q=>iB (q.map (c*·)) (0::uS p q)
theorem bG(u:Nat->R):∀ (p q:List R) (k:Nat),act (iB p q) u k=act p u k+act q u k
 | [],q,k=>by show act q u k=0+act q u k;grind
 |a::p,[],k=>by show act (a::p) u k=act (a::p) u k+0;grind
 |a::p,b::q,k=>by show (a+b)*u k+act (iB p q) u (k+1)=_;rw[bG u p q (k+1),e9,e9];grind
theorem fZ(c:R)(u:Nat->R):∀ (p:List R) (k:Nat),act (p.map (c*·)) u k=c*act p u k
 | [],k=>by show (0:R)=c*0;grind
 |a::p,k=>by rw[Hw,e9,e9,fZ c u p (k+1)];grind
theorem aY(q:List R)(u:Nat->R):∀ (p:List R) (k:Nat),act (uS p q) u k=act p (act q u) k
 | [],k=>rfl
 |c::p,k=>by show act (iB (q.map (c*·)) (0::uS p q)) u k=_;rw[bG,fZ,e9,e9,aY q u p (k+1)];grind
theorem iH(c:R)(u v:Nat->R):∀ (p:List R) (k:Nat),act p (fun k=>c*u k+v k) k=c*act p u k+act p v k
 | [],k=>by show (0:R)=c*0+0;grind
 |a::p,k=>by rw[e9,e9,e9,iH c u v p (k+1)];grind
theorem wA(u:Nat->R):∀ (p:List R) (k:Nat),act p (fun k=>u (k+1)) k=act p u (k+1)
 | [],k=>rfl
 |a::p,k=>by rw[e9,e9,wA u p (k+1)]
theorem iT(q:List R)(u:Nat->R):∀ (p:List R) (k:Nat),act p (act q u) k=act q (act p u) k
 | [],k=>by
  have:act ([]:List R) u=fun k=>0*u k+(fun _=>(0:R)) k:=funext fun k=>by show (0:R)=0*u k+0;grind
  have z:∀ (q:List R) (k:Nat),act q (fun _=>(0:R)) k=0:=fun q=>by
   induction q with
   |nil=>intro k;rfl
   |cons c q ih=>intro k;rw[e9,ih];grind
  rw[this,iH,z];show (0:R)=_;grind
 |c::p,k=>by
  rw[e9,iT q u p (k+1),show act (c::p) u=fun k=>c*u k+(fun k=>act p u (k+1)) k from rfl,iH,wA (act p u)]
noncomputable def VV(f:List R)(u:Nat->R):Prop:=∀k,act f u k=0
theorem VV.act{f:List R}{u:Nat->R}(h:VV f u)(p:List R):VV f (Mine.act p u):=fun k=>by
 rw[iT,show Mine.act f u=fun k=>0*u k+(fun _=>(0:R)) k from funext fun k=>by rw[h k];grind,iH]
 have z:∀ (q:List R) (k:Nat),Mine.act q (fun _=>(0:R)) k=0:=fun q=>by
  induction q with
  |nil=>intro k;rfl
  |cons c q ih=>intro k;rw[e9,ih];grind
 rw[z];grind
noncomputable def exS(f:List R):Setoid (List R):=⟨fun p q=>∀u,VV f u->∀k,act p u k=act q u k,fun _ _ _ _=>rfl,fun h u hu k=>(h u hu k).symm,fun h g u hu k=>(h u hu k).trans (g u hu k)⟩
noncomputable def Ext(f:List R):Type:=Quotient (exS f)
variable {f:List R}
noncomputable def exk(f p:List R):Ext f:=Quotient.mk (exS f) p
theorem cC{p q:List R}(h:∀u,VV f u->∀k,act p u k=act q u k):exk f p=exk f q:=Ke (s:=exS f) h
theorem bF{P:Ext f->Prop}(h:∀p,P (exk f p)):∀x,P x:=Quotient.ind h
noncomputable def Ca:Ext f->Ext f->Ext f:=Quotient.lift₂ (fun p q=>exk f (iB p q)) fun p q p' q' h g=>cC fun u hu k=>by rw[bG,bG,h u hu k,g u hu k]
noncomputable def sZ:Ext f->Ext f->Ext f:=Quotient.lift₂ (fun p q=>exk f (uS p q)) fun p q p' q' h g=>cC fun u hu k=>by
 rw[aY,aY,show act q u=act q' u from funext (g u hu)]
 exact h _ (hu.act q') k
noncomputable def BG:Ext f->Ext f:=Quotient.lift (fun p=>exk f (p.map (-1*·))) fun p q h=>cC fun u hu k=>by rw[fZ,fZ,h u hu k]
noncomputable def Cm(x:Ext f):Nat->Ext f
 |0=>exk f [1]
 |n+1=>sZ (Cm x n) x
theorem dw(c:R)(u:Nat->R)(k:Nat):act [c] u k=c*u k:=by rw[e9,GO];grind
noncomputable abbrev js (f:List R):Lean.Grind.CommRing (Ext f) where
  add:=Ca
  mul:=sZ
  neg:=BG
  sub:=fun x y=>Ca x (BG y)
  natCast:=⟨fun n=>exk f [OfNat.ofNat n]⟩
  ofNat:=fun n=>⟨exk f [OfNat.ofNat n]⟩
  nsmul:=⟨fun n x=>sZ (exk f [OfNat.ofNat n]) x⟩
  npow:=⟨Cm⟩
  intCast:=⟨fun n=>exk f [zS n]⟩
  zsmul:=⟨fun n x=>sZ (exk f [zS n]) x⟩
  add_zero:=bF fun p=>cC fun u _ k=>by rw[bG,dw];grind
  add_comm:=bF fun p=>bF fun q=>cC fun u _ k=>by rw[bG,bG];grind
  add_assoc:=bF fun p=>bF fun q=>bF fun r=>cC fun u _ k=>by rw[bG,bG,bG,bG];grind
  mul_assoc:=bF fun p=>bF fun q=>bF fun r=>cC fun u _ k=>by
   rw[aY,aY,aY];congr 1;exact funext fun k=>(aY r u q k).symm
  mul_one:=bF fun p=>cC fun u _ k=>by rw[aY,show act [(1:R)] u=u from funext fun k=>by rw[dw];grind]
  one_mul:=bF fun p=>cC fun u _ k=>by rw[aY,dw];grind
  left_distrib:=bF fun p=>bF fun q=>bF fun r=>cC fun u _ k=>by
   rw[aY,bG,aY,aY,show act (iB q r) u=fun k=>1*act q u k+act r u k from funext fun k=>by rw[bG];grind,iH];grind
  right_distrib:=bF fun p=>bF fun q=>bF fun r=>cC fun u _ k=>by rw[aY,bG,bG,aY,aY]
  zero_mul:=bF fun p=>cC fun u _ k=>by rw[aY,dw,dw];grind
  mul_zero:=bF fun p=>cC fun u _ k=>by rw[aY,iT,dw,dw];grind
  mul_comm:=bF fun p=>bF fun q=>cC fun u _ k=>by rw[aY,aY,iT]
  pow_zero:=fun _=>rfl
  pow_succ:=fun _ _=>rfl
  ofNat_succ:=fun n=>cC fun u _ k=>by rw[bG,dw,dw,dw,Lean.Grind.Semiring.ofNat_succ];grind
  ofNat_eq_natCast:=fun _=>rfl
  nsmul_eq_natCast_mul:=fun _ _=>rfl
  neg_add_cancel:=bF fun p=>cC fun u _ k=>by rw[bG,fZ,dw];grind
  sub_eq_add_neg:=fun _ _=>rfl
  neg_zsmul:=fun i=>bF fun p=>cC fun u _ k=>by rw[aY,fZ,aY,dw,dw,jx];grind
  zsmul_natCast_eq_nsmul:=fun n=>bF fun p=>cC fun u _ k=>by rw[aY,aY,dw,dw];congr 1;exact Lean.Grind.Ring.intCast_ofNat n
  intCast_ofNat:=fun n=>cC fun u _ k=>by rw[dw,dw];congr 1;exact Lean.Grind.Ring.intCast_ofNat n
  intCast_neg:=fun i=>cC fun u _ k=>by rw[fZ,dw,dw,jx];grind
end
structure Hm {R S:Type}[Lean.Grind.CommRing R][Lean.Grind.CommRing S](ι:R->S):Prop where
 add:∀x y,ι (x+y)=ι x+ι y
 mul:∀x y,ι (x*y)=ι x*ι y
 one:ι 1=1
 inj:∀x,ι x=0->x=0
section
variable {R S T:Type}[Lean.Grind.CommRing R][Lean.Grind.CommRing S][Lean.Grind.CommRing T]{ι:R->S}{κ:S->T}
theorem Hm.zero(h:Hm ι):ι 0=0:=by
 have:=h.add 0 0
 rw[show (0:R)+0=0 by grind] at this
 grind
theorem Hm.neg(h:Hm ι)(x:R):ι (-x)=-ι x:=by
 have:=h.add (-x) x
 rw[show -x+x=0 by grind,h.zero] at this
 grind
theorem Hm.sub(h:Hm ι)(x y:R):ι (x-y)=ι x-ι y:=by rw[show x-y=x+-y by grind,h.add,h.neg];grind
theorem Hm.zS(h:Hm ι):∀n:Int,ι (zS n)=zS n:=by
 have nat:∀n:Nat,ι (Mine.zS (n:Int))=Mine.zS (n:Int):=fun n=>by
  induction n with
  |zero=>rw[show ((0:Nat):Int)=0 from rfl,zS0,zS0,h.zero]
  |succ n ih=>rw[show ((n+1:Nat):Int)=(n:Int)+1 from rfl,fK,fK,h.add,ih,zS1,zS1,h.one]
 intro n
 rcases Int.le_total 0 n with g|g
 ·obtain ⟨m,rfl⟩:=Int.eq_ofNat_of_zero_le g;exact nat m
 ·obtain ⟨m,hm⟩:=Int.eq_ofNat_of_zero_le (show 0<=-n by exact oqz [] [n] [(.il Y0 0)] (.il 0 (.g Y0)) [11] rfl g)
  rw[show n=-(m:Int) by exact oqz [m] [n] [(.ie (.g Y0) (.c Y0))] (.ie Y0 (.g (.c Y0))) [11,101] rfl hm,jx,jx,h.neg,nat m]
theorem Hm.comp(h:Hm ι)(g:Hm κ):Hm fun x=>κ (ι x):=⟨fun x y=>by rw[h.add,g.add],fun x y=>by rw[h.mul,g.mul],by rw[h.one,g.one],fun x hx=>h.inj x (g.inj _ hx)⟩
theorem CE:Hm (fun x:R=>x):=⟨fun _ _=>rfl,fun _ _=>rfl,rfl,fun _ h=>h⟩
end
section
variable {R:Type}[Lean.Grind.CommRing R]
noncomputable def hq(x h:R):List R->List R
 | []=>[]
 | [_]=>[]
 |e::d::r=>(e+x*h)::hq x (e+x*h) (d::r)
noncomputable def hl(x h:R):List R->R
 | []=>h
 |e::r=>hl x (e+x*h) r
theorem hq2(x h e d:R)(r:List R):hq x h (e::d::r)=(e+x*h)::hq x (e+x*h) (d::r):=rfl
theorem hlC(x h e:R)(r:List R):hl x h (e::r)=hl x (e+x*h) r:=rfl
theorem rc(x:R):∀ (r:List R) (h e:R),(hq x h (e::r)).length=r.length
 | [],_,_=>rfl
 |d::r,h,e=>by rw[hq2,List.length_cons,rc x r,List.length_cons]
end
noncomputable def Spl{S:Type}[Lean.Grind.CommRing S](xs ds:List S):Prop:=xs.length=ds.length/\∀j,j<ds.length->eS xs (j+1)=ds.getD j 0
section
variable {R S:Type}[Lean.Grind.CommRing R][Lean.Grind.CommRing S]{ι:R->S}
theorem x4(hi:Hm ι){x:R}{xs:List S}:∀ (r:List R) (e h:R) (m:Nat),xs.length=m+r.length->eS xs m=ι h->(∀j,j<r.length->eS xs (m+1+j)=ι ((hq x h (e::r)).getD j 0))->hl x h (e::r)=0->∀j,j<r.length+1->eS (ι x::xs) (m+1+j)=ι ((e::r).getD j 0)
 | [],e,h,m,hl',h0,_,hz,j,hj=>by
  obtain rfl:j=0:=Nat.lt_one_iff.mp hj
  have hz':e+x*h=0:=hz
  rw[Nat.add_zero,eSC,h0,iN xs (m+1) (by rw[hl'];exact IA m),JD,show e=-(x*h) by grind,hi.neg,hi.mul];grind
 |d::r,e,h,m,hl',h0,hj',hz,j,hj=>by
  rw[hq2] at hj'
  have h1:=hj' 0 (JW _)
  rw[Nat.add_zero,JD] at h1
  cases j with
  |zero=>rw[Nat.add_zero,eSC,h1,h0,JD,hi.add,hi.mul];grind
  |succ j =>
   have:=x4 hi r d (e+x*h) (m+1) (by rw[hl',List.length_cons];exact oqz [m,r.length] [] [] (.eq (Y0+(Y1+1)) (Y0+1+Y1)) [1] rfl) h1 (fun i hi'=>by
    have:=hj' (i+1) (Nat.succ_lt_succ hi')
    rw[JY] at this
    rw[<- this];congr 1;exact oqz [m,i] [] [] (.eq (Y0+1+1+Y1) (Y0+1+(Y1+1))) [1] rfl) hz j (J8 hj)
   rw[JY,<- this];congr 1;exact oqz [m,j] [] [] (.eq (Y0+1+(Y1+1)) (Y0+1+1+Y1)) [1] rfl
theorem kH(hi:Hm ι){x e:R}{r:List R}{xs:List S}(h:Spl xs ((hq x 1 (e::r)).map ι))(hz:hl x 1 (e::r)=0):Spl (ι x::xs) ((e::r).map ι):=by
 obtain ⟨h1,h2⟩:=h
 rw[Hi,rc] at h1 h2
 refine ⟨by rw[List.length_cons,h1,Hi,List.length_cons],fun j hj=>?_⟩
 rw[Hi,List.length_cons] at hj
 have gd:∀ (l:List R) (j:Nat),(l.map ι).getD j 0=ι (l.getD j 0):=fun l j=>by
  rw[HB,HB,HL]
  cases l[j]? with
  |none=>exact hi.zero.symm
  |some _=>rfl
 have:=x4 hi r e 1 0 (by rw[h1,IF]) (by rw[eS0,hi.one]) (fun i hi'=>by rw[<- gd,<- h2 i hi'];congr 1;exact oqz [i] [] [] (.eq (1+Y0) (Y0+1)) [1] rfl) hz j hj
 rw[gd,<- this];congr 1;exact oqz [j] [] [] (.eq (Y0+1) (1+Y0)) [1] rfl
end
section
variable {R:Type}[Lean.Grind.CommRing R]
theorem uI(q:List R)(u:Nat->R):∀ (p:List R) (k:Nat),act (p++q) u k=act p u k+act q u (k+p.length)
 | [],k=>by show act q u k=0+act q u k;grind
 |c::p,k=>by
  rw[List.cons_append,e9,e9,uI q u p (k+1),List.length_cons,show k+1+p.length=k+(p.length+1) by exact oqz [k,p.length] [] [] (.eq (Y0+1+Y1) (Y0+(Y1+1))) [1] rfl];grind
theorem mf{u w:Nat->R}:∀ {p:List R}{k m:Nat},(∀i,i<p.length->u (k+i)=w (m+i))->act p u k=act p w m
 | [],_,_,_=>rfl
 |c::p,k,m,h=>by
  rw[e9,e9,show u k=w m from h 0 (JW _),mf (p:=p) (k:=k+1) (m:=m+1) fun i hi=>?_]
  have:=h (i+1) (Nat.succ_lt_succ hi)
  rw[show k+1+i=k+(i+1) by exact oqz [k,i] [] [] (.eq (Y0+1+Y1) (Y0+(Y1+1))) [1] rfl,show m+1+i=m+(i+1) by exact oqz [m,i] [] [] (.eq (Y0+1+Y1) (Y0+(Y1+1))) [1] rfl];exact this
noncomputable def sgq(fs:List R):Nat->Nat->R
 |0,i=>if i=0 then 1 else 0
 |k+1,i=>if i+1=fs.length then -(act fs (sgq fs k) 0) else sgq fs k (i+1)
theorem r9(fs:List R):∀ (i k:Nat),i<fs.length->sgq fs k i=sgq fs (k+i) 0
 |0,k,_=>rfl
 |i+1,k,h=>by
  have:=r9 fs i (k+1) (Nat.lt_of_succ_lt h)
  rw[show sgq fs (k+1) i=if i+1=fs.length then -(act fs (sgq fs k) 0) else sgq fs k (i+1) from rfl,if_neg (by exact oqz [i,fs.length] [] [(.le (Y0+1+1) Y1)] (.no (.eq (Y0+1) Y1)) [110] rfl h)] at this
  rw[this];congr 1;exact oqz [k,i] [] [] (.eq (Y0+1+Y1) (Y0+(Y1+1))) [1] rfl
theorem EX{fs:List R}(h:1<=fs.length):VV (fs++[1]) fun k=>sgq fs k 0:=fun k=>by
 obtain ⟨m,hm⟩:∃m,fs.length=m+1:=⟨fs.length-1,by exact oqz [fs.length,fs.length-1] [] [(.le 1 Y0),(osb Y0 1 Y1)] (.eq Y0 (Y1+1)) [10001,1011,1001,101] rfl h (am (fs.length) (1))⟩
 rw[uI,dw,mf (w:=sgq fs k) (m:=0) fun i hi=>by rw[<- r9 fs i k hi,IF]]
 have e:=r9 fs m (k+1) (by exact oqz [m,fs.length] [] [(.eq Y1 (Y0+1))] (.le (Y0+1) Y1) [101] rfl hm)
 rw[show sgq fs (k+1) m=if m+1=fs.length then -(act fs (sgq fs k) 0) else sgq fs k (m+1) from rfl,if_pos hm.symm] at e
 rw[hm,show k+(m+1)=k+1+m by exact oqz [k,m] [] [] (.eq (Y0+(Y1+1)) (Y0+1+Y1)) [1] rfl,<- e];grind
theorem FA{fs:List R}(h:1<=fs.length):@Hm R (Ext (fs++[1])) _ (js _) fun c=>exk _ [c]:=by
 letI:=js (fs++[(1:R)])
 refine ⟨fun x y=>?_,fun x y=>?_,rfl,fun x hx=>?_⟩
 ·exact cC (p:=[x+y]) (q:=iB [x] [y]) fun u _ k=>by rw[bG,dw,dw,dw];grind
 ·exact cC (p:=[x*y]) (q:=uS [x] [y]) fun u _ k=>by rw[aY,dw,dw,dw];grind
 ·have:=Quotient.exact (s:=exS (fs++[(1:R)])) (show exk (fs++[(1:R)]) [x]=exk (fs++[(1:R)]) [0] from hx) _ (EX h) 0
  rw[dw,dw] at this
  have e:sgq fs 0 0=1:=rfl
  rw[e] at this
  grind
theorem Cv(f:List R):∀ (ds q:List R),@hl (Ext f) (js f) (exk f [0,1]) (exk f q) (ds.map fun c=>exk f [c])=exk f (ds.reverse++q)
 | [],q=>rfl
 |e::r,q=>by
  letI:=js f
  rw[Hw,hlC,Jz,Hv,Kg,<- Cv f r (e::q)]
  congr 1
  exact (cC (p:=e::q) (q:=iB [e] (uS [0,1] q)) fun u _ k=>by rw[bG,aY,dw,e9,e9,dw];grind).symm
theorem zA(ds:List R):@hl (Ext (ds.reverse++[1])) (js _) (exk _ [0,1]) (exk _ [1]) (ds.map fun c=>exk _ [c])=exk _ [0]:=by
 rw[Cv]
 exact cC fun u hu k=>by rw[hu k,dw];grind
end
theorem nh:∀ (n:Nat) (R:Type) (iR:Lean.Grind.CommRing R) (ds:List R),ds.length=n->∃ (S:Type) (iS:Lean.Grind.CommRing S) (ι:R->S),Hm ι/\∃xs:List S,Spl xs (ds.map ι)
 |0,R,iR,ds,h=>⟨R,iR,fun x=>x,CE,[],by rw[Hi,h];rfl,fun j hj=>by rw[Hi,h] at hj;exact absurd hj (Nat.not_lt_zero j)⟩
 |n+1,R,iR,ds,h=>by
  match ds,h with
  |e::r,h =>
   letI:=js ((e::r).reverse++[(1:R)])
   have hm:=FA (fs:=(e::r).reverse) (by rw[Ih];exact JW _)
   have hr:=zA (e::r)
   obtain ⟨S,iS,ι,hi,xs,hx⟩:=nh n (Ext ((e::r).reverse++[(1:R)])) inferInstance (hq (exk _ [0,1]) 1 ((e::r).map fun c=>exk _ [c])) (by rw[Hw,rc,Hi];exact IW h)
   refine ⟨S,iS,fun c=>ι (exk _ [c]),hm.comp hi,ι (exk _ [0,1])::xs,?_⟩
   have:=kH hi (x:=exk ((e::r).reverse++[(1:R)]) [0,1]) (e:=exk _ [e]) (r:=r.map fun c=>exk _ [c]) hx hr
   rw[<- Hw (f:=fun c=>exk ((e::r).reverse++[(1:R)]) [c]),Ia] at this
   exact this
section
variable {R S:Type}[Lean.Grind.CommRing R][Lean.Grind.CommRing S]{ι:R->S}
theorem qJ(hi:Hm ι):∀ (xs:List R) (k:Nat),eS (xs.map ι) k=ι (eS xs k)
 | [],0=>hi.one.symm
 | [],k+1=>hi.zero.symm
 |x::r,0=>hi.one.symm
 |x::r,k+1=>by rw[Hw,eSC,eSC,qJ hi r,qJ hi r,hi.sub,hi.mul]
theorem Spl.map(hi:Hm ι){xs ds:List R}(h:Spl xs ds):Spl (xs.map ι) (ds.map ι):=by
 refine ⟨by rw[Hi,Hi,h.1],fun j hj=>?_⟩
 rw[Hi] at hj
 rw[qJ hi,h.2 j hj,HB,HB,HL,Hx hj];rfl
theorem wG(hi:Hm ι)(x:R):∀ (ds:List R) (h:R),hl (ι x) (ι h) (ds.map ι)=ι (hl x h ds)
 | [],h=>rfl
 |e::r,h=>by rw[Hw,hlC,hlC,<- hi.mul,<- hi.add,wG hi x r]
theorem tO(x c:R):∀ (ds:List R) (h:R),hl x (c*h) (ds.map (c*·))=c*hl x h ds
 | [],h=>rfl
 |e::r,h=>by rw[Hw,hlC,hlC,<- tO x c r];congr 1;grind
theorem nI(hi:Hm ι)(x:R):∀F:List Int,evS F (ι x)=ι (evS F x)
 | []=>hi.zero.symm
 |c::r=>by rw[zO,zO,hi.add,hi.mul,hi.zS,nI hi x r]
end
open Re
theorem BN(a:Re):∀ (cs q:List Int),hl a (evR q a) (cs.map fun (c:Int)=>(c:Re))=evR (cs.reverse++q) a
 | [],q=>rfl
 |e::r,q=>by rw[Hw,hlC,Jz,Hv,Kg,<- BN a r (e::q),aO]
noncomputable def dsR(A0:List Int)(l:Int):List Re:=A0.reverse.map fun c=>rq c l
theorem tW{A0:List Int}{l:Int}{a:Re}(l0:l≠0)(h:evR (A0++[l]) a=0):hl a 1 (dsR A0 l)=0:=by
 have e:=BN a A0.reverse [l]
 rw[List.reverse_reverse,h,aO,d3] at e
 have e2:=tO a (l:Re) (dsR A0 l) 1
 have e3:(dsR A0 l).map ((l:Re)*·)=A0.reverse.map fun (c:Int)=>(c:Re):=by
  unfold dsR
  rw[Ia]
  exact Jj fun c _=>bI l0
 rw[e3,show (l:Re)*1=(l:Re)+a*0 by grind,e] at e2
 exact bE (x:=(l:Re)) e2.symm (fv l0)
theorem wZ(F:List Int)(x:Re):evS F x=evR F x:=by
 induction F with
 |nil=>rfl
 |cons c r ih=>rw[zO,ih,aO]
noncomputable def tpC(A0:List Int)(l:Int):Nat->Int
 |0=>l
 |j+1=>A0.reverse.getD j 0
theorem yO{S:Type}[Lean.Grind.CommRing S]{κ:Re->S}(hk:Hm κ){A0:List Int}{l:Int}(l0:l≠0){xs:List S}(h:Spl xs ((dsR A0 l).map κ)):RtS (tpC A0 l) l A0.length xs:=by
 have hl:((dsR A0 l).map κ).length=A0.length:=by unfold dsR;rw[Hi,Hi,Ih]
 refine ⟨by rw[h.1,hl],fun j hj=>?_⟩
 cases j with
 |zero=>rw[eS0];show zS l=_;grind
 |succ j =>
  have hj':j<A0.reverse.length:=by rw[Ih];exact oqz [j,A0.length] [] [(.le (Y0+1) Y1)] (.le (Y0+1) Y1) [11] rfl hj
  have h2:=h.2 j (by rw[hl];exact oqz [j,A0.length] [] [(.le (Y0+1) Y1)] (.le (Y0+1) Y1) [11] rfl hj)
  unfold dsR at h2
  rw[Ia,HB,HL,Hx hj'] at h2
  rw[h2]
  show zS (A0.reverse.getD j 0)=zS l*κ (rq (A0.reverse[j]) l)
  rw[<- hk.zS l,<- hk.mul,HB,Hx hj']
  rw[show zS (S:=Re) l*rq (A0.reverse[j]) l=zS (A0.reverse[j]) from bI l0,hk.zS];rfl
theorem BZ{S:Type}[Lean.Grind.CommRing S]{κ:Re->S}(hk:Hm κ):TF S:=fun n x y hn h=>by
 have e:κ (rq 1 n)*zS n=1:=by
  rw[<- hk.zS n,<- hk.mul,<- hk.one];congr 1
  rw[Jq];exact bI hn
 have h2:=congrArg (κ (rq 1 n)*·) h
 rw[<- JC,<- JC,e] at h2
 grind
theorem mo{A0 B0:List Int}{l m:Int}{a b:Re}(l0:l≠0)(m0:m≠0)(hA:A0≠[])(hB:B0≠[])(ha:evR (A0++[l]) a=0)(hb:evR (B0++[m]) b=0) :
  ∃ (S:Type) (iS:Lean.Grind.CommRing S) (κ:Re->S),Hm κ/\∃xs ys:List S,RtS (tpC A0 l) l A0.length xs/\RtS (tpC B0 m) m B0.length ys/\κ a∈xs/\κ b∈ys:=by
 have ha':=tW l0 ha
 have hb':=tW m0 hb
 have hm:=CE (R:=Re)
 have ne:∀ {A0:List Int}{l:Int},A0≠[]->∃e r,dsR A0 l=e::r:=fun {A0 l} h=>by
  cases hd:dsR A0 l with
  |nil =>
   have:=congrArg List.length hd
   unfold dsR at this
   rw[Hi,Ih] at this
   exact absurd (Io this) h
  |cons e r=>exact ⟨e,r,rfl⟩
 refine jH (ne (l:=l) hA) fun e r hd=>?_
 refine jH (ne (l:=m) hB) fun e' r' hd'=>?_
 rw[hd] at ha'
 rw[hd'] at hb'
 obtain ⟨S1,i1,ι1,h1,xs,hx⟩:=nh _ Re inferInstance (hq a 1 (e::r)) rfl
 have X:=kH h1 hx ha'
 have hb2:=wG h1 b (e'::r') 1
 rw[hb',h1.zero,h1.one,Hw] at hb2
 obtain ⟨S2,i2,ι2,h2,ys,hy⟩:=nh _ S1 i1 (hq (ι1 b) 1 (ι1 e'::r'.map ι1)) rfl
 have Y:=kH h2 hy hb2
 have hc:=h1.comp h2
 refine ⟨S2,i2,fun x=>ι2 (ι1 x),hc,(ι1 a::xs).map ι2,ι2 (ι1 b)::ys,yO hc l0 ?_,yO hc m0 ?_,HP.mpr ⟨_,Hy,rfl⟩,Hy⟩
 ·rw[hd]
  have:=X.map h2
  rw[Ia] at this
  exact this
 ·rw[hd']
  rw[<- Hw (f:=ι1),Ia] at Y
  exact Y
section
variable {A0 B0 F:List Int}{l m s:Int}{a b:Re}{P1 P2 E:Nat->Int}{k:Nat}
theorem vA(l0:0<l)(m0:0<m)(hA:A0≠[])(hB:B0≠[])(ha:evR (A0++[l]) a=0)(hb:evR (B0++[m]) b=0)(h1:NwP (tpC A0 l) l A0.length P1)(h2:NwP (tpC B0 m) m B0.length P2)(hE:NwE (fun w=>tS l m P1 P2 w (w+1)) E)(hF:RwL (l*m) E s k (A0.length*B0.length) 0 F):evR F (a+b)=0:=by
 obtain ⟨S,iS,κ,hk,xs,ys,X,Y,ma,mb⟩:=mo (Ho l0) (Ho m0) hA hB ha hb
 have:=wB (BZ hk) l0 m0 X Y h1 h2 hE hF ma mb
 rw[<- hk.add,nI hk,wZ] at this
 exact hk.inj _ this
theorem uR(l0:0<l)(m0:0<m)(hA:A0≠[])(hB:B0≠[])(ha:evR (A0++[l]) a=0)(hb:evR (B0++[m]) b=0)(h1:NwP (tpC A0 l) l A0.length P1)(h2:NwP (tpC B0 m) m B0.length P2)(hE:NwE (fun w=>P1 w*P2 w) E)(hF:RwL (l*m) E s k (A0.length*B0.length) 0 F):evR F (a*b)=0:=by
 obtain ⟨S,iS,κ,hk,xs,ys,X,Y,ma,mb⟩:=mo (Ho l0) (Ho m0) hA hB ha hb
 have:=wQ (BZ hk) l0 m0 X Y h1 h2 hE hF ma mb
 rw[<- hk.mul,nI hk,wZ] at this
 exact hk.inj _ this
end
end Mine
namespace Mine
open PySem Re
structure PP (x:Re)(p q:Int):Prop where
 l:Low 1470000 p q
 v:(q:Re)*x=p
theorem Dl{z w1 w2:Re}(h1:z*w1<=((2^450:Int):Re))(h2:z*w2<=((2^450:Int):Re)):z*(w1+w2)<=((2^660:Int):Re):=by
 have k:=aZ (show (2^450+2^450:Int)<=2^660 by decide)
 rw[bq] at k
 generalize ((2^450:Int):Re)=C at *
 generalize ((2^660:Int):Re)=D at *
 grind
section
variable {sub:Nat->Nat->Bool}{P:List Fn}{n:Nat}{H:Hp}{Q:V->Hp->Prop}{X:Nat->Hp->Prop}{W:Nat->Prop}{NN:Loc->Hp->Prop}{R:V->Hp->Prop}{Y:Nat->Hp->Prop}
theorem Aj(zT:TT P){A B:List Int}{N M:Int}{a b:Re}{j:Nat}{u v:V}(hj:j<=182700)(hu:g9 A N a j u)(hv:g9 B M b j v)
  (hQ:∀lo hi p1 q1 p2 q2 H',H<+:H'->Ab (a+b) lo hi p1 q1 p2 q2->((2^j:Int):Re)*(hi-lo)<=((2^660:Int):Re)->Q (.tup [pt p1 q1,pt p2 q2]) H'):ag sub P (n+4) 27 [u,v] H Q X:=by
 obtain ⟨lo1,hi1,x1,y1,x2,y2,d1,rfl⟩:=hu
 obtain ⟨lo2,hi2,z1,w1,z2,w2,d2,rfl⟩:=hv
 refine aj zT.a27 rfl ?_
 dsimp only[yV,qS1,qS2,qS9,qE1,qE5,aS,aV,dW,aC,aD,dQ,dP,aB,az,aw,av,aA,au,aa,ah,Nat.reduceSub]
 refine oJ zT (d1.low1 hj) (d2.low1 hj) (by decide) fun p1 q1 L1 h1=>?_
 refine oJ zT (d1.low2 hj) (d2.low2 hj) (by decide) fun p2 q2 L2 h2=>?_
 have r1:=d1.l;have r2:=d2.l;have r3:=d1.u;have r4:=d2.u
 refine hQ (lo1+lo2) (hi1+hi2) _ _ _ _ _ (JV _) ⟨L1.mono (by decide),L2.mono (by decide),fY d1.a1.pos d2.a1.pos d1.a1.val d2.a1.val h1,fY d1.a2.pos d2.a2.pos d1.a2.val d2.a2.val h2,by clear h1 h2;grind,by clear h1 h2;grind⟩ ?_
 rw[show hi1+hi2-(lo1+lo2)=(hi1-lo1)+(hi2-lo2) by grind]
 exact Dl d1.wd d2.wd
theorem FV(zT:TT P){x y:Re}{p1 q1 p2 q2:Int}(a:PP x p1 q1)(b:PP y p2 q2)(h1:x<y->Q (.bool true) H)(h2:¬ x<y->Q (.bool false) H):ag sub P (n+1) 2 [pt p1 q1,pt p2 q2] H Q X:=by
 refine uJ zT (Mine.IntMulOk.sum a.l.top b.l.bot (by decide)) (Mine.IntMulOk.sum b.l.top a.l.bot (by decide)) ?_
 have:=ou a.l.pos b.l.pos a.v b.v
 by_cases h:x<y
 ·rw[decide_eq_true (this.mpr h)];exact h1 h
 ·rw[decide_eq_false (fun k=>h (this.mp k))];exact h2 h
structure MM (cs:List Re)(xl xh:Re)(l1 l2 h1 h2:Int):Prop where
 pl:PP xl l1 l2
 ph:PP xh h1 h2
 le:∀c∈cs,xl<=c/\c<=xh
 ml:xl∈cs
 mh:xh∈cs
theorem Bz(zT:TT P){o0 o1 o2 o3 o4:Option V}{cs:List Re}{xl xh xc:Re}{l1 l2 h1 h2 c1 c2:Int}(m:MM cs xl xh l1 l2 h1 h2)(pc:PP xc c1 c2)
  (k:∀xl' xh' l1' l2' h1' h2',MM (xc::cs) xl' xh' l1' l2' h1' h2'->NN [o0,o1,o2,o3,o4,some (pt l1' l2'),some (pt h1' h2'),some (pt c1 c2)] H) :
  wpS sub (ag sub P (n+1)) W (xC 2) [o0,o1,o2,o3,o4,some (pt l1 l2),some (pt h1 h2),some (pt c1 c2)] H NN R Y:=by
 have key:∀xl' l1' l2',PP xl' l1' l2'->xl'∈xc::cs->xl'<=xc->xl'<=xl->wpS sub (ag sub P (n+1)) W (Bb 2) [o0,o1,o2,o3,o4,some (pt l1' l2'),some (pt h1 h2),some (pt c1 c2)] H NN R Y:=fun xl' l1' l2' p1 hm hc hl=>by
  dsimp only[Bb,qS1,qS2,qS3,bC,qE5,aS,aC,aD,aa,ah,aE]
  refine FV zT m.ph pc (fun h=>?_) fun h=>?_
  ·dsimp only[aU,bw,aa]
   refine k xl' xc _ _ _ _ ⟨p1,pc,fun c hc'=>?_,hm,Hy⟩
   rcases HM.mp hc' with g|g
   ·rw[g];exact ⟨hc,IH _⟩
   ·exact ⟨dp hl (m.le c g).1,dp (m.le c g).2 (fq h)⟩
  ·dsimp only[aU,bK,aa]
   refine k xl' xh _ _ _ _ ⟨p1,m.ph,fun c hc'=>?_,hm,Hz _ m.mh⟩
   rcases HM.mp hc' with g|g
   ·rw[g];exact ⟨hc,FF h⟩
   ·exact ⟨dp hl (m.le c g).1,(m.le c g).2⟩
 dsimp only[xC]
 generalize Bb 2=T at *
 dsimp only[qS1,qS2,qS3,bC,qE5,aS,aC,aD,aa,ah,aE]
 refine FV zT pc m.pl (fun h=>?_) fun h=>?_
 ·dsimp only[aU,bw,aa]
  exact key xc _ _ pc Hy (IH _) (fq h)
 ·dsimp only[aU,bK,aa]
  exact key xl _ _ m.pl (Hz _ m.ml) (FF h) (IH _)
theorem tX(zT:TT P){o0 o1 o2 o3 o4:Option V}:∀ (rest:List (Re × Int × Int)) (cs:List Re) (xl xh:Re) (l1 l2 h1 h2:Int) (o7:Option V),(∀c∈rest,PP c.1 c.2.1 c.2.2)->MM cs xl xh l1 l2 h1 h2 ->
  (∀xl xh l1 l2 h1 h2 o7,MM ((rest.map (·.1)).reverse++cs) xl xh l1 l2 h1 h2->NN [o0,o1,o2,o3,o4,some (pt l1 l2),some (pt h1 h2),o7] H) ->
  cY (fun ρ2 H2 k=>wpS sub (ag sub P (n+1)) W (xC 2) ρ2 H2 k R Y) 7 (rest.map fun c=>pt c.2.1 c.2.2) [o0,o1,o2,o3,o4,some (pt l1 l2),some (pt h1 h2),o7] H NN
 | [],cs,xl,xh,l1,l2,h1,h2,o7,_,m,k=>k xl xh l1 l2 h1 h2 o7 m
 |c::rest,cs,xl,xh,l1,l2,h1,h2,o7,hp,m,k=>Bz zT m (hp c Hy) fun xl' xh' l1' l2' h1' h2' m' =>
   tX zT rest (c.1::cs) xl' xh' l1' l2' h1' h2' _ (fun d hd=>hp d (Hz _ hd)) m' fun xl xh l1 l2 h1 h2 o7 m''=>k xl xh l1 l2 h1 h2 o7 (by rw[Hw,Jz,Hv];exact m'')
theorem z9{lo1 hi1 lo2 hi2 z xl xh:Re}(z0:0<z)(l1:-((2^200:Int):Re)<=lo1)(u1:hi1<=((2^200:Int):Re))(o1:lo1<hi1)(l2:-((2^200:Int):Re)<=lo2)(u2:hi2<=((2^200:Int):Re))(o2:lo2<hi2)(w1:z*(hi1-lo1)<=((2^450:Int):Re))(w2:z*(hi2-lo2)<=((2^450:Int):Re))
  (hl:xl=lo1*lo2\/xl=lo1*hi2\/xl=hi1*lo2\/xl=hi1*hi2) (hh:xh=lo1*lo2\/xh=lo1*hi2\/xh=hi1*lo2\/xh=hi1*hi2):z*(xh-xl)<=((2^660:Int):Re):=by
 have k:=aZ (show (2^200*2^450+2^200*2^450:Int)<=2^660 by decide)
 rw[bq,aq] at k
 exact dp (vP z0 l1 u1 o1 l2 u2 o2 w1 w2 hl hh) k
theorem Fx{x a b c d:Re}(h:x∈[d,c,b,a,a]):x=a\/x=b\/x=c\/x=d:=by
 simp only[HM,List.not_mem_nil,or_false] at h
 rcases h with h|h|h|h|h
 ·exact .inr (.inr (.inr h))
 ·exact .inr (.inr (.inl h))
 ·exact .inr (.inl h)
 ·exact .inl h
 ·exact .inl h
theorem yt(zT:TT P){A B:List Int}{N M:Int}{a b:Re}{j:Nat}{u v:V}(hj:j<=182700)(hu:g9 A N a j u)(hv:g9 B M b j v)
  (hQ:∀lo hi p1 q1 p2 q2 H',H<+:H'->Ab (a*b) lo hi p1 q1 p2 q2->((2^j:Int):Re)*(hi-lo)<=((2^660:Int):Re)->Q (.tup [pt p1 q1,pt p2 q2]) H'):ag sub P (n+4) 28 [u,v] H Q X:=by
 obtain ⟨lo1,hi1,x1,y1,x2,y2,d1,rfl⟩:=hu
 obtain ⟨lo2,hi2,z1,w1,z2,w2,d2,rfl⟩:=hv
 refine aj zT.a28 rfl ?_
 dsimp only[bPB]
 generalize hT:CQ 2=T
 dsimp only[qS1,qS2,qS3,qS6,dZ,qE1,qE5,aS,aV,dW,g7,aC,aD,qI1,dQ,dP,my,Dw,aB,az,aw,av,aM,aA,au,aa,cu,ah,aE,Nat.reduceSub,cY,Fp,GA]
 have w0:((H.length<=H.length/\some H.length≠none)/\some H.length≠none):=⟨⟨Ht _,IQ _⟩,IQ _⟩
 have A1:=d1.low1 hj;have A2:=d1.low2 hj;have B1:=d2.low1 hj;have B2:=d2.low2 hj
 have mk:∀ {x y:Re}{p1 q1 p2 q2 p q:Int},(q1:Re)*x=p1->(q2:Re)*y=p2->0<q1->0<q2->Low (732000+732000) p q->p*(q1*q2)=(p1*p2)*q->PP (x*y) p q:=fun e1 e2 c1 c2 L h=>⟨L.mono (by decide),wi c1 c2 e1 e2 h⟩
 refine ⟨w0,pj zT A1.top A1.bot A1.pos B1.top B1.bot B1.pos (by decide) fun p1 q1 L1 h1=>ifSome.mk (ai _ _ _) ⟨by decide,?_⟩⟩
 rw[cT]
 refine ⟨w0,pj zT A1.top A1.bot A1.pos B2.top B2.bot B2.pos (by decide) fun p2 q2 L2 h2=>ifSome.mk (ai _ _ _) ⟨show 1<lim by decide,?_⟩⟩
 rw[cT]
 refine ⟨w0,pj zT A2.top A2.bot A2.pos B1.top B1.bot B1.pos (by decide) fun p3 q3 L3 h3=>ifSome.mk (ai _ _ _) ⟨show 2<lim by decide,?_⟩⟩
 rw[cT]
 refine ⟨w0,pj zT A2.top A2.bot A2.pos B2.top B2.bot B2.pos (by decide) fun p4 q4 L4 h4=>ifSome.mk (ai _ _ _) ⟨show 3<lim by decide,?_⟩⟩
 rw[cT]
 subst hT
 have P1:=mk d1.a1.val d2.a1.val A1.pos B1.pos L1 h1
 have P2:=mk d1.a1.val d2.a2.val A1.pos B2.pos L2 h2
 have P3:=mk d1.a2.val d2.a1.val A2.pos B1.pos L3 h3
 have P4:=mk d1.a2.val d2.a2.val A2.pos B2.pos L4 h4
 clear h1 h2 h3 h4 L1 L2 L3 L4 A1 A2 B1 B2 mk w0
 dsimp only[CQ]
 generalize hB:xC 2=LB
 dsimp only[Fe,qS1,qS2,qS3,qS9,dZ,qE1,qE5,aV,dW,aC,aD,qI1,bZ,d6,nT,aa,ah,aE,List.nil_append,List.cons_append]
 subst hB
 refine ifSome.mk (ai _ _ _) (ifSome.mk rfl (ifSome.mk rfl (ifSome.mk (ai _ _ _) (ifSome.mk rfl (ifSome.mk rfl (ifSome.mk (ai _ _ _) ?_))))))
 refine tX zT [(lo1*lo2,p1,q1),(lo1*hi2,p2,q2),(hi1*lo2,p3,q3),(hi1*hi2,p4,q4)] [lo1*lo2] _ _ _ _ _ _ _ (fun c hc=>?_) ⟨P1,P1,fun c hc=>by rw[Iw.mp hc];exact ⟨IH _,IH _⟩,Iw.mpr rfl,Iw.mpr rfl⟩ fun xl xh l1 l2 g1 g2 o7 m=>?_
 ·simp only[HM,List.not_mem_nil,or_false] at hc
  rcases hc with rfl|rfl|rfl|rfl
  ·exact P1
  ·exact P2
  ·exact P3
  ·exact P4
 ·have m':MM [hi1*hi2,hi1*lo2,lo1*hi2,lo1*lo2,lo1*lo2] xl xh l1 l2 g1 g2:=m
  have k:=m'.le
  have k1:=k (lo1*lo2) (by simp)
  have k2:=k (lo1*hi2) (by simp)
  have k3:=k (hi1*lo2) (by simp)
  have k4:=k (hi1*hi2) (by simp)
  exact hQ xl xh _ _ _ _ _ (af _ _) ⟨m'.pl.l,m'.ph.l,m'.pl.v,m'.ph.v,mK d1.l d1.u d2.l d2.u k1.1 k2.1 k3.1 k4.1,uT d1.l d1.u d2.l d2.u k1.2 k2.2 k3.2 k4.2⟩ (z9 (aP (dU (by decide) j)) d1.b1 d1.b2 d1.lh d2.b1 d2.b2 d2.lh d1.wd d2.wd (Fx m'.ml) (Fx m'.mh))
end
end Mine
namespace Mine
open PySem Re
structure RwB (A A0:List Int)(l:Int)(b:Nat):Prop where
 eq:A=A0++[l]
 ne:A0≠[]
 l0:0<l
 sm:AllSm b A
theorem RwB.rowC{A A0:List Int}{l:Int}{b:Nat}(h:RwB A A0 l b):uV A A0.length (tpC A0 l):=by
 rw[h.eq]
 refine ⟨by rw[Hl,HE],fun j hj=>?_⟩
 cases j with
 |zero=>rw[Nat.sub_zero];exact ai _ _ _
 |succ j =>
  rw[HI (by exact oqz [A0.length-(j+1),A0.length,j] [] [(.le (Y2+1) Y1),(osb Y1 (Y2+1) Y0)] (.le (Y0+1) Y1) [10001,1011] rfl hj (am (A0.length) (j+1)))]
  show _=some (A0.reverse.getD j 0)
  rw[HB,List.getElem?_reverse (by exact oqz [j,A0.length] [] [(.le (Y0+1) Y1)] (.le (Y0+1) Y1) [11] rfl hj),show A0.length-1-j=A0.length-(j+1) by exact oqz [A0.length-1-j,A0.length-1,A0.length,j,A0.length-(j+1)] [] [(osb Y2 1 Y1),(osb Y1 Y3 Y0),(osb Y2 (Y3+1) Y4)] (.eq Y0 Y4) [1000100101,100000001,1000010101,1000000011,101001001,11001001,100001,1000101] rfl (am (A0.length) (1)) (am (A0.length-1) (j)) (am (A0.length) (j+1)),Hx (by exact oqz [A0.length-(j+1),A0.length,j] [] [(.le (Y2+1) Y1),(osb Y1 (Y2+1) Y0)] (.le (Y0+1) Y1) [10001,1011] rfl hj (am (A0.length) (j+1)))];rfl
theorem RwB.bas{A A0:List Int}{l:Int}{b:Nat}(h:RwB A A0 l b)(h12:A0.length<=12):Bas (tpC A0 l) l A0.length b:=by
 refine ⟨h.l0,Ii.mpr h.ne,h12,rfl,fun j hj=>?_⟩
 have:=h.rowC.2 j hj
 exact h.sm _ (IG this)
structure PgG (R:List Int)(g:Re)(p1 q1 p2 q2:Int):Prop where
 la:∃l,R.getLast?=some l/\0<l
 one:bn R 0=1
 sm:AllSm 1172 R
 rt:evR R g=0
 ab:∃lo hi,Ab g lo hi p1 q1 p2 q2
 al:Aln R p1 q1 p2 q2
theorem PgG.l2{R:List Int}{g:Re}{p1 q1 p2 q2:Int}(h:PgG R g p1 q1 p2 q2):2<=R.length:=by
 refine ac (h.la) fun l hl l0=>?_
 exact Ff hl (Ho l0) h.rt
theorem wC{L s:Int}{S E:Nat->Int}{k N:Nat}{xs:List Int}(hE:NwE S E)(h:RwL L E s k N 0 xs):xs.getLast?=some s:=by
 refine ac (h.2.2 0 (HQ _) (Ht _)) fun u hu e=>?_
 have h1:=h.1
 rw[IP,show xs.length-1=N-0 by exact oqz [xs.length-1,xs.length,N-0,N] [] [(.eq (Y1+0) (Y3+1)),(.an (.le Y3 (Y2+0)) (.le Y2 Y3)),(osb Y1 1 Y0)] (.eq Y0 Y2) [1010101,110101,10001011,1000001] rfl h1 (aX (N) (0)) (am (xs.length) (1)),hu]
 unfold RwU at e
 rw[hE.e0] at e
 have:u*(1*L^0)=s*1:=e
 rw[ID,Id,Id,Id] at this
 rw[this]
section
variable {sub:Nat->Nat->Bool}{P:List Fn}{n bd:Nat}{H:Hp}{Q:V->Hp->Prop}{X:Nat->Hp->Prop}
theorem xp(zT:TT P)
  (hk:bd=27\/bd=27+1)
  {A B:List Int}{Na Nb L:Int}{a b g:Re}{u v:V}{S E:Nat->Int}{bb N i:Nat}{ss:List V} (hi:H[i]?=some ss) (hss:FrL (fun i=>L^i) S (N+1) ss) (l0:0<L) (sL:Sm bb L) (hE:NwE S E) (hS:∀j,j<=N->Sm ((bb+26)*j+12) (S j)) (hN1:1<=N) (hN:N<=12) (hb:(2*bb+55)*N+3<=1000)
  (hrt:∀s k F,RwL L E s k N 0 F->evR F g=0) (hg:ab g<=(((2^50:Nat):Int):Re)) (hu:g9 A Na a 0 u) (hv:g9 B Nb b 0 v)
  (hbd:∀ (j:Nat) (u v:V) (H:Hp) (Q:V->Hp->Prop) (X:Nat->Hp->Prop),j<=182700->g9 A Na a j u->g9 B Nb b j v->(∀lo hi p1 q1 p2 q2 H',H<+:H'->Ab g lo hi p1 q1 p2 q2->((2^j:Int):Re)*(hi-lo)<=((2^660:Int):Re)->Q (.tup [pt p1 q1,pt p2 q2]) H')->ag sub P (n+5) bd [u,v] H Q X)
  (hQ:∀R x1 y1 x2 y2 H',H<+:H'->PgG R g x1 y1 x2 y2->R.length<=N+1->Q (pg R x1 y1 x2 y2) H') :
  ag sub P (n+6) 25 [.lst i] H (fun w H1=>ag sub P (n+6) 26 [w,.fn bd,u,v] H1 Q fun _ _=>False) fun _ _=>False:=by
 have e55:(2*bb+55)*N=2*(bb*N)+55*N:=by rw[HH,Nat.mul_assoc]
 have e51:(bb+51)*N=bb*N+51*N:=HH ..
 have e4:(bb+4)*N=bb*N+4*N:=HH ..
 refine gf (Av (k:=2000) l0 sL hE hS hN (by decide) (by exact oqz [(bb+51)*N,N,(2*bb+55)*N,bb*N] [] [(.le (Y2+3) 1000),(.eq Y2 (.a (.m 2 Y3) (.m 55 Y1))),(.eq Y0 (.a Y3 (.m 51 Y1)))] (.le (Y0+24) 2000) [11011] rfl hb e55 e51)) fun z sE sD=>?_
 refine wc zT z sE sD (by exact oqz [(bb+51)*N,N,(2*bb+55)*N,bb*N] [] [(.le (Y2+3) 1000),(.eq Y2 (.a (.m 2 Y3) (.m 55 Y1))),(.eq Y0 (.a Y3 (.m 51 Y1)))] (.le (Y0+1) 20000) [11011] rfl hb e55 e51) (by exact oqz [(bb+4)*N,N,(2*bb+55)*N,bb*N] [] [(.le (Y2+3) 1000),(.eq Y2 (.a (.m 2 Y3) (.m 55 Y1))),(.eq Y0 (.a Y3 (.m 4 Y1)))] (.le (Y0+2) 20000) [21012] rfl hb e55 e4) hE hi hss fun s xs H3 hp3 s0 hx=>?_
 have hln:xs.length=N+1:=hx.1
 refine y4 zT (v:=.lst H3.length) (g:=g) (K:=(bb+51)*N+1+((bb+4)*N+2)) (ai _ _ _) (wC hE hx) (Ho s0) hx.2.1 (by exact oqz [xs.length,N] [] [(.le 1 Y1),(.eq Y0 (Y1+1))] (.le 2 Y0) [1011] rfl hN1 hln) (by exact oqz [xs.length,N] [] [(.le Y1 12),(.eq Y0 (Y1+1))] (.le Y0 13) [111] rfl hN hln) (hrt _ _ _ hx) (by exact oqz [(bb+51)*N,(bb+4)*N,N,(2*bb+55)*N,bb*N] [] [(.le (Y3+3) 1000),(.eq Y3 (.a (.m 2 Y4) (.m 55 Y2))),(.eq Y0 (.a Y4 (.m 51 Y2))),(.eq Y1 (.a Y4 (.m 4 Y2)))] (.le (Y0+1+(Y1+2)) 1000) [1011011] rfl hb e55 e51 e4) fun H4 i4 R F hp4 hi4 hR hF=>?_
 have hR':PlG ((bb+51)*N+1+((bb+4)*N+2)+172) 13 g R:=⟨hR.la,hR.one,Hj hR.ln (by exact oqz [xs.length,N] [] [(.le Y1 12),(.eq Y0 (Y1+1))] (.le Y0 13) [111] rfl hN hln),hR.sm,hR.rt,hR.d0⟩
 refine EJ zT hk (fun row N al u j H Q X d hj hQ=>?_) hbd hi4 ⟨hF,hR',by exact oqz [(bb+51)*N,(bb+4)*N,N,(2*bb+55)*N,bb*N] [] [(.le (Y3+3) 1000),(.eq Y3 (.a (.m 2 Y4) (.m 55 Y2))),(.eq Y0 (.a Y4 (.m 51 Y2))),(.eq Y1 (.a Y4 (.m 4 Y2)))] (.le (Y0+1+(Y1+2)) 1000) [1011011] rfl hb e55 e51 e4,hg⟩ hu hv fun lo hi p1 q1 p2 q2 H5 hp5 hab hal=>?_
 ·obtain ⟨lo,hi,p1,q1,p2,q2,d,rfl⟩:=d
  exact vo zT rfl d hj fun lo' hi' x1 y1 x2 y2 d'=>hQ _ ⟨_,_,_,_,_,_,d',rfl⟩
 ·exact hQ R p1 q1 p2 q2 H5 (ad hp3 (ad (af _ _) (ad hp4 hp5))) ⟨hR.la,hR.one,hR.sm.mono (by exact oqz [(bb+51)*N,(bb+4)*N,N,(2*bb+55)*N,bb*N] [] [(.le (Y3+3) 1000),(.eq Y3 (.a (.m 2 Y4) (.m 55 Y2))),(.eq Y0 (.a Y4 (.m 51 Y2))),(.eq Y1 (.a Y4 (.m 4 Y2)))] (.le (Y0+1+(Y1+2)+172) 1172) [1011011] rfl hb e55 e51 e4),hR.rt,⟨lo,hi,hab⟩,hal⟩ (by rw[<- hln];exact hR.ln)
theorem j9{A A0:List Int}{l:Int}{b:Nat}(h:RwB A A0 l b):((A.map V.int).length:Int)-1=(A0.length:Int):=by rw[h.eq,Hi,Hl,HE];exact oqz [A0.length] [] [] (.ie (.s (.c (Y0+1)) 1) (.c Y0)) [1] rfl
theorem yU(zT:TT P)
  (hk:27=27\/27=27+1)
  {A A0 B B0:List Int}{l m Na Nb p1 q1 p2 q2 r1 s1 r2 s2:Int}{a b lo1 hi1 lo2 hi2:Re}{b1 b2:Nat} (hA:RwB A A0 l b1) (hB:RwB B B0 m b2) (dA:PG A Na a lo1 hi1 p1 q1 p2 q2 0) (dB:PG B Nb b lo2 hi2 r1 s1 r2 s2 0)
  (hN:A0.length*B0.length<=12) (hb:(2*(b1+b2)+55)*(A0.length*B0.length)+3<=1000) (hg:ab (a+b)<=(((2^50:Nat):Int):Re))
  (hQ:∀R x1 y1 x2 y2 H',H<+:H'->PgG R (a+b) x1 y1 x2 y2->R.length<=A0.length*B0.length+1->Q (pg R x1 y1 x2 y2) H'):ag sub P (n+7) 29 [pg A p1 q1 p2 q2,pg B r1 s1 r2 s2] H Q X:=by
 have n1:=Ii.mpr hA.ne
 have n2:=Ii.mpr hB.ne
 have hN1:1<=A0.length*B0.length:=Nat.mul_pos n1 n2
 have nA:A0.length<=12:=Hj (Ie _ n2) hN
 have nB:B0.length<=12:=Hj (J9 _ n1) hN
 have bA:=hA.bas nA
 have bB:=hB.bas nB
 obtain ⟨P1,hP1⟩:=nO (tpC A0 l) l A0.length
 obtain ⟨P2,hP2⟩:=nO (tpC B0 m) m B0.length
 obtain ⟨E,hE⟩:=xf (fun w=>tS l m P1 P2 w (w+1))
 have eA:=hA.eq
 have eB:=hB.eq
 have ra:=dA.rt
 have rb:=dB.rt
 rw[eA] at ra
 rw[eB] at rb
 generalize hNN:A0.length*B0.length=N at *
 have e55:(2*(b1+b2)+55)*N=2*(b1*N)+2*(b2*N)+55*N:=by rw[HH,Nat.mul_assoc,HH,Nat.mul_add]
 have k1:(b1+13)*N+20<=2000:=by rw[HH];exact oqz [b1*N,N,(2*(b1+b2)+55)*N,b2*N] [] [(.le (Y2+3) 1000),(.eq Y2 (.a (.a (.m 2 Y0) (.m 2 Y3)) (.m 55 Y1)))] (.le (.a (.a Y0 (.m 13 Y1)) 20) 2000) [1012] rfl hb e55
 have k2:(b2+13)*N+20<=2000:=by rw[HH];exact oqz [b2*N,N,(2*(b1+b2)+55)*N,b1*N] [] [(.le (Y2+3) 1000),(.eq Y2 (.a (.a (.m 2 Y3) (.m 2 Y0)) (.m 55 Y1)))] (.le (.a (.a Y0 (.m 13 Y1)) 20) 2000) [1012] rfl hb e55
 have k3:(b1+b2+26)*N+24<=2000:=by rw[HH,HH];exact oqz [b1*N,b2*N,N,(2*(b1+b2)+55)*N] [] [(.le (Y3+3) 1000),(.eq Y3 (.a (.a (.m 2 Y0) (.m 2 Y1)) (.m 55 Y2)))] (.le (.a (.a (Y0+Y1) (.m 26 Y2)) 24) 2000) [1012] rfl hb e55
 have z:=um bA bB hP1 hP2 (k:=2000) hN (by decide) k3
 refine aj zT.a29 rfl ?_
 dsimp only[CP]
 generalize hLB:pQ 3 4=LB
 dsimp only[qS1,qS2,qS3,qS9,dZ,qE1,qE5,qE6,qE8,aS,bV,aV,g7,aC,aD,qI3,b9,cQ,cD,fM,d9,aB,az,aw,av,aM,aA,au,aa,ah,aE,Nat.reduceSub]
 rw[j9 hA,j9 hB,show (A0.length:Int)*(B0.length:Int)=((N:Nat):Int) by rw[<- hNN];exact (Ij ..).symm]
 refine ⟨IntMulOk.left (fw ⟨by exact oqz [A0.length] [] [] (.il 0 (.c Y0)) [1] rfl,by exact oqz [A0.length] [] [(.le Y0 12)] (.il (.c Y0) 1000000) [11] rfl nA⟩),?_⟩
 refine nk zT hA.rowC (bA.szP hP1 (k:=2000) hN1 hN (by decide) k1) hP1 rfl fun ls hl=>?_
 refine nk zT hB.rowC (bB.szP hP2 (k:=2000) hN1 hN (by decide) k2) hP2 rfl fun rs' hr=>?_
 refine ji (aH (by exact oqz [N] [] [] (.il (.g 1000000) (.a (.c Y0) 1)) [1] rfl) (by exact oqz [N] [] [(.le Y0 12)] (.il (.a (.c Y0) 1) 1000000) [11] rfl hN)) ?_
 rw[show ((N:Int)+1).toNat=N+1 by exact oqz [((↑N:Int)+1).toNat,N] [] [(otn (.a (.c Y1) 1) Y0)] (.eq Y0 (Y1+1)) [1001,10,101] rfl (aR ((↑N:Int)+1))]
 generalize hH1:H++[ls]=H1
 have hp1:H<+:H1:=by rw[<- hH1];exact af _ _
 have gl:H1[H.length]?=some ls:=by rw[<- hH1];exact ai _ _ _
 have l1:H1.length=H.length+1:=by rw[<- hH1,Hl];rfl
 generalize hH2:H1++[rs']=H2
 have hp2:H1<+:H2:=by rw[<- hH2];exact af _ _
 have gr:H2[H1.length]?=some rs':=by rw[<- hH2];exact ai _ _ _
 have l2:H2.length=H1.length+1:=by rw[<- hH2,Hl];rfl
 clear hH1 hH2
 generalize hH3:H2++[([]:List V)]=H3
 have hp3:H2<+:H3:=by rw[<- hH3];exact af _ _
 have gs:H3[H2.length]?=some []:=by rw[<- hH3];exact ai _ _ _
 have l3:H3.length=H2.length+1:=by rw[<- hH3,Hl];rfl
 clear hH3
 subst hLB
 refine tm zT (n:=n+3) (H0:=H) (W:=fun m=>H.length<=m/\some m≠none) z (i:=H.length) (j:=H1.length) (s:=H2.length) (by exact oqz [List.length H2,List.length H,List.length H1] [] [(.eq Y2 (Y1+1)),(.eq Y0 (Y2+1))] (.no (.eq Y0 Y1)) [101001] rfl l1 l2) (by exact oqz [List.length H2,List.length H1] [] [(.eq Y0 (Y1+1))] (.no (.eq Y0 Y1)) [1001] rfl l2) ⟨by exact oqz [List.length H,List.length H2,List.length H1] [] [(.eq Y2 (Y0+1)),(.eq Y1 (Y2+1))] (.le Y0 Y1) [10101] rfl l1 l2,nofun⟩ (by exact oqz [List.length H,List.length H2,List.length H1] [] [(.eq Y2 (Y0+1)),(.eq Y1 (Y2+1))] (.le Y0 Y1) [10101] rfl l1 l2) (fun ss H4 o6 o7 o8 o9 o10 hss hp4 hs4=>?_) (N+1) 0 [] H3.length _ _ _ _ _ (IF _) (ad hp1 (ad hp2 (ad hp3 (af _ _)))) (ao (af _ _) gs) (by exact oqz [List.length H2,List.length H3] [] [(.eq Y1 (Y0+1))] (.no (.eq Y0 Y1)) [1010] rfl l3) ⟨rfl,nofun⟩ ⟨⟨ls,ao (ad hp2 (ad hp3 (af _ _))) gl,hl⟩,⟨rs',ao (ad hp3 (af _ _)) gr,hr⟩,ai _ _ _⟩
 dsimp only[aa,ah]
 have s1:∀j,j<=N->Sm ((b1+13)*j+4) (P1 j):=fun j hj=>jB bA hP1 N j hj hN
 have s2:∀j,j<=N->Sm ((b2+13)*j+4) (P2 j):=fun j hj=>jB bB hP2 N j hj hN
 refine xp zT hk hs4 hss (HG hA.l0 hB.l0) ((bA.sc 0 (HQ _)).mul (bB.sc 0 (HQ _))) hE (fun j hj=>(qM bA bB (fun i hi=>s1 i (Hj hi hj)) (fun i hi=>s2 i (Hj hi hj)) (j+1) (Ht _)).mono (by rw[HH,HH (b1+b2)];exact oqz [(b1+b2)*j,j] [] [] (.le (.a (.a (.a Y0 (.m 14 Y1)) 11) (Y1+1)) (.a (.a Y0 (.m 26 Y1)) 12)) [1] rfl)) hN1 hN hb (fun s k F hF=>vA hA.l0 hB.l0 hA.ne hB.ne ra rb hP1 hP2 hE (by rw[hNN];exact hF)) hg ⟨_,_,_,_,_,_,dA,rfl⟩ ⟨_,_,_,_,_,_,dB,rfl⟩ (fun j u v H Q X hj h1 h2 hQ=>Aj zT hj h1 h2 hQ) fun R x1 y1 x2 y2 H5 hp5 o hl=>hQ R x1 y1 x2 y2 H5 (ad hp4 hp5) o hl
theorem wU(zT:TT P)
  (hk:28=27\/28=27+1)
  {A A0 B B0:List Int}{l m Na Nb p1 q1 p2 q2 r1 s1 r2 s2:Int}{a b lo1 hi1 lo2 hi2:Re}{b1 b2:Nat} (hA:RwB A A0 l b1) (hB:RwB B B0 m b2) (dA:PG A Na a lo1 hi1 p1 q1 p2 q2 0) (dB:PG B Nb b lo2 hi2 r1 s1 r2 s2 0)
  (hN:A0.length*B0.length<=12) (hb:(2*(b1+b2)+55)*(A0.length*B0.length)+3<=1000) (hg:ab (a*b)<=(((2^50:Nat):Int):Re))
  (hQ:∀R x1 y1 x2 y2 H',H<+:H'->PgG R (a*b) x1 y1 x2 y2->R.length<=A0.length*B0.length+1->Q (pg R x1 y1 x2 y2) H'):ag sub P (n+7) 30 [pg A p1 q1 p2 q2,pg B r1 s1 r2 s2] H Q X:=by
 have n1:=Ii.mpr hA.ne
 have n2:=Ii.mpr hB.ne
 have hN1:1<=A0.length*B0.length:=Nat.mul_pos n1 n2
 have nA:A0.length<=12:=Hj (Ie _ n2) hN
 have nB:B0.length<=12:=Hj (J9 _ n1) hN
 have bA:=hA.bas nA
 have bB:=hB.bas nB
 obtain ⟨P1,hP1⟩:=nO (tpC A0 l) l A0.length
 obtain ⟨P2,hP2⟩:=nO (tpC B0 m) m B0.length
 obtain ⟨E,hE⟩:=xf (fun w=>P1 w*P2 w)
 have eA:=hA.eq
 have eB:=hB.eq
 have ra:=dA.rt
 have rb:=dB.rt
 rw[eA] at ra
 rw[eB] at rb
 generalize hNN:A0.length*B0.length=N at *
 have e55:(2*(b1+b2)+55)*N=2*(b1*N)+2*(b2*N)+55*N:=by rw[HH,Nat.mul_assoc,HH,Nat.mul_add]
 have k1:(b1+13)*N+20<=2000:=by rw[HH];exact oqz [b1*N,N,(2*(b1+b2)+55)*N,b2*N] [] [(.le (Y2+3) 1000),(.eq Y2 (.a (.a (.m 2 Y0) (.m 2 Y3)) (.m 55 Y1)))] (.le (.a (.a Y0 (.m 13 Y1)) 20) 2000) [1012] rfl hb e55
 have k2:(b2+13)*N+20<=2000:=by rw[HH];exact oqz [b2*N,N,(2*(b1+b2)+55)*N,b1*N] [] [(.le (Y2+3) 1000),(.eq Y2 (.a (.a (.m 2 Y3) (.m 2 Y0)) (.m 55 Y1)))] (.le (.a (.a Y0 (.m 13 Y1)) 20) 2000) [1012] rfl hb e55
 have k3:(b1+b2+26)*N+24<=2000:=by rw[HH,HH];exact oqz [b1*N,b2*N,N,(2*(b1+b2)+55)*N] [] [(.le (Y3+3) 1000),(.eq Y3 (.a (.a (.m 2 Y0) (.m 2 Y1)) (.m 55 Y2)))] (.le (.a (.a (Y0+Y1) (.m 26 Y2)) 24) 2000) [1012] rfl hb e55
 have z:=um bA bB hP1 hP2 (k:=2000) hN (by decide) k3
 refine aj zT.a30 rfl ?_
 dsimp only[E0]
 generalize hT:DP 26 25 28=T
 generalize hEE:xF 4=EE
 dsimp only[qS2,qS3,qE1,qE5,qE8,aS,bV,aV,ij,aC,aD,qO1,qI3,b9,cQ,cD,fM,d9,cq,aB,az,aw,av,aM,aA,au,bw,aa,ah,aE,Nat.reduceSub]
 rw[j9 hA,j9 hB,show (A0.length:Int)*(B0.length:Int)=((N:Nat):Int) by rw[<- hNN];exact (Ij ..).symm]
 refine ⟨IntMulOk.left (fw ⟨by exact oqz [A0.length] [] [] (.il 0 (.c Y0)) [1] rfl,by exact oqz [A0.length] [] [(.le Y0 12)] (.il (.c Y0) 1000000) [11] rfl nA⟩),?_⟩
 refine nk zT hA.rowC (bA.szP hP1 (k:=2000) hN1 hN (by decide) k1) hP1 rfl fun ls hl=>?_
 refine nk zT hB.rowC (bB.szP hP2 (k:=2000) hN1 hN (by decide) k2) hP2 rfl fun rs' hr=>?_
 refine ji (aH (by exact oqz [N] [] [] (.il (.g 1000000) (.a (.c Y0) 1)) [1] rfl) (by exact oqz [N] [] [(.le Y0 12)] (.il (.a (.c Y0) 1) 1000000) [11] rfl hN)) ?_
 rw[show ((N:Int)+1).toNat=N+1 by exact oqz [((↑N:Int)+1).toNat,N] [] [(otn (.a (.c Y1) 1) Y0)] (.eq Y0 (Y1+1)) [1001,10,101] rfl (aR ((↑N:Int)+1))]
 refine ⟨by rw[Hi,IS];unfold lim;exact oqz [N] [] [(.le Y0 12)] (.le (Y0+1) 1000000) [11] rfl hN,?_⟩
 generalize hH1:H++[ls]=H1
 have hp1:H<+:H1:=by rw[<- hH1];exact af _ _
 have gl:H1[H.length]?=some ls:=by rw[<- hH1];exact ai _ _ _
 clear hH1
 subst hEE
 refine Cb zT (n:=n+3) z (ao (af _ _) gl) (ai _ _ _) hl hr (N+1) 0 [] _ (IF _) ⟨rfl,nofun⟩ fun ys hys=>?_
 subst hT
 dsimp only[DP,qS1,qS2,qS9,qE5,qE6,aS,aC,aD,aa,ah]
 rw[List.nil_append] at hys
 have s1:∀j,j<=N->Sm ((b1+13)*j+4) (P1 j):=fun j hj=>jB bA hP1 N j hj hN
 have s2:∀j,j<=N->Sm ((b2+13)*j+4) (P2 j):=fun j hj=>jB bB hP2 N j hj hN
 refine xp zT hk (ai _ _ _) hys (HG hA.l0 hB.l0) ((bA.sc 0 (HQ _)).mul (bB.sc 0 (HQ _))) hE (fun j hj=>((s1 j hj).mul (s2 j hj)).mono (by rw[HH,HH,HH (b1+b2),HH];exact oqz [b1*j,j,b2*j] [] [] (.le (.a (.a (.a Y0 (.m 13 Y1)) 4) (.a (.a Y2 (.m 13 Y1)) 4)) (.a (.a (Y0+Y2) (.m 26 Y1)) 12)) [1] rfl)) hN1 hN hb (fun s k F hF=>uR hA.l0 hB.l0 hA.ne hB.ne ra rb hP1 hP2 hE (by rw[hNN];exact hF)) hg ⟨_,_,_,_,_,_,dA,rfl⟩ ⟨_,_,_,_,_,_,dB,rfl⟩ (fun j u v H Q X hj h1 h2 hQ=>yt zT hj h1 h2 hQ) fun R x1 y1 x2 y2 H5 hp5 o hl=>hQ R x1 y1 x2 y2 H5 (ad hp1 (ad (af _ _) (ad (af _ _) hp5))) o hl
end
end Mine
namespace Mine
open PySem Re
noncomputable def cX:List Int->List Int
 | []=>[]
 | [x]=>[x]
 |x::y::r=>x :: -y::cX r
theorem AE(x y:Int)(r:List Int):cX (x::y::r)=x :: -y::cX r:=rfl
theorem gY:∀xs:List Int,(cX xs).length=xs.length
 | []=>rfl
 | [_]=>rfl
 |x::y::r=>by rw[AE,List.length_cons,List.length_cons,gY r];rfl
theorem xU(t:Re):∀xs:List Int,evR (cX xs) t=evR xs (-t)
 | []=>rfl
 | [x]=>by show (x:Re)+t*0=(x:Re)+-t*0;grind
 |x::y::r=>by rw[AE,aO,aO,aO,aO,xU t r,ch];grind
theorem r6{k:Nat}:∀ {xs:List Int},AllSm k xs->AllSm k (cX xs)
 | [],h=>h
 | [_],h=>h
 |x::y::r,h=>.cons h.hd (.cons h.tl.hd.neg (r6 h.tl.tl))
theorem za:∀ (xs:List Int) (g:Nat),bn (cX xs) g=bn xs g
 | [],_=>rfl
 | [_],_=>rfl
 |x::y::r,g=>by
  rw[AE]
  show bn (cX r) _=bn r _
  rw[za r,Int.natAbs_neg]
theorem qg:∀ {xs:List Int}{l:Int},xs.getLast?=some l->(cX xs).getLast?=some l\/(cX xs).getLast?=some (-l)
 | [x],l,h=>.inl h
 | [x,y],l,h=>by cases h;exact .inr rfl
 |x::y::z::r,l,h=>by
  have h':(z::r).getLast?=some l:=h
  have k:=qg h'
  rw[AE]
  cases hh:cX (z::r) with
  |nil=>have:=congrArg List.length hh;rw[gY] at this;cases this
  |cons a b=>rw[hh] at k;exact k
theorem Az(m d:Nat):dM (2*(m:Int)+1) ((2*m+d:Nat):Int) 2=(List.range (d / 2)).map fun (i:Nat)=>2*(m:Int)+1+2*(i:Int):=by
 unfold dM
 have:(Builtin.Range.rangeSize (2*(m:Int)+1) ((2*m+d:Nat):Int) 2).toNat=d / 2:=by
  match d with
  |0=>unfold Builtin.Range.rangeSize;rw[if_pos (by decide),if_neg (show ¬ (2*(m:Int)+1<((2*m+0:Nat):Int)) by exact oqz [m] [] [] (.no (.il (.a (.a (.m 2 (.c Y0)) 1) 1) (.c (.a (.m 2 Y0) 0)))) [1] rfl)];rfl
  |1=>unfold Builtin.Range.rangeSize;rw[if_pos (by decide),if_neg (show ¬ (2*(m:Int)+1<((2*m+1:Nat):Int)) by exact oqz [m] [] [] (.no (.il (.a (.a (.m 2 (.c Y0)) 1) 1) (.c (.a (.m 2 Y0) 1)))) [1] rfl)];rfl
  |n+2 =>
   have e:((2*m+(n+2):Nat):Int)-(2*(m:Int)+1)-1=(n:Int):=oqz [m,n] [] [] (.ie (.s (.s (.c (.a (.m 2 Y0) (Y1+2))) (.a (.m 2 (.c Y0)) 1)) 1) (.c Y1)) [1] rfl
   have g:(2*(m:Int)+1)<((2*m+(n+2):Nat):Int):=oqz [m,n] [] [] (.il (.a (.a (.m 2 (.c Y0)) 1) 1) (.c (.a (.m 2 Y0) (Y1+2)))) [1] rfl
   rw[Nat.add_div_right n (by decide)]
   unfold Builtin.Range.rangeSize
   rw[if_pos (by decide),if_pos g,e];rfl
 rw[this]
section
variable {row:List Int}
theorem oD{xs:List Int}{σ:Int}(hσ:σ=1\/σ=-1)(h:bn xs 0=1):bn (smul σ xs) 0=1:=by
 rw[fD,h];rcases hσ with rfl|rfl <;> rfl
theorem zM{l:Int}(hl:row.getLast?=some l)(h0:0<l)(one:bn row 0=1):∃l',(cX row).getLast?=some l'/\l'≠0/\∃σ:Int,(σ=1\/σ=-1)/\cE (cX row) l'=smul σ (cX row)/\(smul σ (cX row)).getLast?=some l:=by
 have oa:bn (cX row) 0=1:=by rw[za];exact one
 have key:∀ {l':Int} (σ:Int),(σ=1\/σ=-1)->(cX row).getLast?=some l'->σ*l'=l->cE (cX row) l'=smul σ (cX row)/\(smul σ (cX row)).getLast?=some l:=fun {l'} σ hσ h e=>by
  have l0:l'≠0:=fun g=>by rw[g,HS] at e;exact oqz [] [l] [(.il (0+1) Y0),(.ie 0 Y0)] .ff [101] rfl h0 e
  have m:=HD h
  have hs:(smul σ (cX row)).getLast?=some l:=by rw[mV h,e]
  refine ⟨AI (a:=gOf (cX row) l') (b:=σ) (eI m l0) (oD hσ oa) (bD h) hs (cM m l0) h0 (e7 m l0) (by rcases hσ with rfl|rfl <;> decide) fun t=>?_,hs⟩
  rw[<- kQ,bU,<- II]
  rcases hσ with rfl|rfl <;> omega
 rcases qg hl with h|h
 ·exact ⟨l,h,by exact oqz [] [l] [(.il (0+1) Y0)] (.no (.ie Y0 0)) [101] rfl h0,1,.inl rfl,key 1 (.inl rfl) h (Ip l)⟩
 ·exact ⟨-l,h,by exact oqz [] [l] [(.il (0+1) Y0)] (.no (.ie (.g Y0) 0)) [110] rfl h0,-1,.inr rfl,key (-1) (.inr rfl) h (by exact oqz [] [-1*-l,l] [(.ie Y0 (.g (.m 1 (.g Y1))))] (.ie Y0 Y1) [101,11] rfl (Iy 1 (-l)))⟩
theorem yN{σ:Int}(t:Re):evR (smul σ (cX row)) t=(σ:Re)*evR row (-t):=by rw[bX,xU]
theorem zQ{σ:Int}(hσ:σ=1\/σ=-1):rsg (σ:Re)=σ:=by
 rw[g6];rcases hσ with rfl|rfl <;> rfl
theorem PG.opp{N p1 q1 p2 q2 σ:Int}{al lo hi:Re}{j:Nat}(d:PG row N al lo hi p1 q1 p2 q2 j)(hσ:σ=1\/σ=-1):PG (smul σ (cX row)) N (-al) (-hi) (-lo) (-p2) q2 (-p1) q1 j:=by
 obtain ⟨τ,hτ,sg⟩:=d.sg
 have l:=d.l;have u:=d.u;have b1:=d.b1;have b2:=d.b2
 have ng:∀ {x:Re}{p q:Int},Pt (N*8^j) x p q->Pt (N*8^j) (-x) (-p) q:=fun h=>⟨h.pos,by rw[Int.neg_gcd];exact h.one,iY h.val,by obtain ⟨a,ha⟩:=h.un;exact ⟨-a,by rw[ch,<- ha];grind⟩⟩
 refine ⟨⟨-(σ*τ),by rcases hσ with rfl|rfl <;> rcases hτ with rfl|rfl <;> decide,fun x p q hq hx h1 h2=>?_⟩,by grind,by grind,by rw[yN,show - -al=al by grind,d.rt];grind,fun h=>?_,by rw[bJ,gY];exact d.ln,?_,d.n0,d.n1,ng d.a2,ng d.a1,by rw[show -lo - -hi=hi-lo by grind];exact d.wd,by grind,by grind⟩
 ·have k:=sg (-x) (-p) q hq (iY hx) (by grind) (by grind)
  rw[yN,cz,k,zQ hσ,show -x-al=-(x - -al) by grind,lE,Int.mul_neg,Int.mul_neg,<- II,Iy]
 ·have:=congrArg List.length h
  rw[bJ,gY] at this
  exact d.ne (Io this)
 ·have s:=r6 d.sm
  intro x hx
  refine ac (HP.mp hx) fun y hy zq25=>?_;subst zq25
  rcases hσ with rfl|rfl
  ·rw[Ip];exact s y hy
  ·rw[show -1*y=-y by exact oqz [] [-1*y,y] [(.ie Y0 (.g (.m 1 Y1)))] (.ie Y0 (.g Y1)) [101,11] rfl (Iy 1 (y))];exact (s y hy).neg
end
section
variable {sub:Nat->Nat->Bool}{P:List Fn}{n:Nat}{H:Hp}{Q:V->Hp->Prop}{X:Nat->Hp->Prop}{W:Nat->Prop}{NN:Loc->Hp->Prop}{R:V->Hp->Prop}{Y:Nat->Hp->Prop}{Φ:Call}
theorem sR{K:Hp}{o0:Option V}(hW:W K.length):∀ (xs pre:List Int) (m:Nat) (o2:Option V),pre.length=2*m->(∀o2,NN [o0,some (.lst K.length),o2] (K++[(pre++cX xs).map .int])) ->
  cY (fun ρ2 H2 k=>wpS sub Φ W y5 ρ2 H2 k R Y) 2 ((List.range (xs.length / 2)).map fun (i:Nat)=>V.int (2*(m:Int)+1+2*(i:Int))) [o0,some (.lst K.length),o2] (K++[(pre++xs).map .int]) NN
 | [],pre,m,o2,_,hN=>hN o2
 | [x],pre,m,o2,_,hN=>by rw[HE,show 1 / 2=0 by decide];exact hN o2
 |x::y::r,pre,m,o2,hp,hN=>by
  rw[show (x::y::r).length / 2=r.length / 2+1 by simp only[List.length_cons];exact oqz [(r.length+1+1) / 2,r.length,(r.length+1+1) % 2,r.length / 2,r.length % 2] [] [(.an (.eq (Y1+1+1) (.a (.m 2 Y0) Y2)) (.le (Y2+1) 2)),(.an (.eq Y1 (.a (.m 2 Y3) Y4)) (.le (Y4+1) 2))] (.eq Y0 (Y3+1)) [101012,1010102] rfl (Mine.BP (r.length+1+1) 2 (JW _)) (Mine.BP (r.length) 2 (JW _)),Ka,Hw,Ia]
  have hg:((pre++x::y::r).map V.int)[2*m+1]?=some (.int y):=by
   rw[HF,HN (by rw[Hi];exact oqz [pre.length,m] [] [(.eq Y0 (.m 2 Y1))] (.le Y0 (.a (.m 2 Y1) 1)) [11] rfl hp),Hi,hp,IB];rfl
  have hlt:2*m+1<((pre++x::y::r).map V.int).length:=(Hs.mp hg).1
  have e1:2*(m:Int)+1+2*((0:Nat):Int)=((2*m+1:Nat):Int):=oqz [m] [] [] (.ie (.a (.a (.m 2 (.c Y0)) 1) (.m 2 (.c 0))) (.c (.a (.m 2 Y0) 1))) [1] rfl
  have hs:((pre++x::y::r).map V.int).set (2*m+1) (.int (-y))=((pre++[x,-y])++r).map V.int:=by
   rw[HF,List.set_append_right _ _ (by rw[Hi];exact oqz [pre.length,m] [] [(.eq Y0 (.m 2 Y1))] (.le Y0 (.a (.m 2 Y1) 1)) [11] rfl hp),Hi,hp,IB,Hv,HF];rfl
  show wpS sub Φ W y5 [o0,some (.lst K.length),some (V.int (2*(m:Int)+1+2*((0:Nat):Int)))] _ _ R Y
  rw[e1]
  dsimp only[y5,qS1,qS2,qS5,qE5,qE9,aV,bZ,aa,cu,gX,ah]
  refine jT (ai _ _ _) (Ix _) hg ?_
  refine ⟨hW,ix2 (ai _ _ _) (aL hlt) ?_⟩
  rw[cT,hs]
  have:=sR hW r (pre++[x,-y]) (m+1) (some (.int ((2*m+1:Nat):Int))) (by rw[Hl,hp];show 2*m+2=_;exact oqz [m] [] [] (.eq (.a (.m 2 Y0) 2) (.m 2 (Y0+1))) [1] rfl) fun o2=>by rw[Hv];exact hN o2
  rw[show (fun (i:Nat)=>V.int (2*((m+1:Nat):Int)+1+2*(i:Int)))=(fun (i:Nat)=>V.int (2*(m:Int)+1+2*(i:Int))) ∘ Nat.succ from funext fun i=>by show V.int _=V.int _;congr 1;exact oqz [m,i] [] [] (.ie (.a (.a (.m 2 (.c (Y0+1))) 1) (.m 2 (.c Y1))) (.a (.a (.m 2 (.c Y0)) 1) (.m 2 (.c (Y1+1))))) [1] rfl] at this
  exact this
theorem Dn(zT:TT P){row:List Int}{l p1 q1 p2 q2:Int}(hl:row.getLast?=some l)(l0:0<l)(one:bn row 0=1)(h13:row.length<=13)
  (hQ:∀σ H',H<+:H'->(σ=1\/σ=-1)->(smul σ (cX row)).getLast?=some l->bn (smul σ (cX row)) 0=1->Q (pg (smul σ (cX row)) (-p2) q2 (-p1) q1) H'):ag sub P (n+3) 31 [pg row p1 q1 p2 q2] H Q X:=by
 obtain ⟨l',hl',l0',σ,hσ,hr,hs⟩:=zM hl l0 one
 refine aj zT.a31 rfl ?_
 dsimp only[EW]
 generalize hT:DC 8 5=T
 generalize hB:y5=B
 dsimp only[qS2,qS3,dZ,qE1,qE5,bV,aV,ij,aC,aD,qO1,qI1,qI3,cS,d9,my,cq,aB,az,aw,av,aM,aA,au,bw,aa,ah,aE,Nat.reduceSub,pg]
 refine ⟨by rw[Hi];unfold lim;exact owk (by decide) h13,?_⟩
 refine fW (g:=fun x=>x) (fun x hx k hk=>hk) ?_
 rw[List.map_id']
 refine ifSome.mk (ai _ _ _) ?_
 rw[Hi]
 refine ⟨1,(row.length:Int),2,rfl,aH (by decide) (by decide),aH (by exact oqz [row.length] [] [] (.il (.g 1000000) (.c Y0)) [1] rfl) (by exact oqz [row.length] [] [(.le Y0 13)] (.il (.c Y0) 1000000) [11] rfl h13),.inr (.inr rfl),?_⟩
 have er1:=Az 0 row.length
 rw[show 2*((0:Nat):Int)+1=1 from rfl,show ((2*0+row.length:Nat):Int)=(row.length:Int) by exact oqz [row.length] [] [] (.ie (.c (0+Y0)) (.c Y0)) [1] rfl] at er1
 rw[er1,Ia]
 subst hB
 refine sR (K:=H) (m:=0) (pre:=[]) ⟨Ht _,nofun⟩ row _ rfl fun o2=>?_
 subst hT
 rw[List.nil_append]
 dsimp only[DC,qS1,qS2,qS9,qE1,qE5,aS,bV,aV,dW,aC,aD,kj,dQ,dP,aa,ah]
 refine jG (n:=n+1) (ng:=ngQ) md zT.a8 (fun a b H' Z X' hz=>fS zT hz) (v:=.lst H.length) (row:=cX row) (l:=l') (ai _ _ _) hl' l0' (by rw[gY];exact owk (by decide) h13) ?_
 rw[hr]
 dsimp only[d6]
 refine ifSome.mk (ai _ _ _) ?_
 refine uY zT ?_
 refine uY zT ?_
 exact hQ σ _ (ad (af _ _) (af _ _)) hσ hs (oD hσ (by rw[za];exact one))
end
end Mine
namespace Mine
open PySem Re
theorem fj{p q:Int}{x:Re}(hq:0<q)(e:(q:Re)*x=p):(0<=p ↔ 0<=x)/\(p<=0 ↔ x<=0):=by
 have hq':=aP hq
 constructor
 ·constructor
  ·intro h
   have:=aZ h
   rw[<- e,ax] at this
   refine JH.mp fun hx=>?_
   have:=mul_pos hq' (show 0 < -x by grind)
   grind
  ·intro h
   refine ik ?_
   rw[<- e,ax];exact ae (Hu hq') h
 ·constructor
  ·intro h
   have:=aZ h
   rw[<- e,ax] at this
   refine JH.mp fun hx=>?_
   have:=mul_pos hq' hx
   grind
  ·intro h
   refine ik ?_
   rw[<- e,ax]
   have:=ae (Hu hq') (show 0<=-x by grind)
   grind
theorem Ef:∀ {row:List Int}{c:Int},row[0]?=some c->evR row 0=(c:Re)
 |x::r,c,h=>by cases h;rw[aO];grind
section
variable {sub:Nat->Nat->Bool}{P:List Fn}{n sg:Nat}{H:Hp}{Q:V->Hp->Prop}{X:Nat->Hp->Prop}{W:Nat->Prop}{NN:Loc->Hp->Prop}{R:V->Hp->Prop}{Y:Nat->Hp->Prop}
variable {row:List Int}{N p1 q1 p2 q2:Int}{al lo hi:Re}{j:Nat}
theorem Hc(zT:TT P)(d:PG row N al lo hi p1 q1 p2 q2 j)(hj:j<=182700)(h1:lo<0)(h2:0<hi)(h0:al≠0){o0 o3:Option V}(hR:R (.int (rsg al)) H) :
  wpS sub (ag sub P (n+1)) W (wy 6) [o0,some (.tup (row.map .int)),some (pt p1 q1),o3] H NN R Y:=by
 obtain ⟨σ,hσ,s⟩:=d.sg
 have L1:=d.low1 hj
 dsimp only[wy,Fu,qS1,qS2,qS9,bC,qE1,qE5,qE9,br,aS,dW,aC,aD,aa,ah]
 refine jt zT rfl d.sm L1.top L1.bot (rZ d.ln) ?_
 refine jt zT rfl d.sm (L:=732000) (Sm.zero) (Sm.one (k:=731999)) (rZ d.ln) ?_
 dsimp only[fA,aU,aa]
 have z1:((1:Int):Re)*0=((0:Int):Re):=by rw[ax];grind
 rw[jb d.ne d.a1.pos d.a1.val,jb d.ne (by decide) z1,s lo p1 q1 d.a1.pos d.a1.val (IH _) (fq d.lh),s 0 0 1 (by decide) z1 (fq h1) (fq h2),aK (zY d.l)]
 rcases aN al with g|g|g
 ·rw[aG g] at hR
  rw[aK (show 0-al<0 by grind),decide_eq_true rfl];exact hR
 ·rw[aK g] at hR
  rw[aG (show 0<0-al by grind),decide_eq_false (by rcases hσ with rfl|rfl <;> decide)];exact hR
 ·exact absurd g h0
theorem FX(zT:TT P)(d:PG row N al lo hi p1 q1 p2 q2 j)(hj:j<=182700)(hQ:Q (.int (rsg al)) H):ag sub P (n+2) 22 [pg row p1 q1 p2 q2] H Q X:=by
 have i1:=fj d.a1.pos d.a1.val
 have i2:=fj d.a2.pos d.a2.val
 refine aj zT.a22 rfl ?_
 dsimp only[bSp]
 generalize hT:wI 6=T
 dsimp only[qS1,qS2,qS4,qS9,bC,qE1,qE5,br,aV,l9,bu,aU,aB,az,aw,av,aM,aA,au,eJ,aa,fG,ah,aE,iC,Nat.reduceSub,Nat.reduceAdd,List.length_nil,pg]
 refine ⟨rfl,?_⟩
 by_cases c1:0<=p1
 ·rw[decide_eq_true c1]
  rw[aG (qf (i1.1.mp c1) d.l)] at hQ
  exact hQ
 rw[decide_eq_false c1]
 have h1:lo<0:=JI.mp fun h=>c1 (i1.1.mpr h)
 subst hT
 dsimp only[wI]
 generalize hT:xq 6=T
 dsimp only[qS1,qS2,qS9,bC,qE1,qE5,qE9,br,aV,vE,bu,aU,bK,aa,ah]
 by_cases c2:p2<=0
 ·rw[decide_eq_true c2]
  rw[aK (rT d.u (i2.2.mp c2))] at hQ
  exact hQ
 rw[decide_eq_false c2]
 have h2:0<hi:=JI.mp fun h=>c2 (i2.2.mpr h)
 subst hT
 dsimp only[xq]
 generalize hT:wy 6=T
 dsimp only[qS1,qS2,qS9,bC,qE1,qE5,br,aV,bK,aa,ah]
 obtain ⟨c,hc⟩:∃c,row[0]?=some c:=by
  cases hr:row with
  |nil=>exact absurd hr d.ne
  |cons x r=>exact ⟨x,rfl⟩
 refine wa hc rfl ?_
 dsimp only[fA,aU,aa]
 obtain ⟨σ,hσ,s⟩:=d.sg
 have z1:((1:Int):Re)*0=((0:Int):Re):=by rw[ax];grind
 have s0:=s 0 0 1 (by decide) z1 (fq h1) (fq h2)
 rw[Ef hc] at s0
 by_cases c3:c=0
 ·rw[decide_eq_true c3]
  rw[c3,ax,aQ] at s0
  have:rsg (0-al)=0:=by rcases hσ with rfl|rfl <;> omega
  rw[G0 (rsg_is0.mp this),aQ] at hQ
  exact hQ
 ·rw[decide_eq_false c3]
  subst hT
  refine Hc zT d hj h1 h2 (fun h=>c3 ?_) hQ
  rw[h,show (0:Re)-0=0 by grind,aQ,HS] at s0
  exact ft (by rw[rsg_is0.mp s0,ax])
end
theorem zc{b:Nat}{t:Re}(h1:ab t<=1):∀ {xs:List Int},AllSm b xs->ab (evR xs t)<=((((xs.length:Nat)*2^b:Nat):Int):Re)
 | [],_=>by show ab 0<=_;rw[List.length_nil,Nat.zero_mul];exact dN (n:=0) (by decide) (by decide)
 |c::r,h=>by
  have ih:=zc h1 h.tl
  have hc:ab (c:Re)<=(((2^b:Nat):Int):Re):=dN (by have:=h.hd;unfold Sm at this;exact oqz [2^b,c.natAbs] [c] [(.le (Y1+1) Y0),(.an (.il Y0 (.c Y1)) (.il (.g Y0) (.c Y1)))] (.il (.g (.c Y0)) Y0) [1011] rfl this (bo (c))) (by have:=h.hd;unfold Sm at this;exact oqz [2^b,c.natAbs] [c] [(.le (Y1+1) Y0),(.an (.il Y0 (.c Y1)) (.il (.g Y0) (.c Y1)))] (.il Y0 (.c Y0)) [111] rfl this (bo (c)))
  rw[aO,List.length_cons,Jo,Int.natCast_add,bq]
  have k1:=qN (c:Re) (t*evR r t)
  rw[dk] at k1
  have k2:=ae (dH h1) (aI (evR r t))
  grind
theorem wm{b:Nat}{al:Re}(h0:al≠0):∀ {xs:List Int},(∃x∈xs,x≠0)->AllSm b xs->evR xs al=0->1<=(((xs.length*2^b:Nat):Int):Re)*ab al
 | [],hx,_,_=>by refine ac (hx) fun x hx _=>?_;cases hx
 |c::r,hx,h,e=>by
  have mono:1<=(((r.length*2^b:Nat):Int):Re)*ab al->1<=((((c::r).length*2^b:Nat):Int):Re)*ab al:=fun k=>by
   refine zh k (aI _) (IV _ (IZ _))
  rw[aO] at e
  by_cases hc:c=0
  ·rw[hc,ax] at e
   refine mono (wm h0 ?_ h.tl (bE (x:=al) (by rw[<- e];grind) h0))
   refine ac (hx) fun x hx x0=>?_
   rcases HM.mp hx with g|g
   ·exact absurd (g.trans hc) x0
   ·exact ⟨x,g,x0⟩
  ·by_cases h1:ab al<=1
   ·refine mono ?_
    have k1:=zc h1 h.tl
    have k2:=kz hc
    have k3:ab (c:Re)=ab al*ab (evR r al):=by rw[<- dk,<- oc];congr 1;grind
    rw[k3] at k2
    have:=ae (aI al) (dH k1)
    generalize (((r.length*2^b:Nat):Int):Re)=C at *
    grind
   ·have p:1<=(c::r).length*2^b:=Nat.mul_pos (JW _) (Jy b)
    have k1:=aZ (IO.mpr p)
    have one:(((1:Nat):Int):Re)=1:=rfl
    rw[one] at k1
    have:=ae (dH k1) (aI al)
    generalize ((((c::r).length*2^b:Nat):Int):Re)=C at *
    grind
end Mine
namespace Mine
open PySem Re
section
variable {sub:Nat->Nat->Bool}{P:List Fn}{n:Nat}{H:Hp}{Q:V->Hp->Prop}{X:Nat->Hp->Prop}
theorem BE(zT:TT P){a b:Int}{k:Nat}(hb:b≠0)(ha:Sm k a)(hs:Sm k b)(hk:k<=60000000)(hQ:∀p q:Int,Low k p q->p*b=a*q->Q (pt p q) H):ag sub P (n+2) 1 [.int a,.int b] H Q X:=by
 rcases Int.lt_or_gt_of_ne hb with h|h
 ·refine aj zT.a1 rfl ?_
  dsimp only[n4,qS1,qS2,qS3,qS9,bC,vl,qE1,qE5,qE8,qE9,br,aS,dW,aC,aD,nW,fJ,fA,aU,aB,az,aw,av,aM,aA,au,aa,ah,aE,Nat.reduceSub]
  rw[decide_eq_false hb]
  dsimp only[bK]
  refine fS zT ?_
  rw[decide_eq_true h]
  dsimp only[nW,bw]
  have g0:0<a.gcd b:=JF a hb
  have gne:-((a.gcd b:Nat):Int)≠0:=oqz [a.gcd b] [] [(.le (0+1) Y0)] (.no (.ie (.g (.c Y0)) 0)) [110] rfl g0
  have d1:-((a.gcd b:Nat):Int) ∣ a:=Int.neg_dvd.mpr (Int.gcd_dvd_left a b)
  have d2:-((a.gcd b:Nat):Int) ∣ b:=Int.neg_dvd.mpr (Kc a b)
  have e1:=Iz d1
  have e2:=Iz d2
  have hg:(-a).gcd (-b)=a.gcd b:=by rw[Int.neg_gcd,Int.gcd_neg]
  generalize a.fdiv (-((a.gcd b:Nat):Int))=p at *
  generalize b.fdiv (-((a.gcd b:Nat):Int))=q at *
  rw[Int.mul_neg] at e1 e2
  refine ⟨gne,gne,hQ _ _ (qW ha.neg hs.neg (by exact oqz [] [b] [(.il (Y0+1) 0)] (.il (0+1) (.g Y0)) [11] rfl h) (by rw[hg];exact oqz [] [p*(↑(a.gcd b):Int),a] [(.ie (.g Y0) Y1)] (.ie Y0 (.g Y1)) [11,101] rfl e1) (by rw[hg];exact oqz [] [q*(↑(a.gcd b):Int),b] [(.ie (.g Y0) Y1)] (.ie Y0 (.g Y1)) [11,101] rfl e2)) ?_⟩
  generalize ((a.gcd b:Nat):Int)=g at *
  rw[<- e1,<- e2];grind
 ·exact xx zT h ha hs hk hQ
end
structure Tgt (N:Int)(lo hi:Re)(j:Nat):Prop where
 n:Sm 32 N
 w:((2^j:Int):Re)*(hi-lo)<=((2^7:Int):Re)
 b1:-((2^31:Int):Re)<=lo
 b2:hi<=((2^31:Int):Re)
theorem Tgt.step{N D:Int}{lo hi lo' hi' al:Re}{x1 y1 x2 y2:Int}{j:Nat}(t:Tgt N lo hi j)(o:jN D al lo hi lo' hi' x1 y1 x2 y2):Tgt N lo' hi' (j+1):=
 ⟨t.n,by rw[Ig,aq];exact tN (Hu (aP (dU (by decide) j))) t.w o.wd,dp t.b1 o.l1,dp o.u2 t.b2⟩
theorem GS{j b:Nat}{al lo hi:Re}(h1:lo<=0)(h2:0<=hi)(l:lo<al)(u:al<hi)(hw:((2^j:Int):Re)*(hi-lo)<=((2^7:Int):Re))(h:1<=(((13*2^b:Nat):Int):Re)*ab al):j<b+11:=by
 refine Nat.lt_of_not_le fun hj=>?_
 have k1:ab al<=hi-lo:=iF (by grind) (by grind)
 have k2:((2^(b+11):Int):Re)<=((2^j:Int):Re):=aZ (by
  have:=Ib (n:=2) (by decide) hj
  have e1:((2^(b+11):Nat):Int)=(2:Int)^(b+11):=I6 2 _
  have e2:((2^j:Nat):Int)=(2:Int)^j:=I6 2 _
  exact oqz [2^(b+11),2^j] [2^(b+11),2^j] [(.le Y0 Y1),(.ie (.c Y0) Y0),(.ie (.c Y1) Y1)] (.il Y0 Y1) [11011] rfl this e1 e2)
 have k3:(((13*2^b:Nat):Int):Re)*((2^7:Int):Re)<((2^(b+11):Int):Re):=by
  rw[<- aq]
  refine jy ?_
  rw[Ij,I6,Kq]
  have:=Iq (n:=(2:Int)) (m:=b) (by decide)
  show (13:Int)*2^b*2^7<2^b*2^11
  omega
 have w0:0<hi-lo:=by grind
 have J0:0<=((2^j:Int):Re):=Hu (aP (dU (by decide) j))
 have c0:0<=(((13*2^b:Nat):Int):Re):=by rw[<- ax];exact aZ (Ix _)
 have m1:=ae c0 (dH k1)
 have m2:=ae (dH k2) (Hu w0)
 have m3:=ae c0 (dH hw)
 have m4:=mul_pos w0 (g8 k3)
 generalize (((13*2^b:Nat):Int):Re)=C at *
 generalize ((2^7:Int):Re)=D at *
 generalize ((2^(b+11):Int):Re)=E at *
 generalize ((2^j:Int):Re)=J at *
 -- E w <= J w <= D,C al >= 1,C al <= C w
 have m5:=ae (Hu w0) (show 0<=D-J*(hi-lo) by grind)
 have m6:C*D<E:=k3
 have m7:E*(hi-lo)<=D:=by grind
 have m8:1<=C*(hi-lo):=by grind
 have D0:0<=D:=by
  have:=ae J0 (Hu w0)
  grind
 have m9:=ae D0 (dH m8)
 clear m1 m2 m3 m5 k1 k2 hw h
 grind
theorem nH(t:Re)(ys:List Int):∀xs:List Int,evR (xs++ys) t=evR xs t+t^xs.length*evR ys t
 | []=>by rw[List.nil_append,List.length_nil,Hr,d3];grind
 |c::r=>by rw[List.cons_append,aO,aO,nH t ys r,List.length_cons,Hn];grind
theorem ri{t s:Re}(h:t*s=1):∀xs:List Int,t*evR xs.reverse t=t^xs.length*evR xs s
 | []=>by show t*0=_*0;grind
 |c::r=>by
  have ih:=ri h r
  rw[Jz,nH,Ih,aO,d3,aO,List.length_cons,Hn]
  generalize t^r.length=p at *
  generalize evR r s=y at *
  generalize evR r.reverse t=z at *
  grind
theorem uv(x:Re):∀n:Nat,rsg (x^n)=rsg x^n
 |0=>by rw[Hr,ID];exact aG rA
 |n+1=>by rw[Hn,cz,uv x n,Ig]
theorem vX{al:Re}(h0:al≠0):∀ {xs:List Int},(∃x∈xs,x≠0)->evR xs al=0->∃β:Re,al*β=1
 | [],hx,_=>by refine ac (hx) fun x hx _=>?_;cases hx
 |c::r,hx,e=>by
  rw[aO] at e
  by_cases hc:c=0
  ·rw[hc,ax] at e
   refine vX h0 (xs:=r) ?_ (bE (x:=al) (by rw[<- e];grind) h0)
   refine ac (hx) fun x hx x0=>?_
   rcases HM.mp hx with g|g
   ·exact absurd (g.trans hc) x0
   ·exact ⟨x,g,x0⟩
  ·have hr:=bI (p:=1) hc
   refine ⟨-(evR r al*rq 1 c),?_⟩
   have one:((1:Int):Re)=1:=rfl
   rw[one] at hr
   generalize rq 1 c=z at *
   generalize evR r al=y at *
   generalize (c:Re)=k at *
   have:al*-(y*z)=-(al*y)*z:=by grind
   rw[this,show -(al*y)=k by grind,hr]
theorem f8{x y z:Re}(h:x=y*z)(hy:0<y):(0<=x->0<=z)/\rsg x=rsg z:=by
 refine ⟨fun hx=>JH.mp fun hz=>?_,by rw[h,cz,aG hy,Ip]⟩
 have:=mul_pos hy (show 0 < -z by grind)
 grind
theorem zx{lo hi x:Re}(hs:0<lo\/hi<0)(h1:lo<=x)(h2:x<=hi):0<lo*x/\0<hi*x/\((0<lo/\0<x)\/(hi<0/\x<0)):=by
 rcases hs with h|h
 ·have hx:=rT h h1
  exact ⟨mul_pos h hx,mul_pos (rT hx h2) hx,.inl ⟨h,hx⟩⟩
 ·have hx:=qf h2 h
  have hl:=qf h1 hx
  have a1:=mul_pos (show 0 < -lo by grind) (show 0 < -x by grind)
  have a2:=mul_pos (show 0 < -hi by grind) (show 0 < -x by grind)
  exact ⟨by grind,by grind,.inr ⟨h,hx⟩⟩
theorem Eu{lo hi lo' hi' al β x y:Re}(e1:hi*lo'=1)(e2:lo*hi'=1)(e3:al*β=1)(e4:x*y=1)(p1:0<lo'*x)(p2:0<hi'*x)(p3:0<β*x)(h1:lo'<=x)(h2:x<=hi'):lo<=y/\y<=hi/\rsg (y-al)=-rsg (x-β):=by
 have k1:hi'-x=(hi'*x)*(y-lo):=by clear e1 e3 p1 p2 p3 h1 h2;grind
 have k2:x-lo'=(lo'*x)*(hi-y):=by clear e2 e3 p1 p2 p3 h1 h2;grind
 have k3:β-x=(β*x)*(y-al):=by clear e1 e2 p1 p2 p3 h1 h2;grind
 have a1:=(f8 k1 p2).1 (dH h2)
 have a2:=(f8 k2 p1).1 (dH h1)
 have a3:=(f8 k3 p3).2
 refine ⟨by clear k1 k2 k3 e1 e2 e3 e4;grind,by clear k1 k2 k3 e1 e2 e3 e4;grind,?_⟩
 rw[<- a3,<- lE];congr 1;grind
theorem Di{k:Int}(h:k=1\/k=-1)(n:Nat):k^n=1\/k^n=-1:=by
 induction n with
 |zero=>exact .inl (ID k)
 |succ n ih=>rw[Ig];rcases ih with i|i <;> rcases h with g|g <;> rw[i,g] <;> decide
theorem yI{k m:Int}(h:k=1\/k=-1)(g:m=1\/m=-1):k*m=1\/k*m=-1:=by
 rcases h with rfl|rfl <;> rcases g with rfl|rfl <;> decide
section
variable {row zs:List Int}{N p1 q1 p2 q2 lz:Int}{al lo hi β:Re}{j k:Nat}
theorem qh(d:PG row N al lo hi p1 q1 p2 q2 j)(t:Tgt N lo hi j)(hj:j<=52):(Sm 221 p1/\Sm 190 q1)/\Sm 221 p2/\Sm 190 q2:=by
 have s8:Sm 157 ((8:Int)^j):=by
  unfold Sm
  rw[Int.natAbs_pow]
  exact HT (Ib (by decide) hj) (by decide)
 have hD:=d.dpos
 have sD:Sm 189 (N*8^j):=t.n.mul s8
 have sDB:Sm 221 (N*8^j*2^31):=sD.mul (show Sm 32 ((2:Int)^31) by unfold Sm;decide)
 have key:∀ {x:Re}{p q:Int},Pt (N*8^j) x p q->-((2^31:Int):Re)<=x->x<=((2^31:Int):Re)->Sm 221 p/\Sm 190 q:=fun {x p q} h h1 h2=>by
  obtain ⟨a,ha⟩:=h.un
  have e:p*(N*8^j)=a*q:=ft (by rw[aq p,aq a,<- h.val,<- ha];grind)
  exact ⟨(h.low (B:=2^31) hD (by decide) h1 h2 sDB).top,(ju hD (wn h.pos h.one hD e) sD).mono (by decide)⟩
 have lh:=fq d.lh
 exact ⟨key d.a1 t.b1 (dp lh t.b2),key d.a2 (dp t.b1 lh) t.b2⟩
theorem uC{p q:Int}{x:Re}(hp:p≠0)(hq:0<q)(s:Sm 190 q)(e:(p:Re)*x=q):-((2^200:Int):Re)<=x/\x<=((2^200:Int):Re):=by
 have k1:=kz hp
 have k2:ab (q:Re)=ab (p:Re)*ab x:=by rw[<- dk,e]
 have k3:ab (q:Re)<=((2^200:Int):Re):=dN (by unfold Sm at s;have:(2:Nat)^190<=2^200:=Ib (by decide) (by decide);have e:((2^200:Nat):Int)=(2:Int)^200:=I6 2 200;exact oqz [] [2^200,q] [(.il (0+1) Y1),(.ie (.c 1606938044258990275541962092341162602522202993782792835301376) Y0)] (.il (.g Y0) Y1) [111] rfl hq e) (by unfold Sm at s;have:(2:Nat)^190<=2^200:=Ib (by decide) (by decide);have e:((2^200:Nat):Int)=(2:Int)^200:=I6 2 200;exact oqz [q.natAbs] [q,2^200] [(.le (Y0+1) 1569275433846670190958947355801916604025588861116008628224),(.ie (.c 1606938044258990275541962092341162602522202993782792835301376) Y1),(.an (.il Y0 (.c Y0)) (.il (.g Y0) (.c Y0)))] (.il Y0 Y1) [10111] rfl s e (bo (q)))
 have k4:=ae (dH k1) (aI x)
 have k5:=d7 x
 generalize ((2^200:Int):Re)=B at *
 constructor <;> grind
theorem g5{x y:Re}(h:x*y=1):(0<x->0<y)/\(x<0->y<0):=by
 have o:=rA
 constructor
 ·intro hx
  rcases aN y with g|g|g
  ·exact g
  ·have:=mul_pos hx (show 0 < -y by grind);grind
  ·rw[g] at h;grind
 ·intro hx
  rcases aN y with g|g|g
  ·have:=mul_pos (show 0 < -x by grind) g;grind
  ·exact g
  ·rw[g] at h;grind
theorem wJ{x y x' y':Re}(h1:x*x'=1)(h2:y*y'=1)(hs:(0<x'/\0<y')\/(x'<0/\y'<0))(h:x<y):y'<x':=by
 have p:0<x'*y':=by
  rcases hs with ⟨a,b⟩ | ⟨a,b⟩
  ·exact mul_pos a b
  ·have:=mul_pos (show 0 < -x' by grind) (show 0 < -y' by grind);grind
 have:=mul_pos p (g8 h)
 have e:x'*y'*(y-x)=x'-y':=by clear p this h hs;grind
 rw[e] at this
 exact GK this
theorem xA(t:Re)(zs:List Int):∀k:Nat,evR (zs++bO k) t=evR zs t:=fun k=>by
 have z:evR (bO k) t=0:=by
  unfold bO
  induction k with
  |zero=>rfl
  |succ k ih=>rw[List.replicate_succ,aO,ih,ax];grind
 rw[nH,z];grind
theorem PG.inv(d:PG row N al lo hi p1 q1 p2 q2 j)(t:Tgt N lo hi j)(hj:j<=52)(hs:0<p1\/p2<0)(hb:al*β=1)(hz:row.reverse=zs++bO k)(hlz:zs.getLast?=some lz)(z0:lz≠0)
  {x1 y1 x2 y2:Int} (L1:Low 221 x1 y1) (E1:x1*p2=q2*y1) (L2:Low 221 x2 y2) (E2:x2*p1=q1*y2):∃lo' hi':Re,PG (cE zs lz) (p1*p2).natAbs β lo' hi' x1 y1 x2 y2 0:=by
 refine gf (qh d t hj) fun zq26 sp2 sq2=>?_;obtain ⟨sp1,sq1⟩:=zq26
 have i1:=fj d.a1.pos d.a1.val
 have i2:=fj d.a2.pos d.a2.val
 have hsl:0<lo\/hi<0:=by
  rcases hs with h|h
  ·exact .inl (JI.mp fun g=>absurd (i1.2.mpr g) (IT.mpr h))
  ·exact .inr (JI.mp fun g=>absurd (i2.1.mpr g) (IT.mpr h))
 have p10:p1≠0:=fun h=>by
  rcases hsl with g|g
  ·have:=i1.2.mp (by exact oqz [] [p1] [(.ie Y0 0)] (.il Y0 0) [11] rfl h);exact absurd g (JH.mpr this)
  ·have:=i1.1.mp (by exact oqz [] [p1] [(.ie Y0 0)] (.il 0 Y0) [101] rfl h);exact absurd (qf this (l8 d.lh g)) (JH.mpr (IH _))
 have p20:p2≠0:=fun h=>by
  rcases hsl with g|g
  ·have:=i2.2.mp (by exact oqz [] [p2] [(.ie Y0 0)] (.il Y0 0) [11] rfl h);exact absurd (rT (l8 g d.lh) this) (JH.mpr (IH _))
  ·have:=i2.1.mp (by exact oqz [] [p2] [(.ie Y0 0)] (.il 0 Y0) [101] rfl h);exact absurd g (JH.mpr this)
 have v1:=bI (p:=q2) p20
 have v2:=bI (p:=q1) p10
 have q1':=ci d.a1.pos
 have q2':=ci d.a2.pos
 have e1:hi*rq q2 p2=1:=ig q2' (by
  have:=d.a2.val
  generalize rq q2 p2=z at *
  have:(q2:Re)*(hi*z)=(q2*hi)*z:=by grind
  rw[this,d.a2.val,v1];grind)
 have e2:lo*rq q1 p1=1:=ig q1' (by
  generalize rq q1 p1=z at *
  have:(q1:Re)*(lo*z)=(q1*lo)*z:=by grind
  rw[this,d.a1.val,v2];grind)
 obtain ⟨b11,b12⟩:=uC p20 d.a2.pos sq2 v1
 obtain ⟨b21,b22⟩:=uC p10 d.a1.pos sq1 v2
 have y1p:=L1.pos
 have y2p:=L2.pos
 have val1:(y1:Re)*rq q2 p2=x1:=ig (fv p20) (by
  have:=congrArg (fun z:Int=>(z:Re)) E1
  rw[aq,aq] at this
  generalize rq q2 p2=z at *
  rw[show (p2:Re)*(y1*z)=(p2*z)*y1 by grind,v1,<- this];grind)
 have val2:(y2:Re)*rq q1 p1=x2:=ig (fv p10) (by
  have:=congrArg (fun z:Int=>(z:Re)) E2
  rw[aq,aq] at this
  generalize rq q1 p1=z at *
  rw[show (p1:Re)*(y2*z)=(p1*z)*y2 by grind,v2,<- this];grind)
 generalize rq q2 p2=lo' at *
 generalize rq q1 p1=hi' at *
 -- all of one sign
 have sgn:(0<lo/\0<hi/\0<al)\/(lo<0/\hi<0/\al<0):=by
  rcases hsl with h|h
  ·exact .inl ⟨h,l8 h d.lh,l8 h d.l⟩
  ·exact .inr ⟨l8 d.lh h,h,l8 d.u h⟩
 have sg':(0<lo'/\0<hi'/\0<β)\/(lo'<0/\hi'<0/\β<0):=by
  rcases sgn with ⟨h1,h2,h3⟩ | ⟨h1,h2,h3⟩
  ·exact .inl ⟨(g5 e1).1 h2,(g5 e2).1 h1,(g5 hb).1 h3⟩
  ·exact .inr ⟨(g5 e1).2 h2,(g5 e2).2 h1,(g5 hb).2 h3⟩
 have lt1:lo'<β:=wJ hb e1 (sg'.imp (fun h=>⟨h.2.2,h.1⟩) fun h=>⟨h.2.2,h.1⟩) d.u
 have lt2:β<hi':=wJ e2 hb (sg'.imp (fun h=>⟨h.2.1,h.2.2⟩) fun h=>⟨h.2.1,h.2.2⟩) d.l
 have hs':0<lo'\/hi'<0:=sg'.imp (fun h=>h.1) fun h=>h.2.1
 have mz:=HD hlz
 have g0:=e7 mz z0
 have ez:∀x:Re,((gOf zs lz:Int):Re)*evR (cE zs lz) x=evR row.reverse x:=fun x=>by rw[<- bX,eE,hz,xA]
 have hg:rsg ((gOf zs lz:Int):Re)=1\/rsg ((gOf zs lz:Int):Re)=-1:=x5 (fv g0)
 have zl:zs.length<=row.length:=by have:=congrArg List.length hz;rw[Ih,Hl] at this;exact oqz [zs.length,row.length,(bO k).length] [] [(.eq Y1 (Y0+Y2))] (.le Y0 Y1) [101] rfl this
 have N0:0<(((p1*p2).natAbs:Nat):Int):=I4.mpr (Je.mpr (It p10 p20))
 have un:∀ {p q r:Int}{x:Re},(p:Re)*x=q->(p1*p2=r*p)->∃a:Int,(((((p1*p2).natAbs:Nat):Int)*8^0:Int):Re)*x=a:=fun {p q r x} e er=>by
  rw[ID,Id,er]
  rcases Int.natAbs_eq (r*p) with h|h
  ·exact ⟨r*q,by rw[<- h,aq,aq,<- e];grind⟩
  ·exact ⟨-(r*q),by rw[show ((((r*p).natAbs:Nat):Int))=-(r*p) by exact oqz [(r*p).natAbs] [r*p] [(.ie Y0 (.g (.c Y0)))] (.ie (.c Y0) (.g Y0)) [101,11] rfl h,ch,ch,aq,aq,<- e];grind⟩
 obtain ⟨σ,hσ,sgp⟩:=d.sg
 have τ:=rsg β
 have hτ:rsg β=1\/rsg β=-1:=by
  rcases sg' with h|h
  ·exact .inl (aG h.2.2)
  ·exact .inr (aK h.2.2)
 refine ⟨lo',hi',⟨-(rsg ((gOf zs lz:Int):Re)*(rsg β^(row.length+1)*σ)),?_,fun x p q hq hx h1 h2=>?_⟩,lt1,lt2,?_,fun h=>?_,by rw[dX];exact Hj zl d.ln,fL mz z0 fun y hy=>d.sm y (List.mem_reverse.mp (by rw[hz];exact JR _ hy)),N0,?_,⟨L1.pos,L1.one,val1,un v1 rfl⟩,⟨L2.pos,L2.one,val2,un v2 (Ir p1 p2)⟩,?_,b11,b22⟩
 ·rcases yI hg (yI (Di hτ (row.length+1)) hσ) with h|h <;> rw[h] <;> decide
 ·refine gf (zx hs' h1 h2) fun k1 k2 k3=>?_
  have hxβ:rsg x=rsg β/\0<β*x:=by
   rcases sg' with s|s
   ·have hx0:=rT s.1 h1
    exact ⟨by rw[aG hx0,aG s.2.2],mul_pos s.2.2 hx0⟩
   ·have hx0:=qf h2 s.2.1
    exact ⟨by rw[aK hx0,aK s.2.2],by have:=mul_pos (show 0 < -β by grind) (show 0 < -x by grind);grind⟩
  have p0:p≠0:=fun h=>by
   rw[h,ax] at hx
   have:=bE hx (ci hq)
   rw[this] at k1
   exact absurd k1 (by grind)
  have vy:=bI (p:=q) p0
  have exy:x*rq q p=1:=ig (ci hq) (by
   generalize rq q p=z at *
   rw[show (q:Re)*(x*z)=(q*x)*z by grind,hx,vy];grind)
  -- y as a part
  obtain ⟨py,qy,hqy,hy⟩:∃py qy:Int,0<qy/\(qy:Re)*rq q p=py:=by
   rcases Int.lt_or_gt_of_ne p0 with h|h
   ·exact ⟨-q,-p,by exact oqz [] [p] [(.il (Y0+1) 0)] (.il (0+1) (.g Y0)) [11] rfl h,by rw[ch,ch,<- vy];grind⟩
   ·exact ⟨q,p,h,vy⟩
  generalize rq q p=y at *
  refine gf (Eu e1 e2 hb exy k1 k2 hxβ.2 h1 h2) fun j1 j2 j3=>?_
  have s1:=sgp y py qy hqy hy j1 j2
  have s2:=congrArg rsg (ri exy row)
  rw[cz,cz,uv,hxβ.1,<- ez x,cz,s1,j3] at s2
  rw[Ig]
  generalize rsg (evR (cE zs lz) x)=u at *
  generalize rsg ((gOf zs lz:Int):Re)=w at *
  generalize rsg β^row.length=m at *
  generalize rsg (x-β)=z at *
  generalize rsg β=r at *
  clear ez un sgp h1 h2 k1 k2 k3
  rcases hτ with rfl|rfl <;> rcases hg with rfl|rfl <;> grind
 ·have s2:=ri (t:=β) (s:=al) (by rw[Jq];exact hb) row
  rw[d.rt,<- ez β] at s2
  have β0:β≠0:=fun h=>by rw[h] at hb;exact jd (by rw[<- hb];grind)
  exact bE (x:=((gOf zs lz:Int):Re)) (bE (x:=β) (by rw[s2];grind) β0) (fv g0)
 ·have:=congrArg List.length h
  rw[dX] at this
  rw[Io this] at hlz
  cases hlz
 ·have:=sp1.mul sp2
  unfold Sm at *
  rw[Jb]
  exact J3 this (Ib (by decide) (by decide))
 ·have k:=aZ (show (2^200+2^200:Int)<=2^450 by decide)
  rw[bq] at k
  have one:((2^0:Int):Re)=1:=rfl
  rw[one]
  generalize ((2^200:Int):Re)=B at *
  generalize ((2^450:Int):Re)=C at *
  clear ez un sgp
  grind
end
end Mine
namespace Mine
open PySem Re
theorem RwB.of{R:List Int}{l:Int}{b:Nat}(hl:R.getLast?=some l)(l0:0<l)(h2:2<=R.length)(sm:AllSm b R):∃R0,RwB R R0 l b/\R0.length+1=R.length:=by
 obtain ⟨R0,rfl⟩:=List.getLast?_eq_some_iff.mp hl
 rw[Hl,HE] at h2
 exact ⟨R0,⟨rfl,fun h=>by rw[h] at h2;simp at h2,l0,sm⟩,by rw[Hl,HE]⟩
section
variable {sub:Nat->Nat->Bool}{P:List Fn}{n be ti:Nat}{H:Hp}{Q:V->Hp->Prop}{X:Nat->Hp->Prop}{W:Nat->Prop}{NN:Loc->Hp->Prop}{R:V->Hp->Prop}{Y:Nat->Hp->Prop}
theorem vN(zT:TT P)
  {v:V}{row:List Int}{p1 q1 p2 q2 N:Int}{al lo hi:Re}{j:Nat} (hv:items H v=some (row.map .int)) (d:PG row N al lo hi p1 q1 p2 q2 j) (t:Tgt N lo hi j) (hj:j<=182700)
  (hQ:∀lo' hi' x1 y1 x2 y2,PG row N al lo' hi' x1 y1 x2 y2 (j+1)->Tgt N lo' hi' (j+1)->Q (.tup [v,pt x1 y1,pt x2 y2]) H) :
  ag sub P (n+5) 21 [.tup [v,pt p1 q1,pt p2 q2]] H Q X:=mw zT hv d hj fun lo' hi' x1 y1 x2 y2 O=>hQ _ _ _ _ _ _ (d.step O) (t.step O)
inductive DvI (H:Hp) (u:V) (B:List Int) (N:Int) (be:Re) (n:Nat) (ρ:Loc) (H':Hp):Prop
 |mk (e:H'=H) (j:Nat) (lo hi:Re) (p1 q1 p2 q2:Int) (c0:n+j=100) (c1:PG B N be lo hi p1 q1 p2 q2 j) (c2:Tgt N lo hi j) (c3:j<=52) (c4:ρ=[some u,some (pg B p1 q1 p2 q2),none,none,none])
theorem tM(zT:TT P){u:V}{B:List Int}{N p1 q1 p2 q2:Int}{al lo hi β:Re}{j:Nat}(tB:∃x∈B,x≠0)(d:PG B N al lo hi p1 q1 p2 q2 j)(t:Tgt N lo hi j)(hj:j<=52)(hs:0<p1\/p2<0)(hb:al*β=1)
  (hR:∀ (zs:List Int) (lz:Int) lo' hi' x1 y1 x2 y2 N' H',H<+:H'->zs.getLast?=some lz->lz≠0->zs.length<=B.length->(∀x∈zs,x∈B)->PG (cE zs lz) N' β lo' hi' x1 y1 x2 y2 0->ag sub P (n+7) ti [u,pg (cE zs lz) x1 y1 x2 y2] H' R fun _ _=>False) :
  wpS sub (ag sub P (n+7)) W (tt 8 7 1 ti) [some u,some (pg B p1 q1 p2 q2),none,none,none] H NN R Y:=by
 refine gf (qh d t hj) fun zq29 sp2 sq2=>?_;obtain ⟨sp1,sq1⟩:=zq29
 have p12:p1≠0/\p2≠0:=by
  have h:=(ou d.a1.pos d.a2.pos d.a1.val d.a2.val).mpr d.lh
  have:=d.a1.pos
  have:=d.a2.pos
  rcases hs with g|g
  ·refine ⟨by exact oqz [] [p1] [(.il (0+1) Y0)] (.no (.ie Y0 0)) [101] rfl g,fun k=>?_⟩
   have:=HG g d.a2.pos
   rw[k,IL] at h;exact oqz [] [p1*q2] [(.il (Y0+1) 0),(.il (0+1) Y0)] .ff [11] rfl h this
  ·refine ⟨fun k=>?_,by exact oqz [] [p2] [(.il (Y0+1) 0)] (.no (.ie Y0 0)) [110] rfl g⟩
   have:=HG (show 0 < -p2 by exact oqz [] [p2] [(.il (Y0+1) 0)] (.il (0+1) (.g Y0)) [11] rfl g) d.a1.pos
   rw[Iy] at this
   rw[k,IL] at h;exact oqz [] [p2*q1] [(.il (0+1) Y0),(.il (0+1) (.g Y0))] .ff [11] rfl h this
 dsimp only[tt,qS1,qS2,qS3,qS9,qE1,qE5,aS,bV,aV,dW,aC,aD,kj,bu,bT,d9,dQ,dP,aa,ah,aE]
 refine ⟨B.map .int,rfl,?_⟩
 dsimp only[qS2]
 rw[<- List.map_reverse]
 refine qR zT (v:=.lst H.length) (ai _ _ _) fun zs k hz tz=>?_
 have tz':∃lz,zs.getLast?=some lz/\lz≠0:=by
  rcases tz with rfl|h
  ·refine ac (tB) fun x hx x0=>?_
   rw[List.nil_append] at hz
   have:x∈B.reverse:=List.mem_reverse.mpr hx
   rw[hz] at this
   exact absurd (List.eq_of_mem_replicate this) x0
  ·exact h
 refine ac (tz') fun lz hlz z0=>?_
 have zl:zs.length<=B.length:=by have:=congrArg List.length hz;rw[Ih,Hl] at this;exact oqz [zs.length,B.length,(bO k).length] [] [(.eq Y1 (Y0+Y2))] (.le Y0 Y1) [101] rfl this
 have hln:=d.ln
 refine jG (n:=n+6) (ng:=ngQ) md zT.a8 (fun a b H' Z X' hz=>fS zT hz) (v:=.lst (H++[B.reverse.map V.int]).length) (ai _ _ _) hlz z0 (by exact oqz [zs.length,B.length] [] [(.le Y0 Y1),(.le Y1 13)] (.le Y0 1000) [111] rfl zl hln) ?_
 dsimp only[d6]
 refine ifSome.mk (ai _ _ _) ?_
 refine BE zT p12.2 (k:=221) (sq2.mono (by decide)) sp2 (by decide) fun x1 y1 L1 E1=>?_
 refine BE zT p12.1 (k:=221) (sq1.mono (by decide)) sp1 (by decide) fun x2 y2 L2 E2=>?_
 refine jH (d.inv t hj hs hb hz hlz z0 L1 E1 L2 E2) fun lo' hi' d'=>?_
 exact hR zs lz lo' hi' x1 y1 x2 y2 _ _ (ad (af _ _) (ad (af _ _) (af _ _))) hlz z0 zl (fun x hx=>List.mem_reverse.mp (by rw[hz];exact JR _ hx)) d'
theorem C5(zT:TT P)
  {u:V}{B:List Int}{N p1 q1 p2 q2:Int}{al lo hi β:Re}{b:Nat} (tB:∃x∈B,x≠0) (sB:AllSm b B) (hb:b<=41) (d:PG B N al lo hi p1 q1 p2 q2 0) (t:Tgt N lo hi 0) (hβ:al*β=1)
  (hQ:∀ (zs:List Int) (lz:Int) lo' hi' x1 y1 x2 y2 N' H',H<+:H'->zs.getLast?=some lz->lz≠0->zs.length<=B.length->(∀x∈zs,x∈B)->PG (cE zs lz) N' β lo' hi' x1 y1 x2 y2 0->ag sub P (n+7) 30 [u,pg (cE zs lz) x1 y1 x2 y2] H' Q fun _ _=>False) :
  ag sub P (n+8) 33 [u,pg B p1 q1 p2 q2] H Q X:=by
 have a0:al≠0:=fun h=>jd (by rw[<- hβ,h];grind)
 have nz:=wm a0 tB sB d.rt
 have nz':=zh nz (aI _) (IV (2^b) d.ln)
 refine aj zT.a33 rfl ?_
 dsimp only[pY]
 generalize hT:tU 21 8 7 1 30=T
 dsimp only[qS1,qS2,bC,vl,qE1,qE5,br,aS,aC,aD,aB,az,aw,av,aM,aA,au,aa,ah,Nat.reduceSub]
 refine FX zT d (by decide) ?_
 dsimp only[fA,aU,aa]
 rw[decide_eq_false (fun h=>a0 (rsg_is0.mp h))]
 subst hT
 dsimp only[tU]
 generalize hT:tt 8 7 1 30=T
 dsimp only[Gv,qS1,qS2,qS3,lr,qE5,aS,aC,aD,bK]
 refine ⟨fun ρ H'=>∃n,DvI H u B N al n ρ H',muI (DvI H u B N al),⟨100,rfl,0,lo,hi,p1,q1,p2,q2,rfl,d,t,by decide,rfl⟩,?_⟩
 intro ρ H' hex
 have hI:=nQ hex
 have hle:∀ {n ρ H'},DvI H u B N al n ρ H'->muI (DvI H u B N al) ρ H'<=n:=fun h=>n8 h
 generalize muI (DvI H u B N al)=μ at *
 generalize μ ρ H'=nn at *
 obtain ⟨rfl,j,lo,hi,p1,q1,p2,q2,hj,d,t,hj52,rfl⟩:=hI
 have i1:=fj d.a1.pos d.a1.val
 have i2:=fj d.a2.pos d.a2.val
 dsimp only[Fo,qE1,qE5,br,nR,aV,cF,vE,l9,bu,dQ,dP,aU,aa,ah,aE]
 by_cases c1:p1<=0
 ·rw[decide_eq_true c1]
  dsimp only[bw]
  by_cases c2:0<=p2
  ·rw[decide_eq_true c2]
   have hjj:=GS (i1.2.mp c1) (i2.1.mp c2) d.l d.u t.w nz'
   dsimp only[bw]
   refine vN zT (v:=.tup (B.map .int)) rfl d t (by exact owk (by decide) hj52) fun lo' hi' x1 y1 x2 y2 d' t'=>?_
   have hN:DvI H' u B N al (nn-1) [some u,some (pg B x1 y1 x2 y2),none,none,none] H':=⟨rfl,j+1,_,_,_,_,_,_,by exact oqz [nn-1,nn,j] [] [(.eq (Y1+Y2) 100),(.le Y2 52),(osb Y1 1 Y0)] (.eq (Y0+(Y2+1)) 100) [100101,11100,1000011] rfl hj hj52 (am (nn) (1)),d',t',by exact oqz [j,b] [] [(.le Y1 41),(.le (Y0+1) (Y1+11))] (.le (Y0+1) 52) [111] rfl hb hjj,rfl⟩
   exact ⟨⟨_,hN⟩,HT (hle hN) (by exact oqz [nn-1,nn,j] [] [(.eq (Y1+Y2) 100),(.le Y2 52),(osb Y1 1 Y0)] (.le (Y0+1) Y1) [1000001,11100] rfl hj hj52 (am (nn) (1)))⟩
  ·rw[decide_eq_false c2]
   subst hT
   exact tM zT tB d t hj52 (.inr (by exact oqz [] [p2] [(.no (.il 0 Y0))] (.il (Y0+1) 0) [11] rfl c2)) hβ hQ
 ·rw[decide_eq_false c1]
  subst hT
  exact tM zT tB d t hj52 (.inl (by exact oqz [] [p1] [(.no (.il Y0 0))] (.il (0+1) Y0) [11] rfl c1)) hβ hQ
end
end Mine
namespace Mine
open PySem Re
theorem PgG.peg{R:List Int}{g:Re}{p1 q1 p2 q2:Int}(h:PgG R g p1 q1 p2 q2)(h13:R.length<=13):∃l,BO 1172 1470000 R l p1 q1 p2 q2:=by
 refine ac (h.la) fun l hl l0=>?_
 refine jH (h.ab) fun lo hi A=>?_
 refine gf (h.al) fun v1 v2 tv=>?_
 exact ⟨l,h.l2,Hj h13 (by decide),hl,l0,h.one,h.sm,A.l1,A.l2,(ou A.l1.pos A.l2.pos A.v1 A.v2).mpr (l8 A.lt A.gt),v1,v2,tv⟩
theorem uu{g lo B:Re}{p q:Int}(e:(q:Re)*lo=p):(q:Re)*(B*g)+((0-p:Int):Re)*B=B*((q:Re)*(g-lo)):=by
 rw[eO,ax,<- e];grind
theorem EP{B:Re}(h:B≠0):rsg B*rsg B=1:=by
 by_cases k:0<B
 ·rw[aG k];rfl
 ·rw[aK (show B<0 by grind)];rfl
theorem zC(B:Re):Sm 10 (rsg B):=by
 unfold rsg;split
 ·unfold Sm;decide
 ·split <;> unfold Sm <;> decide
section
variable {sub:Nat->Nat->Bool}{P:List Fn}{n an:Nat}{H:Hp}{Q:V->Hp->Prop}{X:Nat->Hp->Prop}{W:Nat->Prop}{NN:Loc->Hp->Prop}{R:V->Hp->Prop}{Y:Nat->Hp->Prop}{a b:Nat}
theorem v9(zT:TT P){row:List Int}{fd:V}{g T S B:Re}{d:Int}{it ib i j r k:Nat}{o9 o10 o11:Option V}(hd:row[r]?=some d)(sd:Sm 1172 d)(hk:k<=5)(sa:Sm 64 (a:Int))(sb:Sm 64 (b:Int))(h1:L4 a b 64 H it (B*g))(h2:L4 a b 64 H ib B)(h3:L4 a b (2600+200*k) H i T)(h4:L4 a b (10+200*k) H j S)
  (hN:∀H' i' j',H<+:H'->L4 a b (2600+200*(k+1)) H' i' (T*(B*g)+(d:Re)*S)->L4 a b (10+200*(k+1)) H' j' (S*B)->NN [some fd,some (.lst it),some (.lst ib),some (.int a),some (.int b),some (.tup (row.map .int)),some (.lst i'),some (.lst j'),some (.int r),o9,o10,o11] H') :
  wpS sub (ag sub P (n+2)) W (lHo 51 49 50) [some fd,some (.lst it),some (.lst ib),some (.int a),some (.int b),some (.tup (row.map .int)),some (.lst i),some (.lst j),some (.int r),o9,o10,o11] H NN R Y:=by
 dsimp only[lHo,qS1,qS2,qS3,qE5,aS,aV,aC,aD,aa,ah,aE]
 refine uP zT h3 h1 (by exact om [k] [] [(.le Y0 5)] (.le (.a 2600 (.m 200 Y0)) 1900000) [[1,200]] rfl hk) (by decide) sa sb fun H2 m2 p2 k2=>?_
 refine ifSome.mk (aL (show r<(row.map V.int).length by rw[Hi];exact (Hs.mp hd).1)) (ifSome.mk (v:=V.int d) (by rw[HL,hd];rfl) ?_)
 refine iJ zT (h4.keep p2) sd (by exact om [k] [] [(.le Y0 5)] (.le (.a 10 (.m 200 Y0)) 1900000) [[1,200]] rfl hk) (by decide) fun H3 m3 p3 k3=>?_
 refine rS zT ((k2.keep p3).mono (show _<=2600+200*k+194 by exact oqz [k] [] [] (.le (.a (.a (.a 2600 (.m 200 Y0)) 64) 130) (.a (.a 2600 (.m 200 Y0)) 194)) [1] rfl)) (k3.mono (by exact oqz [k] [] [] (.le (.a (.a 10 (.m 200 Y0)) 1172) (.a (.a 2600 (.m 200 Y0)) 194)) [1] rfl)) fun H4 m4 p4 k4=>?_
 have p24:=ad p2 (ad p3 p4)
 refine uP zT (h4.keep p24) (h2.keep p24) (by exact om [k] [] [(.le Y0 5)] (.le (.a 10 (.m 200 Y0)) 1900000) [[1,200]] rfl hk) (by decide) sa sb fun H5 m5 p5 k5=>?_
 exact hN _ _ _ (ad p24 p5) ((k4.keep p5).mono (by exact oqz [k] [] [] (.le (.a (.a (.a 2600 (.m 200 Y0)) 194) 1) (.a 2600 (.m 200 (Y0+1)))) [1] rfl)) (k5.mono (by exact oqz [k] [] [] (.le (.a (.a (.a 10 (.m 200 Y0)) 64) 130) (.a 10 (.m 200 (Y0+1)))) [1] rfl))
theorem wN(zT:TT P){row:List Int}{fd:V}{g B:Re}{it ib:Nat}{o9 o10 o11:Option V}(sm:AllSm 1172 row)(hl:row.length<=5)(sa:Sm 64 (a:Int))(sb:Sm 64 (b:Int))
  (hN:∀H' i j T o8,H<+:H'->L4 a b 4000 H' i T->B*T=0\/evR row g≠0->NN [some fd,some (.lst it),some (.lst ib),some (.int a),some (.int b),some (.tup (row.map .int)),some (.lst i),some (.lst j),o8,o9,o10,o11] H') :
  ∀ (r:Nat) (H1:Hp) (i j:Nat) (T S:Re) (o8:Option V),r<=row.length->H<+:H1->L4 a b 64 H1 it (B*g)->L4 a b 64 H1 ib B->L4 a b (2600+200*(row.length-r)) H1 i T->L4 a b (10+200*(row.length-r)) H1 j S->B*T=S*evR (row.drop r) g ->
  cY (fun ρ2 H2 k=>wpS sub (ag sub P (n+2)) W (lHo 51 49 50) ρ2 H2 k R fun _ _=>False) 8 ((List.range r).reverse.map fun (i:Nat)=>V.int (i:Int)) [some fd,some (.lst it),some (.lst ib),some (.int a),some (.int b),some (.tup (row.map .int)),some (.lst i),some (.lst j),o8,o9,o10,o11] H1 NN
 |0,H1,i,j,T,S,o8,_,hp,_,_,h3,_,he=>by
  refine hN H1 i j T o8 hp (h3.mono (by exact om [row.length-0,row.length] [] [(.le Y1 5),(.an (.le Y1 (Y0+0)) (.le Y0 Y1))] (.le (.a 2600 (.m 200 Y0)) 4000) [[1,200,0,200]] rfl hl (aX (row.length) (0)))) ?_
  rw[List.drop_zero] at he
  by_cases h:evR row g=0
  ·left;rw[he,h];grind
  ·exact .inr h
 |r+1,H1,i,j,T,S,o8,hr,hp,h1,h2,h3,h4,he=>by
  obtain ⟨d,hd⟩:∃d,row[r]?=some d:=⟨row[r],Hx hr⟩
  have hdrop:row.drop r=d::row.drop (r+1):=List.drop_eq_getElem?_toList_append.trans (by rw[hd];rfl)
  have e1:row.length-r=row.length-(r+1)+1:=oqz [row.length-r,row.length,r,row.length-(r+1)] [] [(.le (Y2+1) Y1),(osb Y1 Y2 Y0),(osb Y1 (Y2+1) Y3)] (.eq Y0 (Y3+1)) [10001001,1001011,110,1010001,110001] rfl hr (am (row.length) (r)) (am (row.length) (r+1))
  rw[List.range_succ,JX,List.reverse_singleton,Kg,Hw]
  dsimp only[cY,aE]
  refine v9 zT hd (sm d (IG hd)) (by exact oqz [row.length-(r+1),row.length,r,row.length-r] [] [(.le Y1 5),(.eq Y3 (Y0+1)),(.an (.le Y1 (Y3+Y2)) (.le Y3 Y1))] (.le Y0 5) [101011] rfl hl e1 (aX (row.length) (r))) sa sb h1 h2 h3 h4 fun H5 i' j' p5 k4 k5=>?_
  refine wN zT sm hl sa sb hN r H5 i' j' _ _ _ (Ic hr) (ad hp p5) (h1.keep p5) (h2.keep p5) (e1 ▸ k4) (e1 ▸ k5) ?_
  rw[hdrop,aO]
  have:B*(T*(B*g)+(d:Re)*S)=B*(g*(B*T)+(d:Re)*S):=by grind
  rw[this,he];grind
theorem y6(zT:TT P)
  {row:List Int}{p1 q1 p2 q2:Int}{g B:Re}{it ib:Nat} (h:PgG row g p1 q1 p2 q2) (h5:row.length<=5) (ha:0<a) (hb:0<b) (sa:Sm 64 (a:Int)) (sb:Sm 64 (b:Int)) (hB:B≠0) (h1:L4 a b 64 H it (B*g)) (h2:L4 a b 64 H ib B) (hQ:∀H',H<+:H'->Q (.bool true) H') :
  ag sub P (n+4) 56 [pg row p1 q1 p2 q2,.lst it,.lst ib,.int a,.int b] H Q X:=by
 refine jH (h.ab) fun lo hi A=>?_
 refine aj zT.a56 rfl ?_
 dsimp only[bHo]
 generalize hT:Dp 47 51 50=T
 dsimp only[qS1,qS2,qS3,qS9,bC,dZ,qE1,qE2,qE5,qE8,qE9,br,aS,bV,aV,g7,aC,aD,qI3,cQ,fM,d9,aB,az,aw,av,aM,aA,au,aa,ah,aE,Nat.reduceSub]
 rw[Hi]
 refine CT (by exact owk (by decide) h5) ?_
 have p0:H<+:H++[[V.int 0,V.int 0,V.int 0,V.int 0]]++[[V.int 1,V.int 0,V.int 0,V.int 0]]:=ad (af _ _) (af _ _)
 have z:∀k,Sm k 0:=fun k=>Sm.zero
 have l0:L4 a b 2600 (H++[[V.int 0,V.int 0,V.int 0,V.int 0]]++[[V.int 1,V.int 0,V.int 0,V.int 0]]) H.length 0:=⟨0,0,0,0,ao (af _ _) (ai _ _ _),⟨z _,z _,z _,z _⟩,by unfold v4;show (0:Re)=(0+0*aW a)+(0+0*aW a)*aW b;grind⟩
 have l1:L4 a b 10 (H++[[V.int 0,V.int 0,V.int 0,V.int 0]]++[[V.int 1,V.int 0,V.int 0,V.int 0]]) (H++[[V.int 0,V.int 0,V.int 0,V.int 0]]).length 1:=⟨1,0,0,0,ai _ _ _,⟨Sm.one (k:=9),z _,z _,z _⟩,by unfold v4;show (1:Re)=(1+0*aW a)+(0+0*aW a)*aW b;grind⟩
 generalize H++[[V.int 0,V.int 0,V.int 0,V.int 0]]++[[V.int 1,V.int 0,V.int 0,V.int 0]]=H1 at *
 refine wN zT (n:=n+1) (g:=g) (B:=B) (H:=H1) h.sm h5 sa sb (fun H2 i j T' o8 p1' k1 k2=>?_) row.length H1 _ _ 0 1 _ (Ht _) (JV _) (h1.keep p0) (h2.keep p0) (by rw[Kf];exact l0) (by rw[Kf];exact l1) (by rw[List.drop_length];show _=1*(0:Re);grind)
 have hT0:T'=0:=bE (k2.resolve_right fun h'=>h' h.rt) hB
 subst hT0
 dsimp only[aa,ah]
 refine j8 zT k1 (by decide) ha hb sa sb fun H3 p2'=>?_
 rw[aQ]
 dsimp only[l4,aU,aa]
 rw[decide_eq_true rfl]
 dsimp only[bK,lX]
 subst hT
 have p3:=ad p0 (ad p1' p2')
 have r1:=aG (mul_pos (aP A.l1.pos) (g8 A.lt))
 have r2:=aK (show (q2:Re)*(g-hi)<0 by have:=mul_pos (aP A.l2.pos) (g8 A.gt);grind)
 dsimp only[Dp,qS1,qS2,qS3,qS9,qE1,qE5,qE8,br,nR,aS,aV,aC,aD,cF,cQ,bu,bT,dQ,dP,aa,ah,aE]
 refine j8 zT (h2.keep p3) (by decide) ha hb sa sb fun H4 p4=>?_
 have p34:=ad p3 p4
 refine iJ zT (h1.keep p34) A.l1.bot (by decide) (by decide) fun H5 m5 p5 k5=>?_
 refine iJ zT (h2.keep (ad p34 p5)) (show Sm 1470000 (0-p1) by rw[Int.zero_sub];exact A.l1.top.neg) (by decide) (by decide) fun H6 m6 p6 k6=>?_
 refine rS zT (k5.keep p6) k6 fun H7 m7 p7 k7=>?_
 have p37:=ad p34 (ad p5 (ad p6 p7))
 refine iJ zT (h1.keep p37) A.l2.bot (by decide) (by decide) fun H8 m8 p8 k8=>?_
 refine iJ zT (h2.keep (ad p37 p8)) (show Sm 1470000 (0-p2) by rw[Int.zero_sub];exact A.l2.top.neg) (by decide) (by decide) fun H9 m9 p9 k9=>?_
 refine rS zT (k8.keep p9) k9 fun H10 m10 p10 k10=>?_
 have p310:=ad p8 (ad p9 p10)
 have sB:=zC B
 have sq:=EP hB
 refine j8 zT ((k7.keep p310).eq (uu A.v1)) (by decide) ha hb sa sb fun H11 p11=>?_
 rw[cz,r1,Id]
 refine ⟨IntMulOk.left (sB.mono (by decide)),?_⟩
 rw[sq]
 dsimp only[kJ,aU,aa]
 rw[decide_eq_true (show (0:Int)<1 by decide)]
 dsimp only[bw]
 refine j8 zT ((k10.keep p11).eq (uu A.v2)) (by decide) ha hb sa sb fun H12 p12=>?_
 rw[cz,r2]
 have e2:rsg B*-1*rsg B=-1:=by rw[II,Ir (-1),<- II,sq];rfl
 refine ⟨IntMulOk.right (sB.mono (by decide)),?_⟩
 rw[e2]
 dsimp only[fJ]
 rw[decide_eq_true (show (-1:Int)<0 by decide)]
 exact hQ _ (ad p37 (ad p310 (ad p11 p12)))
end
end Mine
namespace Mine
open PySem Re
theorem PD.toG{row:List Int}{N p1 q1 p2 q2:Int}{al lo hi:Re}(d:PD row N al lo hi p1 q1 p2 q2 0):PG row N al lo hi p1 q1 p2 q2 0:=by
 obtain ⟨σ,hσ,sg⟩:=d.rp.sign
 refine ac (d.tr) fun l hl _=>?_
 refine ⟨⟨σ,hσ,fun x p q _ _ h1 h2=>sg x h1 h2⟩,d.rp.l,d.rp.u,?_,(fun h=>by rw[h] at hl;cases hl),Hj d.ln (by decide),d.sm.mono (by decide),d.n0,?_,d.a1,d.a2,dp d.wd (aZ (by decide)),dp ?_ d.b1,dp d.b2 (aZ (by decide))⟩
 ·refine dy (d.rp.fa) fun c rs _ _ _ _ e=>?_
  rw[e];grind
 ·exact dE (c:=1073741824) (by have:=d.n0;exact oqz [] [N] [(.il (0+1) Y0)] (.il (.g 1073741824) Y0) [11] rfl this) d.n1 (by unfold Sm;decide)
 ·have:=aZ (show (1073741824:Int)<=2^200 by decide)
  generalize ((2^200:Int):Re)=z at *
  grind
theorem PD.tgt{row:List Int}{N p1 q1 p2 q2:Int}{al lo hi:Re}(d:PD row N al lo hi p1 q1 p2 q2 0):Tgt N lo hi 0:=by
 refine ⟨dE (c:=1073741824) (by have:=d.n0;exact oqz [] [N] [(.il (0+1) Y0)] (.il (.g 1073741824) Y0) [11] rfl this) d.n1 (by unfold Sm;decide),dp d.wd (aZ (by decide)),dp ?_ d.b1,dp d.b2 (aZ (by decide))⟩
 have:=aZ (show (1073741824:Int)<=2^31 by decide)
 generalize ((2^31:Int):Re)=z at *
 grind
theorem QD.r0G{p q r:Int}{d:Nat}(h:QD p q r d):0<r:=by have:=h.r1;exact oqz [] [r] [(.il 1 Y0)] (.il (0+1) Y0) [11] rfl this
theorem QD.bdG{p q r:Int}{d:Nat}(h:QD p q r d):ab (qal p q r d)<=((2000000:Int):Re):=by
 have b:=gL (nN (dN (n:=p) (c:=1000000) h.p1 h.p2) h.bds) (show (1000000+36:Int)<=2000000 by decide)
 have k:=d7 ((p:Re)+q*aW d)
 obtain ⟨k1,k2⟩:=qP (c:=2000000) h.r0G (by decide) (gw h.r0G) (by have:=dp k.2 b;grind) (dp k.1 b)
 exact iF k1 k2
theorem xn{g t:Re}{R M Z:Int}(hR:0<R)(e:ab g=(R:Re)*t)(h0:0<=t){m:Re}(h:1<=ab g*m)(hm:m<=(M:Re))(hM:R*M<=Z):1<=(Z:Re)*t:=by
 have k1:=aZ hM
 rw[aq] at k1
 have hR':=aP hR
 have k2:=ae (ae (Hu hR') h0) (show 0<=(M:Re)-m by exact dH (hm))
 have k3:=ae h0 (show 0<=(Z:Re)-(R:Re)*M by exact dH (k1))
 rw[e] at h
 generalize (Z:Re)=z at *
 clear k1 e hM hm hR
 grind
theorem y8{R u v U Y S Z:Int}{a:Nat}{al be:Re}(hR:0<R)(e:(R:Re)*(al-be)=u+v*aW a)(hu:ab (u:Re)<=U)(hv:ab (v:Re)<=Y)(ha:ab (aW a)<=S)(hM:R*(U+Y*S+1)<=Z)(h:al≠be):1<=(Z:Re)*ab (al-be):=by
 have h0:=oY hR e h
 have s:=GU u v a h0
 have i0:(0:Re)<=1:=Hu Im
 have n1:=aI ((u:Re)-v*aW a)
 refine xn (g:=(R:Re)*(al-be)) (t:=ab (al-be)) hR (sH hR _) (aI _) (by rw[e];exact s) (M:=U+Y*S+1) ?_ hM
 have:=EN hu (jf hv ha)
 have one':((1:Int):Re)=1:=rfl
 rw[bq _ 1,one'];grind
theorem QD.nzG{p q r:Int}{d:Nat}(h:QD p q r d)(h0:qal p q r d≠0):1<=((8388608:Int):Re)*ab (qal p q r d):=by
 have q0:=h.q0
 have e:=gw (p:=p) (q:=q) (d:=d) h.r0G
 have:=y8 (a:=d) (u:=p) (v:=q) (U:=1000000) (Y:=6) (S:=6) (Z:=8388608) (al:=qal p q r d) (be:=0) h.r0G (by rw[<- e];grind) (dN h.p1 h.p2) (dN (by exact oqz [] [q] [(.or (.an (.il 1 Y0) (.il Y0 6)) (.an (.il (.g 6) Y0) (.il Y0 (.g 1))))] (.il (.g 6) Y0) [11] rfl q0) (by exact oqz [] [q] [(.or (.an (.il 1 Y0) (.il Y0 6)) (.an (.il (.g 6) Y0) (.il Y0 (.g 1))))] (.il Y0 6) [101] rfl q0)) (tq (by decide) (by have:=h.d2;exact oqz [d] [] [(.le Y0 30)] (.il (.a (.c Y0) 1) (.m 6 6)) [11] rfl this)) (Il (Int.mul_le_mul_of_nonneg_right h.r2 (by decide)) (by decide)) h0
 rwa [show qal p q r d-0=qal p q r d by grind] at this
theorem QD.quo{p q r p' q' r':Int}{d d':Nat}{β:Re}(h:QD p q r d)(h':QD p' q' r' d')(e:qal p' q' r' d'*β=1):ab (qal p q r d*β)<=(((2^50:Nat):Int):Re):=by
 have b0:qal p' q' r' d'≠0:=fun k=>jd (by rw[<- e,k];grind)
 have k1:=h'.nzG b0
 have k2:ab (qal p' q' r' d')*ab β=1:=by rw[<- dk,e];unfold ab;rw[if_pos (Hu Im)]
 have hβ:ab β<=((8388608:Int):Re):=by
  have:=ae (dH k1) (aI β)
  have e2:(((8388608:Int):Re)*ab (qal p' q' r' d')-1)*ab β=((8388608:Int):Re)*(ab (qal p' q' r' d')*ab β)-ab β:=by grind
  rw[e2,k2] at this
  generalize ((8388608:Int):Re)=z at *
  grind
 exact gL (jf h.bdG hβ) (by decide)
section
variable {p q r:Int}{d:Nat}{row:List Int}{g A L U p1 q1 p2 q2:Int}
theorem QP.sm41(h:QP p q r d row g A L U p1 q1 p2 q2):AllSm 41 row:=by
 have hg:=h.hg
 have he:=h.e
 have b1:=h.qd.p1;have b2:=h.qd.p2;have q0:=h.qd.q0;have d1:=h.qd.d1;have d2:=h.qd.d2;have r1:=h.qd.r1;have r2:=h.qd.r2
 have key:∀ {x y:Int},g*x=y->Sm 41 y->Sm 41 x:=fun {x y} e s=>by
  unfold Sm at *
  rw[<- e,HV] at s
  exact HT (J9 _ (Je.mpr hg)) s
 have e40:(2:Nat)^41=2199023255552:=by decide
 have pp:p.natAbs*p.natAbs<=1000000*1000000:=Iv (by exact oqz [p.natAbs] [p] [(.il (.g 1000000) Y0),(.il Y0 1000000),(ona Y0 Y0)] (.le Y0 1000000) [10101,10011] rfl b1 b2 (bm (p))) (by exact oqz [p.natAbs] [p] [(.il (.g 1000000) Y0),(.il Y0 1000000),(ona Y0 Y0)] (.le Y0 1000000) [10101,10011] rfl b1 b2 (bm (p)))
 have qq:q.natAbs*q.natAbs<=6*6:=Iv (by exact oqz [q.natAbs] [q] [(.or (.an (.il 1 Y0) (.il Y0 6)) (.an (.il (.g 6) Y0) (.il Y0 (.g 1)))),(ona Y0 Y0)] (.le Y0 6) [10101,10011] rfl q0 (bm (q))) (by exact oqz [q.natAbs] [q] [(.or (.an (.il 1 Y0) (.il Y0 6)) (.an (.il (.g 6) Y0) (.il Y0 (.g 1)))),(ona Y0 Y0)] (.le Y0 6) [10101,10011] rfl q0 (bm (q)))
 have qd:=Iv qq d2
 have s0:Sm 41 (p*p-q*q*d):=by
  have sp:Sm 20 p:=dE (c:=1000000) b1 b2 (by unfold Sm;decide)
  have s9:Sm 40 (q*q*d):=by
   unfold Sm;rw[HV,HV]
   exact HT qd (by decide)
  exact ((sp.mul sp).mono (by decide)).sub s9
 have s1:Sm 41 (-2*p*r):=by
  have sp:Sm 20 p:=dE (c:=1000000) b1 b2 (by unfold Sm;decide)
  have sr:Sm 3 r:=dE (c:=7) (by exact oqz [] [r] [(.il 1 Y0)] (.il (.g 7) Y0) [11] rfl r1) r2 (by unfold Sm;decide)
  have s2:Sm 2 (-2:Int):=by unfold Sm;decide
  exact ((s2.mul sp).mul sr).mono (by decide)
 have s2:Sm 41 (r*r):=by
  have sr:Sm 3 r:=dE (c:=7) (by exact oqz [] [r] [(.il 1 Y0)] (.il (.g 7) Y0) [11] rfl r1) r2 (by unfold Sm;decide)
  exact (sr.mul sr).mono (by decide)
 have hl:=h.len
 refine DX (GM hl) fun c0 c1 c2 zq30=>?_;subst zq30
 obtain ⟨e0,he⟩:=Kn he
 obtain ⟨e1,he⟩:=Kn he
 obtain ⟨e2,_⟩:=Kn he
 exact .cons (key e0 s0) (.cons (key e1 s1) (.cons (key e2 s2) .nil))
theorem QP.rwb(h:QP p q r d row g A L U p1 q1 p2 q2):∃A0 l,RwB row A0 l 41/\A0.length=2/\row.getLast?=some l:=by
 refine ac (h.la) fun l hl l0=>?_
 refine ac (RwB.of hl l0 (by rw[h.len];decide) h.sm41) fun A0 hA e=>?_
 rw[h.len] at e
 exact ⟨A0,l,hA,by exact oqz [A0.length] [] [(.eq (Y0+1) 3)] (.eq Y0 2) [101,11] rfl e,hl⟩
end
theorem vD{R:List Int}{l:Int}{g:Re}(hl:R.getLast?=some l)(l0:0<l)(e:evR R g=0):2<=R.length:=by
 match R,hl,e with
 | [x],hl,r =>
  cases hl
  rw[aO,d3] at r
  exact absurd (ft (show (x:Re)=((0:Int):Re) by rw[ax];grind)) (Ho l0)
 |_::_::r,_,_=>simp
theorem at0{xs:List Int}(h:xs≠[])(e:evR xs 0=0):∃r,xs=0::r:=by
 cases xs with
 |nil=>exact absurd rfl h
 |cons c r =>
  rw[aO] at e
  have:c=0:=ft (by rw[ax];grind)
  exact ⟨r,by rw[this]⟩
section
variable {sub:Nat->Nat->Bool}{P:List Fn}{n kc ha re tr pa ti:Nat}{H:Hp}{Q:V->Hp->Prop}{X:Nat->Hp->Prop}
theorem FO(zT:TT P){r:List Int}{p1 q1 p2 q2:Int}(h1:p1<0)(h2:0<p2)(hQ:Q (.int 0) H):ag sub P (n+2) 22 [pg (0::r) p1 q1 p2 q2] H Q X:=by
 refine aj zT.a22 rfl ?_
 dsimp only[bSp]
 generalize hT:wI 6=T
 dsimp only[pg,qS1,qS2,qS4,qS9,bC,qE1,qE5,br,aV,l9,bu,aU,aB,az,aw,av,aM,aA,au,eJ,aa,fG,ah,aE,iC,Nat.reduceSub,Nat.reduceAdd,List.length_nil]
 refine ⟨rfl,?_⟩
 rw[decide_eq_false (IT.mpr h1)]
 subst hT
 dsimp only[wI]
 generalize hT:xq 6=T
 dsimp only[qS1,qS2,qS9,bC,qE1,qE5,qE9,br,aV,vE,bu,aU,bK,aa,ah]
 rw[decide_eq_false (IT.mpr h2)]
 subst hT
 dsimp only[xq]
 generalize hT:wy 6=T
 dsimp only[qS1,qS2,qS9,bC,qE1,qE5,br,aV,bK,aa,ah]
 refine wa (i:=0) (x:=0) rfl rfl ?_
 exact hQ
theorem Fd(zT:TT P){W:Nat->Prop}{NN:Loc->Hp->Prop}{R:V->Hp->Prop}{u:V}{r:List Int}{p1 q1 p2 q2:Int}{o2 o3 o4:Option V}(h1:p1<0)(h2:0<p2)(hX:X kc H):wpS sub (ag sub P (n+2)) W (pY kc 22 ha re tr pa ti) [some u,some (pg (0::r) p1 q1 p2 q2),o2,o3,o4] H NN R X:=by
 dsimp only[pY]
 generalize tU ha re tr pa ti=T
 dsimp only[qS1,qS2,bC,vl,qE1,qE5,br,aS,aC,aD,aa,ah]
 refine FO zT h1 h2 ?_
 exact hX
end
theorem PgG.zero{R:List Int}{p1 q1 p2 q2:Int}(h:PgG R 0 p1 q1 p2 q2):(∃r,R=0::r)/\p1<0/\0<p2:=by
 refine jH (h.ab) fun lo hi A=>?_
 refine ⟨at0 (fun k=>by have:=h.l2;rw[k] at this;exact absurd this (by decide)) h.rt,?_,?_⟩
 ·exact IT.mp fun k=>JI.mpr A.lt ((fj A.l1.pos A.v1).1.mp k)
 ·exact IT.mp fun k=>JI.mpr A.gt ((fj A.l2.pos A.v2).2.mp k)
theorem PG.zero{R:List Int}{N p1 q1 p2 q2:Int}{lo hi:Re}{j:Nat}(h:PG R N 0 lo hi p1 q1 p2 q2 j):(∃r,R=0::r)/\p1<0/\0<p2:=
 ⟨at0 h.ne h.rt,IT.mp fun k=>JI.mpr h.l ((fj h.a1.pos h.a1.val).1.mp k),IT.mp fun k=>JI.mpr h.u ((fj h.a2.pos h.a2.val).2.mp k)⟩
end Mine
namespace Mine
open PySem PySem.W PySem.Calls PyProof.Rows PySem.Builtin PySem.Builtin.ObjectAttr PySem.Builtin.Getset_descriptor
noncomputable def BL(a C:Addr)(h:Heap):Prop:=∃o,h.get? a=some o/\o.cls=.ref C
section
variable {K:Frag}{prog:Program}{w:World}{A:Around}{h:Heap}{g:Array GenState}{d:Drawn}{t:Nat}{os:OsState}{a C:Addr}{o:Obj}
theorem t8{h₀:Heap}{L:Addr}{news:List (Addr × Obj)}(N:News h₀ L h news)(hm:(a,o)∈news)(hc:o.cls=.ref C):BL a C h:=⟨o,(N _ hm).1,hc⟩
theorem vq{h₀:Heap}{L:Addr}{news:List (Addr × Obj)}{q:Addr × Obj}(N:News h₀ L h news)(hq:h.get? q.1=some q.2/\q.1≠L/\h₀.get? q.1=none):News h₀ L h (q::news):=fun p hp=>by
 rcases HM.mp hp with rfl|hp
 ·exact hq
 ·exact N p hp
theorem lw(M:Model)(hx:h.get? a=some o)(hc:o.cls=.ref C):Looks M h (typeOf (.ref a)) (.ref C):=hc ▸ (Looks.ld hx).andThen .now
theorem lW{tp:Value}{R:Result->Shared->Prop} (X:K.In h) (hx:h.get? a=some o) (hc:o.cls=.ref C) (hm:mroIn K C (.type "object")=some true)
  (hq:R (.ok (.ret (.ref C))) ⟨h,g,d,t,os⟩):codeAny (model prog w) A (.call (.builtin "getset_descriptor.__get__") ⟨[.builtin "object.__class__",.ref a,tp],[]⟩) R ⟨h,g,d,t,os⟩:=by
 have L0:=lw (model prog w) hx hc
 have L1:=looks_mroIn (M:=model prog w) X hm
 refine codeAny_call_builtin KF.slot_gs.plain KF.entry_gs (KF.slot_gs.check _ _ _ _ _ _ _ _ KF.type_class (KF.args_gs _ _ _) ?_)
 unfold Builtin.«getset_descriptor.__get__» descrGet
 rw[dga_obj]
 refine Hk (HC ?_)
 unfold descrGetter descrCheckInstance descrNameAndClass isInstance
 simp only[KF.owner_class]
 repeat lk
 refine ⟨Code.quiet_builtin _ (by decide +kernel),codeAny_builtin KF.entry_class ?_⟩
 unfold Builtin.«object.__class__» shownTypeOf
 repeat lk
 exact hq
end
section
variable {K:Frag}{prog:Program}{w:World}{A:Around}{E:Value->Shared->Prop}{h:Heap}{g:Array GenState}{d:Drawn}{t:Nat}{os:OsState}{a C:Addr}{o:Obj}
theorem n6{M:Model}{nameV:Value}{Q:Unit->Shared->Prop} (X:K.In h) (hx:h.get? a=some o) (hc:o.cls=.ref C) (hb:subIn K (.ref C) (.type "BaseException")=some true)
  (hq:Q () ⟨h,g,d,t,os⟩):wpAny M A (checkBuiltinCall "BaseException.__getattribute__" ⟨[.ref a,nameV],[]⟩) Q E ⟨h,g,d,t,os⟩:=by
 have hk:builtinKind "BaseException.__getattribute__"=some .slot:=by decide +kernel
 have hsplit:splitId "BaseException.__getattribute__"=some ("BaseException","__getattribute__"):=by decide +kernel
 have L0:=lw M hx hc
 have L1:Looks M h (isSubtype (.ref C) (.type "BaseException")) true:=looks_subIn X hb
 have ha:=F.args_bexc_ga (.ref a) nameV
 simp only[checkBuiltinCall,hk,hsplit]
 refine Hk ?_
 ·unfold isInstance
  refine Hk (L0.at (L1.at ?_))
  repeat (first|wp_step)
  exact hq
theorem jS{tk:Tok}{Q:Fin->Shared->Prop} (X:K.In h) (hx:h.get? a=some o) (hc:o.cls=.ref C) (f3:findIn K (.ref C) "__class__"=some (some (.builtin "object.__class__"))) (hm:mroIn K C (.type "object")=some true)
  (hq:Q (.done (.ret (.ref C))) ⟨h,g,d,t,os⟩):wpAny (model prog w) A (Builtin.«object.__getattribute__» ⟨[.ref a,.str "__class__" tk],[]⟩) Q E ⟨h,g,d,t,os⟩:=by
 have L0:=lw (model prog w) hx hc
 have L1:=looks_findIn (M:=model prog w) X f3
 have hT5:(⟨h,g,d,t,os⟩:Shared).TypeIs (.builtin "object.__class__") "getset_descriptor":=F.typeOf_object_class
 have f5:=F.typeOf_object_class
 have f6:=F.slot_gs_get.lookup
 have f7:=F.slot_gs_set.lookup
 repeat (any_goals (first|assumption|with_reducible refine L0.at ?_|with_reducible refine L1.at ?_|wp_step))
 refine lW X hx hc hm ?_
 repeat (any_goals (first|assumption|wp_step))
theorem nJ{tk:Tok}{Q:Value->Shared->Prop} (X:K.In h) (hx:h.get? a=some o) (hc:o.cls=.ref C) (hb:subIn K (.ref C) (.type "BaseException")=some true) (f1:findIn K (.ref C) "__getattribute__"=some (some (.builtin "BaseException.__getattribute__")))
  (f2:findIn K (.ref C) "__getattr__"=some none) (f3:findIn K (.ref C) "__class__"=some (some (.builtin "object.__class__"))) (hm:mroIn K C (.type "object")=some true) (hq:Q (.ref C) ⟨h,g,d,t,os⟩) :
  wpAny (model prog w) A (getAttrBy (.ref a) (.str "__class__" tk) false) Q E ⟨h,g,d,t,os⟩:=by
 have L0:=lw (model prog w) hx hc
 have L1:=looks_findIn (M:=model prog w) X f1
 have L2:=looks_findIn (M:=model prog w) X f2
 have f3':=F.attr_ValueError.ga.bind (.ref a)
 have hx2:(Value.builtin "BaseException.__getattribute__" == Value.builtin "object.__getattribute__")=false:=by decide +kernel
 have hx1:(onTheHeap (Value.ref C) && Value.builtin "BaseException.__getattribute__" == Value.builtin "object.__getattribute__")=false:=by rw[hx2];rfl
 repeat (any_goals (first|assumption|with_reducible refine L0.at ?_|with_reducible refine L1.at ?_|with_reducible refine L2.at ?_|wp_step))
 refine codeAny_call_builtin F.attr_ValueError.ga.plain F.entry_bexc_ga (n6 X hx hc hb (jS X hx hc f3 hm ?_))
 repeat (any_goals (first|assumption|wp_step))
theorem lP{Q:Option Value->Shared->Prop} (X:K.In h) (hx:h.get? a=some o) (hc:o.cls=.ref C) (hb:subIn K (.ref C) (.type "BaseException")=some true) (f1:findIn K (.ref C) "__getattribute__"=some (some (.builtin "BaseException.__getattribute__")))
  (f2:findIn K (.ref C) "__getattr__"=some none) (f3:findIn K (.ref C) "__class__"=some (some (.builtin "object.__class__"))) (hm:mroIn K C (.type "object")=some true) (hq:Q (some (.ref C)) ⟨h,g,d,t + 1,os⟩) :
  wpAny (model prog w) A (getAttr? (.ref a) "__class__") Q E ⟨h,g,d,t,os⟩:=by
 unfold getAttr? getAttrBy?
 repeat (any_goals (first|assumption|with_reducible apply nJ X hx hc hb f1 f2 f3 hm|wp_step))
theorem mt{K:Frag}{C:Addr}{cd:ClassData}(h:clsIn K C=some cd):∃o:Obj,K.lookup C=some o/\o.data=.cls cd:=by
 unfold clsIn at h
 cases ho:K.lookup C with
 |none=>rw[ho] at h;cases h
 |some o =>
  rw[ho] at h
  obtain ⟨a,b,dt,e⟩:=o
  refine ⟨_,rfl,?_⟩
  cases dt <;> first|cases h;rfl|cases h
theorem oA(hb:subIn K (.ref C) (.type "BaseException")=some true) (f1:findIn K (.ref C) "__getattribute__"=some (some (.builtin "BaseException.__getattribute__")))
  (f2:findIn K (.ref C) "__getattr__"=some none) (f3:findIn K (.ref C) "__class__"=some (some (.builtin "object.__class__"))) (hm:mroIn K C (.type "object")=some true) :
  KitX K (.ref a) (.ref C) (BL a C) where
 ty:=fun M h _ p=>by obtain ⟨o,hx,hc⟩:=p;exact lw M hx hc
 it:=fun _ _ X _=>by
  obtain ⟨cdD,hcl,_⟩:=Jg.mp hm
  obtain ⟨o,ho,hd⟩:=mt hcl
  intro A' Q' E' s' k q
  unfold isType loadHead
  exact Hk (wpAny_loadPart (k _ _ (X _ _ ho)) (HC (by rw[hd];exact q)))
 ne:=fun h tp dd its n sl X htp=>by
  refine Bool.eq_false_iff.mpr fun q=>?_
  have e:C=tp:=Value.ref.inj (beq_iff_eq.mp q)
  subst e
  obtain ⟨cdD,hcl,_⟩:=Jg.mp hm
  obtain ⟨o,ho,hd⟩:=mt hcl
  have z:=(X _ _ ho).symm.trans htp
  cases z
  cases hd
 ca:=fun {_ _ _ _ _ s} X p k=>by
  obtain ⟨h,g,d,t,os⟩:=s
  obtain ⟨o,hx,hc⟩:=p
  exact lP X hx hc hb f1 f2 f3 hm k
end
end Mine
namespace Mine
noncomputable abbrev GI:PE:=.var 12
noncomputable abbrev G9:PE:=.cint 11
namespace L11
open PySem
noncomputable def uH:PS:=(.seq (.ret (.call 29 (ss2 vv0 (.call 31 (ss1 vv1)))))
 .skip)
noncomputable def b_divided:PS:=pY 5 22 21 8 7 1 30
noncomputable def oq:PS:=(.seq (.assign 12 (.lst (.cons (.bin .mul (.idx vv2 kk0) (.idx vv3 kk2)) (ss3 (.bin .mul (.idx vv2 kk1) (.idx vv3 kk2)) kk0 kk0))))
 (.seq (.ret (.call 56 (.cons BA (.cons GI (ss3 (.lst (.cons (.bin .mul (.idx vv3 kk0) (.idx vv2 kk2)) (ss3 kk0 (.bin .mul (.idx vv3 kk1) (.idx vv2 kk2)) kk0))) vv5 vv6)))))
 .skip))
noncomputable def j4:PS:=(.seq (.assign 11 (.call 33 (ss2 vv7 vv8)))
 (.seq (.ite (.or (ss2 (.nt (.call 44 (ss1 BA))) (.cmp .gt (.bi .len (ss1 (.idx BA kk0))) kk5))) (.seq (.ret (.cbool false))
 .skip) .skip)
 oq))
noncomputable def ki:PS:=(.seq (.assign 9 (.bin .add kk2 (.bin .mod (.call 35 (ss2 vv0 G9)) GB)))
 (.seq (.assign 10 (.tup (ss3 (.tup (.cons kk0 (ss3 (.bin .sub kk0 vv9) kk0 kk1))) (.tup (ss2 (.neg kk1) kk1)) (.tup (ss2 kk1 kk1)))))
 (.seq (.randt [(57,(ss2 vv7 Dq)),(57,(ss2 vv8 (.call 32 (ss2 vv7 vv7))))])
 .skip)))
noncomputable def j6:PS:=(.seq (.assign 5 (.idx vv2 kk3))
 (.seq (.assign 6 (.idx vv3 kk3))
 (.seq (.assign 7 (.call 53 (.cons (.idx vv2 kk0) (ss3 (.idx vv2 kk1) (.idx vv2 kk2) vv5))))
 (.seq (.assign 8 (.call 53 (.cons (.idx vv3 kk0) (ss3 (.idx vv3 kk1) (.idx vv3 kk2) vv6))))
 (.seq (.ite (.cmp .eq (.call 46 (ss3 (.idx vv3 kk0) (.idx vv3 kk1) vv6)) kk0) (.seq (.iort [(57,(ss2 vv7 vv8)),(57,(ss2 vv7 (.tup (ss3 (.tup (ss2 kk0 kk1)) (.tup (ss2 (.neg kk2) kk1)) (.tup (ss2 kk1 kk3))))))])
 ki) .skip)
 j4)))))
noncomputable def b_law:PS:=(.seq (.assign 1 (.call 55 (ss1 vv0)))
 (.seq (.assign 2 (.idx vv1 kk0))
 (.seq (.assign 3 (.idx vv1 kk1))
 (.seq (.ite (.cmp .eq (.bin .mod (.call 35 (ss2 vv0 kk9)) kk5) kk1) (.seq (.assign 4 (.bin .add kk1 (.bin .mod (.call 35 (ss2 vv0 Gz)) kk5)))
 (.seq (.assign 3 (.tup (.cons (.bin .sub kk0 (.bin .mul (.idx vv3 kk1) vv4)) (ss3 (.idx vv3 kk1) (.idx vv3 kk2) (.bin .mul vv4 vv4)))))
 .skip)) .skip)
 j6))))
noncomputable def fnNames:List Str:=[(Str.ofString "divisor"),(Str.ofString "part"),(Str.ofString "below"),(Str.ofString "part_sum"),(Str.ofString "part_product"),(Str.ofString "turned_about"),(Str.ofString "sign_at"),(Str.ofString "trimmed"),(Str.ofString "reduced"),(Str.ofString "slope"),(Str.ofString "without_last"),(Str.ofString "rest_of"),(Str.ofString "common"),(Str.ofString "quotient"),(Str.ofString "plain"),(Str.ofString "multiplied"),(Str.ofString "seen"),(Str.ofString "turns"),(Str.ofString "is_alone"),(Str.ofString "width_of"),(Str.ofString "narrowed"),(Str.ofString "halved"),(Str.ofString "sign_of_peg"),(Str.ofString "power_sums"),(Str.ofString "signed"),(Str.ofString "row_of"),(Str.ofString "settled"),(Str.ofString "sum_bounds"),(Str.ofString "product_bounds"),(Str.ofString "added"),(Str.ofString "times"),(Str.ofString "opposite"),(Str.ofString "taken"),(Str.ofString "divided"),(Str.ofString "_law_whole"),(Str.ofString "_law_cell_at"),(Str.ofString "_law_divisor"),(Str.ofString "_law_part"),(Str.ofString "_law_smallest"),(Str.ofString "_law_value"),(Str.ofString "_law_by"),(Str.ofString "_law_seen"),(Str.ofString "_law_turns"),(Str.ofString "_law_is_part"),(Str.ofString "_law_is_peg"),(Str.ofString "_law_sign"),(Str.ofString "_law_two"),(Str.ofString "_law_four"),(Str.ofString "_law_mul"),(Str.ofString "_law_product"),(Str.ofString "_law_many"),(Str.ofString "_law_and"),(Str.ofString "_law_ends"),(Str.ofString "_law_quad_peg"),(Str.ofString "_law_quad"),(Str.ofString "_law_two_quads"),(Str.ofString "_law_holds"),(Str.ofString "_law_refused"),(Str.ofString "law")]
noncomputable def clsNames:List Str:=["PegError","NoPart","NoRow","NoStretch","NotAlone","NoQuotient","ValueError"]
noncomputable def fnTab:List Fn:=[⟨2,3,x6⟩,⟨2,3,n4 0⟩,⟨2,2,qX⟩,⟨2,2,v5 1⟩,⟨2,2,rO 1⟩,⟨1,1,BJ⟩,⟨2,5,xI⟩,⟨1,2,x7⟩,⟨1,3,vk 0 ngQ⟩,⟨1,1,so⟩,⟨4,7,bWl⟩,⟨2,3,xb 7 10 8⟩,⟨2,3,oo 11 8⟩,⟨2,5,yg 10⟩,⟨1,2,rG 7 8 13 12 9⟩,⟨3,5,DN⟩,⟨3,9,vU 15⟩,⟨3,6,rI 16⟩,⟨3,3,rU 6 17⟩,⟨1,1,C6 3 5⟩,⟨2,8,rR 3 2 3 4 5 6⟩,⟨1,1,xP 20 4 19⟩,⟨1,4,bSp 6⟩,⟨2,7,C3 1 3 4⟩,⟨2,2,Er 5⟩,⟨1,10,bRo 0 3 4 24 14⟩,⟨4,6,Et 18 21 27⟩,⟨2,2,yV 3⟩,⟨2,8,bPB 2 4⟩,⟨2,11,CP 23 3 4 26 25 27⟩,⟨2,6,E0 23 4 26 25 28⟩,⟨1,3,EW 8 5⟩,⟨2,2,uH⟩,⟨2,5,b_divided⟩,⟨1,1,w7⟩,⟨2,2,yF⟩,⟨2,3,Ej⟩,⟨2,3,uB 36⟩,⟨1,3,vk 36 ngL⟩,⟨2,5,EA⟩,⟨2,5,bBy⟩,⟨3,7,qF 40⟩,⟨3,6,od 41⟩,⟨1,1,n7 34 37⟩,⟨1,4,rh 34 38 43 39 42⟩,⟨1,1,qB⟩,⟨3,3,DL 45⟩,⟨3,7,yX 46 45 48⟩,⟨3,3,wK⟩,⟨4,8,qO 48⟩,⟨2,2,qE⟩,⟨2,2,xN⟩,⟨4,5,zd 37⟩,⟨4,5,yY 52 38⟩,⟨2,5,xH 35⟩,⟨1,4,bTq 35 54⟩,⟨5,12,bHo 47 51 49 50⟩,⟨2,3,.opaq⟩,⟨1,13,b_law⟩]
theorem zT0:TT fnTab:=⟨rfl,rfl,rfl,rfl,rfl,rfl,rfl,rfl,rfl,rfl,rfl,rfl,rfl,rfl,rfl,rfl,rfl,rfl,rfl,rfl,rfl,rfl,rfl,rfl,rfl,rfl,rfl,rfl,rfl,rfl,rfl,rfl,rfl,rfl,rfl,rfl,rfl,rfl,rfl,rfl,rfl,rfl,rfl,rfl,rfl,rfl,rfl,rfl,rfl,rfl,rfl,rfl,rfl,rfl,rfl,rfl⟩
noncomputable def varTab:List (List Str):=([["one","other","rest"],["top","bottom","many"],["one","other"],["one","other"],["one","other"],["one"],["row","at","value","scale","number"],["row","found"],["row","many","number"],["row"],["left","other","many","scale","found","ahead","k"],["one","other","left"],["one","other","rest"],["one","other","left","found","many"],["row","kept"],["row","first","second","found","k"],["row","low","high","begin","end","scale","found","power","number"],["row","low","high","many","ahead","number"],["row","low","high"],["one"],["one","width","row","low","high","middle","side","step"],["one"],["one","row","low","high"],["row","many","last","found","power","total","k"],["one","k"],["sums","many","found","power","total","k","scale","one","row","told"],["row","bounds","one","other","low","high"],["one","other"],["one","other","corners","first","second","low","high","corner"],["one","other","many","left","right","sums","choices","power","total","k","both"],["one","other","many","left","right","sums"],["one","row","k"],["one","other"],["one","other","row","low","high"],["_law_found"],["_law_script","_law_k"],["_law_one","_law_other","_law_over"],["_law_top","_law_bottom","_law_by_here"],["_law_row","_law_by_here","_law_one"],["_law_row","_law_at","_law_total","_law_scale","_law_k"],["_law_row","_law_other","_law_found","_law_k","_law_j"],["_law_row","_law_low","_law_high","_law_found","_law_k","_law_made","_law_j"],["_law_row","_law_low","_law_high","_law_count","_law_last","_law_one"],["_law_found"],["_law_found","_law_row","_law_low","_law_high"],["_law_number"],["_law_x","_law_y","_law_a"],["_law_one","_law_a","_law_b","_law_left","_law_right","_law_x","_law_y"],["_law_x","_law_y","_law_a"],["_law_one","_law_two_here","_law_a","_law_b","_law_x","_law_y","_law_z","_law_w"],["_law_one","_law_by_here"],["_law_one","_law_two_here"],["_law_p","_law_q","_law_r","_law_d","_law_above"],["_law_p","_law_q","_law_r","_law_d","_law_ends_here"],["_law_script","_law_k","_law_p","_law_q","_law_r"],["_law_script","_law_one","_law_two_here","_law_way"],["_law_found","_law_top","_law_bottom","_law_a","_law_b","_law_row","_law_total","_law_scale","_law_k","_law_side","_law_low","_law_high"],["_law_left","_law_right","e"],["_law_script","_law_pair","_law_one","_law_two_here","_law_root","_law_a","_law_b","_law_left","_law_right","_law_many_here","_law_nought","_law_found","_law_top"]]:List (List String)).map fun l=>l.map Str.ofString
end L11
end Mine
namespace Mine
namespace L11
open PySem Re
noncomputable def nosub:Nat->Nat->Bool:=fun _ _=>false
noncomputable def Psi:Nat->List V->Hp->(V->Hp->Prop)->Prop:=fun k vs H Q=>k=57/\vs.length=2/\wpS nosub (ag nosub fnTab 7) (fun m=>H.length<=m) b_divided (cI 2 5 vs) H (fun _ _=>False) (fun _ _=>False) (fun c H'=>c=5/\Q (.bool true) H)
noncomputable def F(t:PS)(ρ:Loc)(H:Hp):Prop:=wpS nosub (qi Psi (ag nosub fnTab 8)) (fun m=>1<=m) t ρ H (fun _ _=>V.none=.bool true) (fun v _=>v=.bool true) (fun _ _=>False)
section
variable {sub:Nat->Nat->Bool}{Φ:Call}{ρ:Loc}{H:Hp}{R:V->Hp->Prop}
theorem qT1:wpT sub Φ [] ρ H R=R (.bool true) H:=rfl
theorem qT2{f:Nat}{es:PEs}{r:List (Nat × PEs)}:wpT sub Φ ((f,es)::r) ρ H R=et sub Φ es ρ H fun vs H1=>Φ (f+1000) vs H1 (fun v H2=>v=.bool true/\wpT sub Φ r ρ H2 R) fun _ _=>False:=rfl
end
section
variable {n:Nat}{H:Hp}{Q:V->Hp->Prop}{X:Nat->Hp->Prop}{R:V->Hp->Prop}
theorem jW{u:V}{r:List Int}{p1 q1 p2 q2:Int}(h1:p1<0)(h2:0<p2)(hQ:Q (.bool true) H):qi Psi (ag nosub fnTab 8) 1057 [u,pg (0::r) p1 q1 p2 q2] H Q fun _ _=>False:=
 DS (k:=57) ⟨rfl,rfl,Fd zT0 (n:=5) (kc:=5) (ha:=21) (re:=8) (tr:=7) (pa:=1) (ti:=30) h1 h2 ⟨rfl,hQ⟩⟩
theorem vC{A A0 B B0:List Int}{l m Na Nb p1 q1 p2 q2 r1 s1 r2 s2:Int}{a b lo1 hi1 lo2 hi2:Re}{b1 b2:Nat}(hA:RwB A A0 l b1)(hB:RwB B B0 m b2)(dA:PG A Na a lo1 hi1 p1 q1 p2 q2 0)(dB:PG B Nb b lo2 hi2 r1 s1 r2 s2 0)
  (hN:A0.length*B0.length<=12) (hb:(2*(b1+b2)+55)*(A0.length*B0.length)+3<=1000) (hg:ab (a*b)<=(((2^50:Nat):Int):Re))
  (hQ:∀R x1 y1 x2 y2 H',H<+:H'->PgG R (a*b) x1 y1 x2 y2->R.length<=A0.length*B0.length+1->Q (pg R x1 y1 x2 y2) H'):ag nosub fnTab (n+7) 30 [pg A p1 q1 p2 q2,pg B r1 s1 r2 s2] H Q X:=
 wU zT0
 (.inr rfl) hA hB dA dB hN hb hg hQ
theorem vx{A A0 B B0:List Int}{l m Na Nb p1 q1 p2 q2 r1 s1 r2 s2:Int}{a b lo1 hi1 lo2 hi2:Re}{b1 b2:Nat}(hA:RwB A A0 l b1)(hB:RwB B B0 m b2)(dA:PG A Na a lo1 hi1 p1 q1 p2 q2 0)(dB:PG B Nb b lo2 hi2 r1 s1 r2 s2 0)
  (hN:A0.length*B0.length<=12) (hb:(2*(b1+b2)+55)*(A0.length*B0.length)+3<=1000) (hg:ab (a+b)<=(((2^50:Nat):Int):Re))
  (hQ:∀R x1 y1 x2 y2 H',H<+:H'->PgG R (a+b) x1 y1 x2 y2->R.length<=A0.length*B0.length+1->Q (pg R x1 y1 x2 y2) H'):ag nosub fnTab (n+7) 29 [pg A p1 q1 p2 q2,pg B r1 s1 r2 s2] H Q X:=
 yU zT0
 (.inl rfl) hA hB dA dB hN hb hg hQ
variable {p q r p' q' r':Int}{d d':Nat}{row row':List Int}{g A L U p1 q1 p2 q2 g' A' L' U' x1 y1 x2 y2:Int}
theorem AX{β:Re}(h:QP p q r d row g A L U p1 q1 p2 q2)(h':QP p' q' r' d' row' g' A' L' U' x1 y1 x2 y2)(hβ:qal p' q' r' d'*β=1)
  (hQ:∀R u1 v1 u2 v2 H',H<+:H'->PgG R (qal p q r d*β) u1 v1 u2 v2->R.length<=5->Q (pg R u1 v1 u2 v2) H'):ag nosub fnTab 8 33 [pg row p1 q1 p2 q2,pg row' x1 y1 x2 y2] H Q X:=by
 refine ay (h.rwb) fun A0 l hA e2 _=>?_
 have d1:=h.pd.toG
 have d2:=h'.pd.toG
 refine ac (h'.la) fun l' hl' l0'=>?_
 refine C5 zT0 (n:=0) (b:=41) ⟨l',HD hl',Ho l0'⟩ h'.sm41 (by decide) d2 h'.pd.tgt hβ fun zs lz lo' hi' u1 v1 u2 v2 N' H1 hp1 hz z0 hlen hm dz=>?_
 have hmem:=HD hz
 have hl3:=h'.len
 refine ac (RwB.of (bD hz) (cM hmem z0) (vD (bD hz) (cM hmem z0) dz.rt) (fL hmem z0 (fun x hx=>h'.sm41 x (hm x hx)))) fun B0 hB eB=>?_
 rw[dX] at eB
 have b2:B0.length<=2:=oqz [B0.length,zs.length,row'.length] [] [(.le Y1 Y2),(.eq Y2 3),(.eq (Y0+1) Y1)] (.le Y0 2) [10111] rfl hlen hl3 eB
 have b4:A0.length*B0.length<=4:=by rw[e2];clear hQ;exact oqz [B0.length] [] [(.le Y0 2)] (.le (.m 2 Y0) 4) [21] rfl b2
 refine vC hA hB d1 dz (by exact owk (by decide) b4) (by clear hQ;have:=HK (2*(41+41)+55) b4;exact om [A0.length*B0.length] [] [(.le Y0 4)] (.le (.a (.m 219 Y0) 3) 1000) [[1,219]] rfl b4) (h.qd.quo h'.qd hβ) fun R a1 c1 a2 c2 H2 hp2 o ho=>?_
 exact hQ _ _ _ _ _ _ (ad hp1 hp2) o (by exact oqz [R.length,A0.length*B0.length] [] [(.le Y1 4),(.le Y0 (Y1+1))] (.le Y0 5) [111] rfl b4 ho)
theorem vv(h:QP p q r d row g A L U p1 q1 p2 q2)(hQ:∀R u1 v1 u2 v2 H',H<+:H'->PgG R 0 u1 v1 u2 v2->Q (pg R u1 v1 u2 v2) H'):ag nosub fnTab 8 32 [pg row p1 q1 p2 q2,pg row p1 q1 p2 q2] H Q X:=by
 refine ay (h.rwb) fun A0 l hA e2 hl=>?_
 have d1:=h.pd.toG
 have hlen:=h.len
 refine aj rfl rfl ?_
 dsimp only[uH,qS1,qS2,qS9,qE5,aS,aC,aD,aB,az,aw,av,aA,au,aa,ah,Nat.reduceSub]
 refine Dn zT0 (n:=4) hl hA.l0 h.one (by rw[hlen];decide) fun σ H1 hp1 hσ h1 h2=>?_
 have sm:AllSm 41 (smul σ (cX row)):=fun x hx=>by
  unfold smul at hx
  refine ac (HP.mp hx) fun y hy zq33=>?_;subst zq33
  have:=r6 h.sm41 y hy
  rcases hσ with rfl|rfl
  ·rw[Ip];exact this
  ·rw[Int.neg_one_mul];exact this.neg
 have hl2:(smul σ (cX row)).length=3:=by rw[bJ,gY,hlen]
 refine ac (RwB.of h1 hA.l0 (by rw[hl2];decide) sm) fun B0 hB eB=>?_
 have b4:A0.length*B0.length<=4:=by rw[e2];clear hQ;exact oqz [B0.length,(smul σ (cX row)).length] [] [(.eq Y1 3),(.eq (Y0+1) Y1)] (.le (.m 2 Y0) 4) [2021] rfl hl2 eB
 have z:qal p q r d+-(qal p q r d)=0:=by grind
 refine vx (n:=0) hA hB d1 (d1.opp hσ) (by exact owk (by decide) b4) (by clear hQ;have:=HK (2*(41+41)+55) b4;exact om [A0.length*B0.length] [] [(.le Y0 4)] (.le (.a (.m 219 Y0) 3) 1000) [[1,219]] rfl b4) (by rw[z];exact dN (n:=0) (by decide) (by decide)) fun R a1 c1 a2 c2 H2 hp2 o ho=>?_
 rw[z] at o
 exact hQ _ _ _ _ _ _ (ad hp1 hp2) o
theorem QD.sgnG(h:QD p q r d):dJ p q d=rsg (qal p q r d):=by
 rw[j5 p q h.d1,<- gw (p:=p) (q:=q) (d:=d) h.r0G,cz,aG (aP h.r0G),Ip]
theorem sm7(h:QD p q r d)(h':QD p' q' r' d'):Sm 64 (p*r')/\Sm 64 (q*r'):=by
 have b6:Sm 3 q:=dE (c:=6) (by have:=h.q0;exact oqz [] [q] [(.or (.an (.il 1 Y0) (.il Y0 6)) (.an (.il (.g 6) Y0) (.il Y0 (.g 1))))] (.il (.g 6) Y0) [11] rfl this) (by have:=h.q0;exact oqz [] [q] [(.or (.an (.il 1 Y0) (.il Y0 6)) (.an (.il (.g 6) Y0) (.il Y0 (.g 1))))] (.il Y0 6) [101] rfl this) (by unfold Sm;decide)
 have b7:Sm 3 r':=dE (c:=7) (by have:=h'.r1;exact oqz [] [r'] [(.il 1 Y0)] (.il (.g 7) Y0) [11] rfl this) h'.r2 (by unfold Sm;decide)
 have bp:Sm 20 p:=dE (c:=1000000) h.p1 h.p2 (by unfold Sm;decide)
 exact ⟨(bp.mul b7).mono (by decide),(b6.mul b7).mono (by decide)⟩
theorem Ed{β:Re}(h:QD p q r d)(h':QD p' q' r' d')(hβ:qal p' q' r' d'*β=1) :
  v4 d d' (p*r') (q*r') 0 0=v4 d d' (p'*r) 0 (q'*r) 0*(qal p q r d*β)/\v4 d d' (p'*r) 0 (q'*r) 0≠0:=by
 have e1:=gw (p:=p) (q:=q) (d:=d) h.r0G
 have e2:=gw (p:=p') (q:=q') (d:=d') h'.r0G
 have eb:v4 d d' (p'*r) 0 (q'*r) 0=(r:Re)*((r':Re)*qal p' q' r' d'):=by
  rw[e2];unfold v4;rw[aq,aq,ax];grind
 refine ⟨?_,?_⟩
 ·rw[eb,show (r:Re)*((r':Re)*qal p' q' r' d')*(qal p q r d*β)=(r':Re)*((r:Re)*qal p q r d)*(qal p' q' r' d'*β) by grind,hβ,e1]
  unfold v4;rw[aq,aq,ax];grind
 ·rw[eb]
  exact du (ci h.r0G) (du (ci h'.r0G) fun k=>jd (by rw[<- hβ,k];grind))
theorem Gu{o0 o1 o4:Option V}{β:Re}(h:QP p q r d row g A L U p1 q1 p2 q2)(h':QP p' q' r' d' row' g' A' L' U' x1 y1 x2 y2)(hβ:qal p' q' r' d'*β=1) :
  F j4 [o0,o1,some (qv p q r d),some (qv p' q' r' d'),o4,some (.int (d:Int)),some (.int (d':Int)),some (pg row p1 q1 p2 q2),some (pg row' x1 y1 x2 y2),none,none,none,none] H:=by
 refine cv (h.qd.sm64) fun sp sq sr sd=>?_
 refine cv (h'.qd.sm64) fun sp' sq' sr' sd'=>?_
 unfold F
 dsimp only[j4]
 generalize hT:oq=T
 dsimp only[qS1,qS2,qS3,qS9,bC,qE1,qE2,qE5,ry,br,l7,aS,bV,aV,aC,aD,cF,aU,aa,ah,aE]
 refine eX (by decide) (AX h h' hβ fun R u1 v1 u2 v2 H1 hp1 o ho=>?_)
 dsimp only[kJ,fM,d9,aU,aa]
 obtain ⟨l,I⟩:=o.peg (Hj ho (by decide))
 refine eX (by decide) (AV zT0 (n:=4) (by decide) (by decide) (Hj ho (by decide)) I fun H2 hp2=>?_)
 dsimp only[aU,bK,ix,lX,aa]
 rw[Hi,decide_eq_false (JG.mpr (show (R.length:Int)<=5 by exact oqz [R.length] [] [(.le Y0 5)] (.il (.c Y0) 5) [11] rfl ho))]
 dsimp only[bK]
 subst hT
 dsimp only[oq,qS1,qS2,qS3,qS9,qE1,qE5,qE8,aS,aV,g7,aC,aD,cD,aa,ah,aE,gF,fR,f0]
 refine ⟨IntMulOk.left sp,IntMulOk.left sq,?_⟩
 refine ⟨IntMulOk.left sp',IntMulOk.left sq',?_⟩
 obtain ⟨e1,e2⟩:=Ed h.qd h'.qd hβ
 obtain ⟨m1,m2⟩:=sm7 h.qd h'.qd
 obtain ⟨m3,m4⟩:=sm7 h'.qd h.qd
 have z:∀k,Sm k 0:=fun k=>Sm.zero
 refine eX (by decide) (y6 zT0 (n:=4) o ho h.qd.d1 h'.qd.d1 sd sd' e2 ⟨_,_,0,0,ao (af _ _) (ai _ _ _),⟨m1,m2,z _,z _⟩,e1.symm⟩ ⟨_,0,_,0,ai _ _ _,⟨m3,z _,m4,z _⟩,rfl⟩ fun H3 hp3=>rfl)
theorem FD{ns:List Int}{o1 o2 o3 o4 o5 o6:Option V}{v8:V}(h0:H[0]?=some (ns.map .int))(h:QP p q r d row g A L U p1 q1 p2 q2) :
  F ki [some (.lst 0),o1,o2,o3,o4,o5,o6,some (pg row p1 q1 p2 q2),some v8,none,none,none,none] H:=by
 unfold F
 dsimp only[ki,qS1,qS2,qS3,GN,qE1,qE5,qE8,qE9,aS,dW,aC,aD,aa,ah,aE]
 refine eX (by decide) (eQ zT0 (n:=7) (by decide) h0 ?_)
 generalize cP ns (11:Int).toNat=c
 refine ⟨by decide,?_⟩
 dsimp only[b9,cQ]
 generalize 2+c.fmod 30=m
 dsimp only[qT2,qE5,aS,aC,aD,aa,ah,Nat.reduceAdd]
 refine jW (r:=[0-m,0,1]) (p1:=-1) (q1:=1) (p2:=1) (q2:=1) (by decide) (by decide) ⟨rfl,?_⟩
 refine eX (by decide) (vv h fun R u1 v1 u2 v2 H1 hp1 o=>?_)
 refine gf (o.zero) fun zq32 k1 k2=>?_;obtain ⟨r0,rfl⟩:=zq32
 exact jW k1 k2 ⟨rfl,rfl⟩
theorem CB{ns:List Int}{o1 o4:Option V}(h0:H[0]?=some (ns.map .int))(h1:QD p q r d)(h2:QD p' q' r' d') :
  F j6 [some (.lst 0),o1,some (qv p q r d),some (qv p' q' r' d'),o4,none,none,none,none,none,none,none,none] H:=by
 refine cv (h2.sm64) fun sp' sq' sr' sd'=>?_
 unfold F
 dsimp only[j6]
 generalize hT3:ki=T3
 generalize hT2:j4=T2
 dsimp only[qS1,qS2,qS3,bC,Hg,qE1,qE5,br,aS,aV,aC,aD,aa,ah,aE,gF,fR,f0,i7]
 refine eX (by decide) (yl zT0 (n:=4) h1 fun H1 row g A L U p1 q1 p2 q2 hp1 qp=>?_)
 refine eX (by decide) (yl zT0 (n:=4) h2 fun H2 row' g' A' L' U' x1 y1 x2 y2 hp2 qp'=>?_)
 refine eX (by decide) (tT zT0 (n:=6) (sp'.mono (by decide)) (sq'.mono (by decide)) sd' ?_)
 rw[QD.sgnG h2]
 dsimp only[fA,aU,aa]
 by_cases hz:qal p' q' r' d'=0
 ·rw[decide_eq_true (rsg_is0.mpr hz)]
  dsimp only[qE1,qE5,qE9,dW,aC,aD,bw,aa,ah,Nat.reduceAdd,qT1,qT2]
  have dG:=qp'.pd.toG
  rw[hz] at dG
  refine gf (dG.zero) fun zq31 k1 k2=>?_;obtain ⟨r0,rfl⟩:=zq31
  refine jW k1 k2 ⟨rfl,?_⟩
  refine jW (r:=[1]) (p1:=-2) (q1:=1) (p2:=1) (q2:=3) (by decide) (by decide) ⟨rfl,?_⟩
  subst hT3
  exact FD (ao (ad hp1 hp2) h0) qp
 ·rw[decide_eq_false fun k=>hz (rsg_is0.mp k)]
  dsimp only[bK]
  subst hT2
  refine ac (qp'.la) fun l' hl' l0'=>?_
  obtain ⟨β,hβ⟩:=vX hz ⟨l',HD hl',Ho l0'⟩ qp'.pd.toG.rt
  exact Gu qp qp' hβ
end
theorem spec(ns:List Int)(h:ns.length<=63):F b_law (cI 1 13 [.lst 0]) [ns.map .int]:=by
 unfold F
 dsimp only[b_law]
 generalize hT:j6=T
 dsimp only[qS1,qS2,qS3,bC,qE1,qE5,qE8,br,aS,aV,dW,aC,aD,aB,az,aw,av,aM,aA,au,aa,ah,aE,Nat.reduceSub]
 refine eX (by decide) (GJ zT0 (n:=5) (m:=0) (ns:=ns) rfl fun p q r d p' q' r' d' h1 h2=>?_)
 dsimp only[bu,bT,fR,f0]
 refine eX (by decide) (eQ zT0 (n:=7) (by decide) (ns:=ns) rfl ?_)
 generalize cP ns (9:Int).toNat=c9
 refine ⟨by decide,?_⟩
 dsimp only[fA,aU,aa]
 subst hT
 by_cases hc:c9.fmod 5=1
 ·rw[decide_eq_true hc]
  dsimp only[bw]
  refine eX (by decide) (eQ zT0 (n:=7) (by decide) (ns:=ns) rfl ?_)
  generalize cP ns (10:Int).toNat=c10
  refine ⟨by decide,?_⟩
  dsimp only[b9,cQ,cD]
  refine cv (h2.sm64) fun sp' sq' sr' sd'=>?_
  have k1:0<=c10.fmod 5:=J7 c10 (by decide)
  have k2:c10.fmod 5<5:=Int.fmod_lt_of_pos c10 (by decide)
  generalize hw:1+c10.fmod 5=w
  have w1:1<=w:=oqz [] [w,c10.fmod 5] [(.il 0 Y1),(.ie (1+Y1) Y0)] (.il 1 Y0) [111] rfl k1 hw
  have w5:w<=5:=oqz [] [w,c10.fmod 5] [(.il (Y1+1) 5),(.ie (1+Y1) Y0)] (.il Y0 5) [1011] rfl k2 hw
  clear hw k1 k2
  obtain ⟨m,rfl⟩:=Int.eq_ofNat_of_zero_le (show 0<=w by exact oqz [] [w] [(.il 1 Y0)] (.il 0 Y0) [11] rfl w1)
  have hm:m=1\/m=2\/m=3\/m=4\/m=5:=oqz [m] [] [(.il 1 (.c Y0)),(.il (.c Y0) 5)] (.or (.eq Y0 1) (.or (.eq Y0 2) (.or (.eq Y0 3) (.or (.eq Y0 4) (.eq Y0 5))))) [100001,11,110,1100,11000,1010000] rfl w1 w5
  have hQ:QD (0-q'*(m:Int)) q' r' (m*m):=by
   have q0:=h2.q0
   refine ⟨?_,?_,h2.q0,h2.r1,h2.r2,?_,?_⟩ <;> rcases hm with rfl|rfl|rfl|rfl|rfl <;> first|omega|decide
  refine ⟨IntMulOk.left sq',IntMulOk.left (dE (c:=5) (by exact oqz [m] [] [] (.il (.g 5) (.c Y0)) [1] rfl) (by exact oqz [m] [] [(.il (.c Y0) 5)] (.il (.c Y0) 5) [11] rfl w5) (by unfold Sm;decide)),?_⟩
  rw[show (m:Int)*(m:Int)=((m*m:Nat):Int) from (Ij m m).symm]
  exact CB rfl h1 hQ
 ·rw[decide_eq_false hc]
  dsimp only[bK]
  exact CB rfl h1 h2
end L11
end Mine
open PySem PyProof.Rows PySem.Calls PySem.W
set_option Elab.async false
namespace Mine
noncomputable def L11.lawDef:cW:=match ((recsOf Mine.fN).map gg)[58]? with|some d=>d|none=>⟨default,default,[],default⟩
noncomputable def L11.gc:GC:=⟨L11.fnNames,L11.clsNames,[(Str.ofString "HALF",1,2),(Str.ofString "QUARTER",1,4),(Str.ofString "NOUGHT",0,1),(Str.ofString "ONE",1,1)]⟩
theorem L11.chkb:rM L11.gc ((recsOf fN).map gg) L11.fnTab L11.varTab=((recsOf fN).map gg).map fun d=>(d.body,true):=by kernel_rfl
theorem L11.chk:Chk L11.gc ((recsOf fN).map gg) L11.fnTab L11.varTab:=⟨by decide +kernel,L11.chkb⟩
theorem L11.nocell(d:cW)(hd:((recsOf fN).map gg)[33]?=some d):(d.scope.names.all fun x=>!(x.2 == NameKind.cell))=true:=by
 have h0:(((recsOf fN).map gg)[33]?.all fun d=>d.scope.names.all fun x=>!(x.2 == NameKind.cell))=true:=by decide +kernel
 rw[hd] at h0
 exact h0
theorem L11.said:PySem.Challenge.rw_uf020007_11.wellSaid=true:=by kernel_rfl
noncomputable def OL(p:Program):PySem.W.OpenLaw:={ prog:=p,name:=Str.ofString "law",about:=[Str.ofString "divided"],foot:=25,most:=some 63,bound:=none,writes:=false }
theorem L11.fin{p:Program} (htree:p.given.tree=none) {w:World}{s0 s1:Shared}{mg mb:Str->Option Value}{DT:List cW}{fa:Addr}{args:List WData}{vals:List Value}{as:List Addr} (GF1:GF ⟨mg,mb,cj mg L11.gc.fns,fun _=>.none⟩ L11.gc DT s1.heap) (hlen:L11.gc.fns.length=DT.length) (chk:Chk L11.gc DT L11.fnTab L11.varTab) (hmg:mg (Str.ofString "law")=some (.ref fa)) (hg:s1.gens=#[])
  (hS:∀ (d:cW) (vn:List Str) (cd:Value),DT[58]?=some d->jR ⟨p,w,⟨mg,mb,cj mg L11.gc.fns,fun _=>.none⟩,DT,callerA.deeper (envOfC d.name d.scope s1.heap.objs.size (cj mg L11.gc.fns 58) cd),L11.nosub,qi L11.Psi (ag L11.nosub L11.fnTab 8)⟩ ⟨⟨L11.gc,d.scope,vn⟩,envOfC d.name d.scope s1.heap.objs.size (cj mg L11.gc.fns 58) cd,s1.heap⟩)
  (hpre:(OL p).row.claim.pre args=true) (hlay:WData.layableAll args=true) (hrd:ReadsAllW (OL p).row.records (classAt s0.heap) s1.heap vals args as) (hwl:WellAll w.params s1.heap vals args) (hlo:∀a,a∈as->(a == sysModules)=false) :
  wpAny (model (OL p).row.prog w) callerA ((fun f vs=>call f vs) (.ref fa) vals) (fun v s'=>GoodWG (OL p).row.claim (classAt s0.heap) (ExcName.means s0.heap) args s1 (Except.ok (Flow.ret v)) s') (fun e s'=>GoodWG (OL p).row.claim (classAt s0.heap) (ExcName.means s0.heap) args s1 (Except.error e) s') s1:=by
 wrow_args hpre hlay hrd hwl hlo
 all_goals (
  first|refine callC_kw (enter_call ?_) |refine enter_call ?_|refine callC_kw (enter_callW ?_) |refine enter_callW ?_|w_how
  w_top on
  try refine codeAny_mono ?_ (fun _ _ g=>GoodW.toG g)
  rename_i hL hlay1 _ _ _ _ _ _ _ hLs _ _ _ hI _ hcond _
  refine Mine.vR htree (gc:=Mine.L11.gc) (P:=Mine.L11.fnTab) (VT:=Mine.L11.varTab) (sub:=Mine.L11.nosub) (k:=58) (n:=8) (x:="law") (Ψ:=Mine.L11.Psi)
   GF1 hlen chk (by decide) hLs hI (by omega) (by decide +kernel) hmg (by decide) (fd:=⟨1,13,Mine.L11.b_law⟩) rfl rfl hS (Mine.L11.spec _ (by omega)) ?_
  ·intro h' tk kp
   exact ⟨.inl ⟨_,.bool true,[],rfl,by intro cls;rfl,.bool true,(by first|rfl|exact postW_of rfl rfl (by decide +kernel)),unshared_nil⟩,kp,rfl,hg⟩)
end Mine
theorem PySem.Challenge.cw_uf020007_11_holds : PySem.Challenge.rw_uf020007_11.Holds := by
 w_on
 refine holds_law Mine.L11.said fun said=>?_
 refine holds_open (q:=Mine.fN) (loose:=[]) (XP:=XL Mine.fN []) (YP:=InK Mine.K11) (N:=4500) Mine.Db (InK.of (fun _=>by kernel_rfl)) InK.keeps (fun s e=>xl_of s (Bool.and_eq_true_iff.mp e).1) XL.keeps (by rfl) (by rfl) (by rfl) (fun s e=>recFacts_of (Bool.and_eq_true_iff.mp e).2) (by rfl) (by first | assumption | decide +kernel) (by decide +kernel) ⟨rfl,rfl,rfl,rfl,rfl,by decide +kernel⟩ ?hw ?hc
 case hw=>w_witness2
 k_fill
 intro w s₀ s₁ mg mb G Y fa o pm cd doc dV kV ho hd hcd hD hmg hg args vals as hpre hlay hrd hwl hlo
 have KX:(Mine.K11 w.params).In s₁.heap:=Y
 refine Ground.open G ?_
 intro T B D TE TW
 have GF0:=Mine.wX (gc:=⟨Mine.L11.gc.fns,Mine.L11.gc.cls,[]⟩) T (by decide +kernel) rfl (by decide +kernel) (by decide +kernel)
 have m0 := mg_of KX T.g (show nsIn (Mine.K11 w.params) mainGlobals (Str.ofString "HALF") = some (some (.ref 206)) by k_is)
 have m1 := mg_of KX T.g (show nsIn (Mine.K11 w.params) mainGlobals (Str.ofString "QUARTER") = some (some (.ref 207)) by k_is)
 have m2 := mg_of KX T.g (show nsIn (Mine.K11 w.params) mainGlobals (Str.ofString "NOUGHT") = some (some (.ref 243)) by k_is)
 have m3 := mg_of KX T.g (show nsIn (Mine.K11 w.params) mainGlobals (Str.ofString "ONE") = some (some (.ref 244)) by k_is)
 have GF1:Mine.GF ⟨mg,mb,Mine.cj mg Mine.L11.gc.fns,fun _=>.none⟩ Mine.L11.gc ((recsOf Mine.fN).map Mine.gg) s₁.heap:=Mine.xd GF0 (fun x a b hx=>by
  rcases List.mem_cons.mp hx with hx | hx
  ·cases hx
   exact ⟨206,447,448,m0,Mine.sM w.params,KX 206 _ rfl,rfl,_,rfl⟩
  rcases List.mem_cons.mp hx with hx | hx
  ·cases hx
   exact ⟨207,450,451,m1,Mine.sQ w.params,KX 207 _ rfl,rfl,_,rfl⟩
  rcases List.mem_cons.mp hx with hx | hx
  ·cases hx
   exact ⟨243,502,503,m2,Mine.uh w.params,KX 243 _ rfl,rfl,_,rfl⟩
  rcases List.mem_cons.mp hx with hx | hx
  ·cases hx
   exact ⟨244,505,506,m3,Mine.tj w.params,KX 244 _ rfl,rfl,_,rfl⟩
  cases hx)
 have m7 := mg_of KX T.g (show nsIn (Mine.K11 w.params) mainGlobals (Str.ofString "divided") = some (some (.ref 315)) by k_is)
 have m22 := mg_of KX T.g (show nsIn (Mine.K11 w.params) mainGlobals (Str.ofString "_law_refused") = some (some (.ref 471)) by k_is)
 have c3 := mg_of KX T.g (show nsIn (Mine.K11 w.params) mainGlobals (Str.ofString "NoQuotient") = some (some (.ref 85)) by k_is)
 have fa7:Mine.cj mg Mine.L11.fnNames 33=315:=by
  show (match mg (Str.ofString "divided") with | some (.ref a) => a | _ => 0) = 315
  rw[m7]
 have fa22:Mine.cj mg Mine.L11.fnNames 57=471:=by
  show (match mg (Str.ofString "_law_refused") with | some (.ref a) => a | _ => 0) = 471
  rw[m22]
 obtain ⟨hP,hdefs⟩:=Mine.nZ Mine.L11.chk
 have key:∀ (s:Shared) (α:List Addr) (vals:List Value) (vs:List Mine.V) (H:Mine.Hp) (Q:Mine.V->Mine.Hp->Prop) (E:Value->Shared->Prop) (m:Str->Option Value) (news:List (Addr × Obj)) (Z:Value->Shared->Prop) (fb:Addr) (cd:Value),Mine.L11.Psi 57 vs H Q ->
   Fr s₁.heap s₁.heap.objs.size s.heap m->News s₁.heap s₁.heap.objs.size s.heap news->(∀ b o,s.heap.get? b=some o->s₁.heap.get? b=none->b≠s₁.heap.objs.size->(b,o)∈news) ->
   Mine.HR ⟨mg,mb,Mine.cj mg Mine.L11.fnNames,fun _=>.none⟩ α s.heap H->Mine.Reps ⟨mg,mb,Mine.cj mg Mine.L11.fnNames,fun _=>.none⟩ α s.heap vals vs ->
   (∀ (v:Value) (d:Mine.V) (h':Heap) (tk:Nat) (news':List (Addr × Obj)) (β:List Addr) (K:Mine.Hp),Fr s₁.heap s₁.heap.objs.size h' m->News s₁.heap s₁.heap.objs.size h' news'->(∀ q∈news,q∈news')->(∀ b∈β,s.heap.get? b=none) ->
    Mine.HR ⟨mg,mb,Mine.cj mg Mine.L11.fnNames,fun _=>.none⟩ (α++β) h' (H++K)->Mine.Rep ⟨mg,mb,Mine.cj mg Mine.L11.fnNames,fun _=>.none⟩ (α++β) h' v d->Q d (H++K)->Z v { s with heap:=h',toks:=tk }) ->
   wpAny (model rw_uf020007_11.row.prog w) (callerA.deeper (envOf (Str.ofString "law") Mine.L11.lawDef.scope s₁.heap.objs.size fb cd)) (call (.ref 471) vals) Z E s := by
  intro s α vals vs H Q E m news Z fb cd hpsi F N full hR hr hZ
  obtain ⟨_,hlen,hw⟩:=hpsi
  obtain ⟨v1,v2,rfl⟩:=Mine.Fq hr hlen
  have K0:=below_caller s₁.heap
  obtain ⟨_,_,M⟩:=bmod_of_top T
  clear ho hd hcd hD hmg hpre hlay hrd hwl hlo B D TE TW
  have F0:=F
  have N0:=N
  w_top on
  have hD:KtsDicts (([]:List Env).filterMap (·.frame)) s₁.heap:=ktsDicts_nil
  refine wpAny_call ?_
  k_dflt (refine' code_defS0 ?k1 ?k2 ?k3 ?k4 ?k5 ?kA ?k6 ?k7 ?k8 ?k9 ?kB ?_ ?cK ?c2 ?c3 ?c4 ?c5; (case kA => exact rfl); (case k2 => k_asm); (case k1 => k_asm); (case k3 => k_asm); (case k4 => k_asm); (case k5 => k_asm); (case k6 => k_is); (case k7 => k_is); (case k8 => k_room); (case k9 => first | exact binds_K (by k_in) rfl (by k_is) rfl rfl rfl | exact BindsTo.of_eq rfl | fail "kts_go: no rule for these arguments"); (case kB => exact locs rfl); (case cK => exact rfl); (case c2 => exact rfl); (case c3 => exact rfl); (case c4 => exact rfl); (case c5 => decide); k_whole; intro g' L' h' FG' F' N' B' X' T' D'; (try dsimp only); (try k_lift B'); (try k_fold))
  iterate 13 (first | (k_unfold; (try dsimp only)) | walk1 | (dsimp only; walk1))
  refine ⟨Frag.In.keeps X' F'.keep,?_⟩
  have led:∀ q∈news,h'.get? q.1=some q.2:=fun q hq=>(N' q hq).1
  have kB:=Mine.kr F0 full (fun b o e=>F'.keep b o (FG'.keep b o e)) led
  have hR':=kB.hr hR
  have hr':=Mine.Reps.mono (fun _ _ e=>e) kB.tup hr
  have KB := B'.push F' (name := Str.ofString "_law_refused") (a := 471) (cd := Value.ref 470) (scope := (Mine.rK 74).2.2)
  have TT:=T'.keeps F'.keep
  have GFh:=GF1.keeps (fun b o e=>F'.keep b o (FG'.keep b o e))
  have hroom:∀ e1 e2,Mine.Room rw_uf020007_11.row.prog ((callerA.deeper e1).deeper e2) 8:=fun e1 e2=>((Mine.kZ (n:=10) rfl (by decide)).down).down
  have e315:(Value.ref 315)=.ref (Mine.cj mg Mine.L11.fnNames 33):=by rw[fa7]
  refine wpAny_call ?_
  rw[e315]
  refine codeAny_mono (Mine.rQ (prog:=rw_uf020007_11.row.prog) (w:=w) (G:=⟨mg,mb,Mine.cj mg Mine.L11.fnNames,fun _=>.none⟩) (gc:=Mine.L11.gc) (DT:=(recsOf Mine.fN).map Mine.gg) (P:=Mine.L11.fnTab) (sub:=Mine.L11.nosub) (n:=7) (Φ:=Mine.ag Mine.L11.nosub Mine.L11.fnTab 7) (f:=33) (vs:=vs) (H:=H)
   (Q:=fun _ _=>False) (Y:=fun c H'=>c=5/\Q (.bool true) H) (fd:=⟨2,5,Mine.L11.b_divided⟩) (hroom _ _) hdefs
   (fun env=>(Mine.gv (by rw[hP]; rfl) (by decide) hdefs 7 _ (hroom _ _).down).wp) (Mine.xM (by decide) 7) rfl rfl hlen hw α [v1,v2] ?EE GFh hR' hr' KB TT Mine.L11.nocell ?hS ?hX) (fun r s' p=>?_)
  rotate_left 3
  ·cases r with
   | error e=>exact p
   | ok fl =>
    cases fl with
    | ret v =>
     obtain ⟨h2,tk2,β,K,d,rfl,k2,f2,R2,r2,q2⟩:=p
     exact q2.elim
    | _=>exact p.elim
  ·intro k x H' hk hy
   obtain rfl:k=5:=hy.1
   obtain rfl : Str.ofString "NoQuotient" = x := Option.some.inj hk
   kernel_rfl
  ·intro k x C e t us h'' tk' H' hk hC hy RS US
   obtain ⟨G₂,RS2,FG2,US2⟩:=Mine.pL RS N' F' (fun b e=>by
    cases e1:s₁.heap.get? b with
    | none=>rfl
    | some o1=>rw[FG'.keep _ _ e1] at e; cases e) (fun q hq hm=>by
     rcases kts_mem hm with hm | hm
     ·exact (N' q hq).2.1 hm
     ·rcases kts_mem hm with hm | hm
      ·obtain ⟨oL,_,_,hoL,_⟩:=FG'.ns
       rw[← hm,(N' q hq).2.2] at hoL; cases hoL
      ·cases hm) US
   clear F' N' RS US KB TT GFh hR' hr' kB led
   obtain rfl:k=5:=hy.1
   obtain rfl : Str.ofString "NoQuotient" = x := Option.some.inj hk
   obtain rfl:85=C:=by
    have hC' : mg (Str.ofString "NoQuotient") = some (.ref C) := hC
    rw[c3] at hC'; cases hC'; rfl
   iterate 1 (first | (k_unfold; (try dsimp only)) | walk1 | (dsimp only; walk1))
   k_dflt (refine' hit_SB ?R ?F ?K ?U ?XB ?TB ?D ?T0 ?T ?_; (case R=>assumption); (case F=>assumption); (case K=>assumption); (case U=>assumption); (case XB=>assumption); (case TB=>assumption); (case D=>assumption); (case T0=>first | assumption | exact KtsTurn.refl); (case T=>kts_test); k_whole)
   intro h2 g2 n2 tk2 T2 F2 N2 G2 N3 K2 X2 P2 D2
   obtain ⟨oe,ot,ws,nt,m1,m2,ec,ed,e0,tc,td⟩:=G2
   have N4:=Mine.vq N3 (N2 _ m1)
   clear N2 N3 m1 m2 tc td e0
   (try k_lift K2)
   (try k_sweep)
   repeat' (first | (k_unfold; (try dsimp only)) | (k_end; kc_close) | (k_here; (with_reducible show wpAny _ _ (call _ [Value.ref _,_]) _ _ _); k_dflt (refine' kia_one (Mine.oA ?k5 ?k6 ?k7 ?k8 ?k9) ?X ?I ?ee ?nb ?_; (case X=>k_in); (case I=>exact Mine.t8 (by k_asm) (by k_mem) (by assumption)); (case ee=>kit_is); (case nb=>kit_nb); (case k5=>k_is); (case k6=>k_is); (case k7=>k_is); (case k8=>k_is); (case k9=>k_is); k_whole; intro _)) | (k_here; (with_reducible show wpAny _ _ (call _ [Value.ref _,Value.ref _]) _ _ _); k_dflt (refine' kia_tup (Mine.oA ?k5 ?k6 ?k7 ?k8 ?k9) ?X ?I ?p ?ee ?nb ?_; (case p=>kit_tp); (case X=>k_in); (case I=>exact Mine.t8 (by k_asm) (by k_mem) (by assumption)); (case ee=>kit_is); (case nb=>kit_nb); (case k5=>k_is); (case k6=>k_is); (case k7=>k_is); (case k8=>k_is); (case k9=>k_is); k_whole; intro _)) | walk1 | (dsimp only; walk1) | (leave1; (try dsimp only)) | fail)
   rename_i kF kN Tc kX
   exact Mine.yu hZ F0 full hR hy.2 kF kN (fun q hq=>by repeat (first | exact hq | apply List.Mem.tail))
 refine Mine.L11.fin (p:=PySem.Challenge.pw_uf020007_11) rfl GF1 (by decide +kernel) Mine.L11.chk hmg hg (fun d vn cd hd13=>?_) hpre hlay hrd hwl hlo
 have hdd:d=Mine.L11.lawDef:=(Option.some.inj ((show ((recsOf Mine.fN).map Mine.gg)[58]?=some Mine.L11.lawDef from rfl).symm.trans hd13)).symm
 subst hdd
 refine Mine.xV (fun k vs H Q hq s α vals E m news Z F N full R r hZ=>?_) (Nat.le_refl _)
 rcases hq with ⟨hq,_⟩ | ⟨_,hq⟩
 ·exact absurd hq (by omega)
 ·rw[Nat.add_sub_cancel] at hq
  obtain rfl:k=57:=hq.1
  show wpAny _ _ (call (.ref (Mine.cj mg Mine.L11.fnNames 57)) _) _ _ _
  rw[fa22]
  exact key s α vals vs H Q E m news Z _ cd hq F N full R r hZ
